import PyProof.Rows.All
import Wide.All
import OpenK.AllK
import Wide.FinOn
import HandS.ForMost
import PySem.Challenge.RW_everyfire_k78_whole_refuges
import HandS.Evl
import HandS.Walk
import HandS.Zip
import HandS.Deep
import HandS.Codes
import HandS.Strs
import HandS.Style
import HandS.SortKw
import KE.DatumOrd
import KE.GoesMore
import PySem.PyData
import HandS.Property
import HandS.MakeKwOnly
import HandS.WordsExc
import HandS.Defaults
import KE.KStateDown
import Lean
import HandS.Head0
import HandS.Head1
import HandS.Head2
import HandS.HeadEnd
import HandS.HeadHook1
import HandS.HeadHook2
/-! ==== EfText -/
set_option Elab.async false
set_option linter.all false
set_option maxRecDepth 100000
set_option maxHeartbeats 4000000
/-! The program's defs by their places among the top's statements; the names of each by slot. Printed by gentext.py. -/
namespace Ef
open PySem L2
def top (i : Nat) : Stmt := PySem.Challenge.pw_everyfire_k78_whole_refuges.main.body.getD i (.Pass ⟨0, 0, 0, 0⟩)
abbrev s_check_winds : Stmt := top 10
abbrev N_check_winds : List Str := ["land", "weather", "_", "wind"]
abbrev P_check_winds : List Str := ["land", "weather"]
theorem sc_check_winds : FnScope N_check_winds P_check_winds (defScope s_check_winds) := ⟨rfl, rfl, rfl, by decide +kernel, rfl, by decide +kernel, by decide +kernel⟩
abbrev s_check_changes : Stmt := top 11
abbrev N_check_changes : List Str := ["weather", "minutes", "minute", "_", "later"]
abbrev P_check_changes : List Str := ["weather"]
theorem sc_check_changes : FnScope N_check_changes P_check_changes (defScope s_check_changes) := ⟨rfl, rfl, rfl, by decide +kernel, rfl, by decide +kernel, by decide +kernel⟩
abbrev s_blowing : Stmt := top 12
abbrev N_blowing : List Str := ["weather", "minute", "start", "wind"]
abbrev P_blowing : List Str := ["weather", "minute"]
theorem sc_blowing : FnScope N_blowing P_blowing (defScope s_blowing) := ⟨rfl, rfl, rfl, by decide +kernel, rfl, by decide +kernel, by decide +kernel⟩
abbrev s_chances : Stmt := top 13
abbrev N_chances : List Str := ["weather", "minute", "start", "_"]
abbrev P_chances : List Str := ["weather", "minute"]
theorem sc_chances : FnScope N_chances P_chances (defScope s_chances) := ⟨rfl, rfl, rfl, by decide +kernel, rfl, by decide +kernel, by decide +kernel⟩
abbrev s_least_numbers : Stmt := top 15
abbrev N_least_numbers : List Str := ["land", "link", "pair"]
abbrev P_least_numbers : List Str := ["land"]
theorem sc_least_numbers : FnScope N_least_numbers P_least_numbers (defScope s_least_numbers) := ⟨rfl, rfl, rfl, by decide +kernel, rfl, by decide +kernel, by decide +kernel⟩
abbrev s_check_rows : Stmt := top 16
abbrev N_check_rows : List Str := ["land", "rows", "place", "_"]
abbrev P_check_rows : List Str := ["land", "rows"]
theorem sc_check_rows : FnScope N_check_rows P_check_rows (defScope s_check_rows) := ⟨rfl, rfl, rfl, by decide +kernel, rfl, by decide +kernel, by decide +kernel⟩
abbrev s_least_minutes : Stmt := top 17
abbrev N_least_minutes : List Str := ["rows", "found", "place", "minute"]
abbrev P_least_minutes : List Str := ["rows"]
theorem sc_least_minutes : FnScope N_least_minutes P_least_minutes (defScope s_least_minutes) := ⟨rfl, rfl, rfl, by decide +kernel, rfl, by decide +kernel, by decide +kernel⟩
abbrev s_caught : Stmt := top 18
abbrev N_caught : List Str := ["land", "weather", "row", "minute", "ends", "start", "number"]
abbrev P_caught : List Str := ["land", "weather", "row", "minute"]
theorem sc_caught : FnScope N_caught P_caught (defScope s_caught) := ⟨rfl, rfl, rfl, by decide +kernel, rfl, by decide +kernel, by decide +kernel⟩
abbrev s_spread : Stmt := top 19
abbrev N_spread : List Str := ["land", "weather", "starts", "breaks", "numbers", "broken", "waiting", "place", "minute", "found", "link", "row", "end"]
abbrev P_spread : List Str := ["land", "weather", "starts", "breaks", "numbers"]
theorem sc_spread : FnScope N_spread P_spread (defScope s_spread) := ⟨rfl, rfl, rfl, by decide +kernel, rfl, by decide +kernel, by decide +kernel⟩
abbrev s_check_asked : Stmt := top 21
abbrev N_check_asked : List Str := ["land", "weather", "starts", "breaks", "rows", "places"]
abbrev P_check_asked : List Str := ["land", "weather", "starts", "breaks", "rows"]
theorem sc_check_asked : FnScope N_check_asked P_check_asked (defScope s_check_asked) := ⟨rfl, rfl, rfl, by decide +kernel, rfl, by decide +kernel, by decide +kernel⟩
abbrev s_first_arrivals : Stmt := top 23
abbrev N_first_arrivals : List Str := ["land", "fast", "place", "minute", "waiting", "sources", "found", "here", "now", "other", "minutes", "end", "is_free"]
abbrev P_first_arrivals : List Str := ["land", "fast", "place", "minute"]
theorem sc_first_arrivals : FnScope N_first_arrivals P_first_arrivals (defScope s_first_arrivals) := ⟨rfl, rfl, rfl, by decide +kernel, rfl, by decide +kernel, by decide +kernel⟩
abbrev s_safe_walk : Stmt := top 24
abbrev N_safe_walk : List Str := ["land", "weather", "starts", "breaks", "place", "minute", "fast", "found", "sources", "ends", "here", "rows", "at", "other"]
abbrev P_safe_walk : List Str := ["land", "weather", "starts", "breaks", "place", "minute"]
theorem sc_safe_walk : FnScope N_safe_walk P_safe_walk (defScope s_safe_walk) := ⟨rfl, rfl, rfl, by decide +kernel, rfl, by decide +kernel, by decide +kernel⟩
abbrev s_is_safe_walk : Stmt := top 25
abbrev N_is_safe_walk : List Str := ["land", "weather", "starts", "breaks", "rows", "fast", "here", "now", "other", "end", "minutes", "place", "minute"]
abbrev P_is_safe_walk : List Str := ["land", "weather", "starts", "breaks", "rows"]
theorem sc_is_safe_walk : FnScope N_is_safe_walk P_is_safe_walk (defScope s_is_safe_walk) := ⟨rfl, rfl, rfl, by decide +kernel, rfl, by decide +kernel, by decide +kernel⟩
abbrev s_refuges : Stmt := top 26
abbrev N_refuges : List Str := ["land", "weather", "starts", "breaks", "minute", "place"]
abbrev P_refuges : List Str := ["land", "weather", "starts", "breaks", "minute"]
theorem sc_refuges : FnScope N_refuges P_refuges (defScope s_refuges) := ⟨rfl, rfl, rfl, by decide +kernel, rfl, by decide +kernel, by decide +kernel⟩
abbrev s_is_name : Stmt := top 35
abbrev N_is_name : List Str := ["text", "char"]
abbrev P_is_name : List Str := ["text"]
theorem sc_is_name : FnScope N_is_name P_is_name (defScope s_is_name) := ⟨rfl, rfl, rfl, by decide +kernel, rfl, by decide +kernel, by decide +kernel⟩
abbrev s_are_different : Stmt := top 36
abbrev N_are_different : List Str := ["parts", "number", "part"]
abbrev P_are_different : List Str := ["parts"]
theorem sc_are_different : FnScope N_are_different P_are_different (defScope s_are_different) := ⟨rfl, rfl, rfl, by decide +kernel, rfl, by decide +kernel, by decide +kernel⟩
abbrev s_require : Stmt := top 37
abbrev N_require : List Str := ["holds"]
abbrev P_require : List Str := ["holds"]
theorem sc_require : FnScope N_require P_require (defScope s_require) := ⟨rfl, rfl, rfl, by decide +kernel, rfl, by decide +kernel, by decide +kernel⟩
abbrev s_checked_times : Stmt := top 38
abbrev N_checked_times : List Str := ["times", "many", "found", "pair"]
abbrev P_checked_times : List Str := ["times", "many"]
theorem sc_checked_times : FnScope N_checked_times P_checked_times (defScope s_checked_times) := ⟨rfl, rfl, rfl, by decide +kernel, rfl, by decide +kernel, by decide +kernel⟩
abbrev s_init : Stmt := inClass (top 39) 0
abbrev N_init : List Str := ["self", "winds", "places", "links", "paths", "wind", "place", "link", "path"]
abbrev P_init : List Str := ["self", "winds", "places", "links", "paths"]
theorem sc_init : FnScope N_init P_init (defScope s_init) := ⟨rfl, rfl, rfl, by decide +kernel, rfl, by decide +kernel, by decide +kernel⟩
abbrev s_are_ends : Stmt := inClass (top 39) 1
abbrev N_are_ends : List Str := ["self", "one", "other"]
abbrev P_are_ends : List Str := ["self", "one", "other"]
theorem sc_are_ends : FnScope N_are_ends P_are_ends (defScope s_are_ends) := ⟨rfl, rfl, rfl, by decide +kernel, rfl, by decide +kernel, by decide +kernel⟩
abbrev s_checked_link : Stmt := inClass (top 39) 2
abbrev N_checked_link : List Str := ["self", "link", "name", "one", "other", "times"]
abbrev P_checked_link : List Str := ["self", "link"]
theorem sc_checked_link : FnScope N_checked_link P_checked_link (defScope s_checked_link) := ⟨rfl, rfl, rfl, by decide +kernel, rfl, by decide +kernel, by decide +kernel⟩
abbrev s_checked_path : Stmt := inClass (top 39) 3
abbrev N_checked_path : List Str := ["self", "path", "one", "other", "minutes"]
abbrev P_checked_path : List Str := ["self", "path"]
theorem sc_checked_path : FnScope N_checked_path P_checked_path (defScope s_checked_path) := ⟨rfl, rfl, rfl, by decide +kernel, rfl, by decide +kernel, by decide +kernel⟩
abbrev s_link_names : Stmt := inClass (top 39) 4
abbrev N_link_names : List Str := ["self", "link"]
abbrev P_link_names : List Str := ["self"]
theorem sc_link_names : FnScope N_link_names P_link_names (defScope s_link_names) := ⟨rfl, rfl, rfl, by decide +kernel, rfl, by decide +kernel, by decide +kernel⟩
abbrev s_check_place : Stmt := inClass (top 39) 5
abbrev N_check_place : List Str := ["self", "place"]
abbrev P_check_place : List Str := ["self", "place"]
theorem sc_check_place : FnScope N_check_place P_check_place (defScope s_check_place) := ⟨rfl, rfl, rfl, by decide +kernel, rfl, by decide +kernel, by decide +kernel⟩
abbrev s_check_wind : Stmt := inClass (top 39) 6
abbrev N_check_wind : List Str := ["self", "wind"]
abbrev P_check_wind : List Str := ["self", "wind"]
theorem sc_check_wind : FnScope N_check_wind P_check_wind (defScope s_check_wind) := ⟨rfl, rfl, rfl, by decide +kernel, rfl, by decide +kernel, by decide +kernel⟩
abbrev s_walks_from : Stmt := inClass (top 39) 11
abbrev N_walks_from : List Str := ["self", "place", "found", "one", "other", "minutes"]
abbrev P_walks_from : List Str := ["self", "place"]
theorem sc_walks_from : FnScope N_walks_from P_walks_from (defScope s_walks_from) := ⟨rfl, rfl, rfl, by decide +kernel, rfl, by decide +kernel, by decide +kernel⟩
abbrev s_minutes_between : Stmt := inClass (top 39) 12
abbrev N_minutes_between : List Str := ["self", "one", "other", "place", "minutes"]
abbrev P_minutes_between : List Str := ["self", "one", "other"]
theorem sc_minutes_between : FnScope N_minutes_between P_minutes_between (defScope s_minutes_between) := ⟨rfl, rfl, rfl, by decide +kernel, rfl, by decide +kernel, by decide +kernel⟩
abbrev s_Lrow : Stmt := top 41
abbrev N_Lrow : List Str := ["_law_cell", "_law_many", "_law_row_here", "_law_rest", "_law_mixed", "_law_k"]
abbrev P_Lrow : List Str := ["_law_cell", "_law_many"]
theorem sc_Lrow : FnScope N_Lrow P_Lrow (defScope s_Lrow) := ⟨rfl, rfl, rfl, by decide +kernel, rfl, by decide +kernel, by decide +kernel⟩
abbrev s_Lnumbers : Stmt := top 42
abbrev N_Lnumbers : List Str := ["_law_script", "_law_many", "_law_cells", "_law_each", "_law_numbers_here", "_law_cell", "_law_number"]
abbrev P_Lnumbers : List Str := ["_law_script", "_law_many"]
theorem sc_Lnumbers : FnScope N_Lnumbers P_Lnumbers (defScope s_Lnumbers) := ⟨rfl, rfl, rfl, by decide +kernel, rfl, by decide +kernel, by decide +kernel⟩
abbrev s_Lpick : Stmt := top 43
abbrev N_Lpick : List Str := ["_law_numbers_here", "_law_at", "_law_most"]
abbrev P_Lpick : List Str := ["_law_numbers_here", "_law_at", "_law_most"]
theorem sc_Lpick : FnScope N_Lpick P_Lpick (defScope s_Lpick) := ⟨rfl, rfl, rfl, by decide +kernel, rfl, by decide +kernel, by decide +kernel⟩
abbrev s_Lnames : Stmt := top 44
abbrev N_Lnames : List Str := ["_law_number", "_law_many", "_law_letters", "_law_size", "_law_k", "_law_rest", "_law_place", "_law_names_here", "_law_turn"]
abbrev P_Lnames : List Str := ["_law_number", "_law_many"]
theorem sc_Lnames : FnScope N_Lnames P_Lnames (defScope s_Lnames) := ⟨rfl, rfl, rfl, by decide +kernel, rfl, by decide +kernel, by decide +kernel⟩
abbrev s_Lparts : Stmt := top 45
abbrev N_Lparts : List Str := ["_law_numbers_here", "_law_at", "_law_winds", "_law_places", "_law_names_here", "_law_links", "_law_k", "_law_spot", "_law_one", "_law_other", "_law_times", "_law_j", "_law_least", "_law_paths", "_law_known", "_law_path"]
abbrev P_Lparts : List Str := ["_law_numbers_here", "_law_at"]
theorem sc_Lparts : FnScope N_Lparts P_Lparts (defScope s_Lparts) := ⟨rfl, rfl, rfl, by decide +kernel, rfl, by decide +kernel, by decide +kernel⟩
abbrev s_Lweather : Stmt := top 46
abbrev N_Lweather : List Str := ["_law_numbers_here", "_law_at", "_law_parts_here", "_law_weather_here", "_law_k"]
abbrev P_Lweather : List Str := ["_law_numbers_here", "_law_at", "_law_parts_here"]
theorem sc_Lweather : FnScope N_Lweather P_Lweather (defScope s_Lweather) := ⟨rfl, rfl, rfl, by decide +kernel, rfl, by decide +kernel, by decide +kernel⟩
abbrev s_Lwind : Stmt := top 47
abbrev N_Lwind : List Str := ["_law_parts_here", "_law_weather_here", "_law_minute", "_law_wind_here", "_law_row_here"]
abbrev P_Lwind : List Str := ["_law_parts_here", "_law_weather_here", "_law_minute"]
theorem sc_Lwind : FnScope N_Lwind P_Lwind (defScope s_Lwind) := ⟨rfl, rfl, rfl, by decide +kernel, rfl, by decide +kernel, by decide +kernel⟩
abbrev s_Lcaught : Stmt := top 48
abbrev N_Lcaught : List Str := ["_law_parts_here", "_law_weather_here", "_law_link", "_law_minute", "_law_side", "_law_caught_here", "_law_start", "_law_bounds", "_law_row_here"]
abbrev P_Lcaught : List Str := ["_law_parts_here", "_law_weather_here", "_law_link", "_law_minute", "_law_side"]
theorem sc_Lcaught : FnScope N_Lcaught P_Lcaught (defScope s_Lcaught) := ⟨rfl, rfl, rfl, by decide +kernel, rfl, by decide +kernel, by decide +kernel⟩
abbrev s_Lfire : Stmt := top 49
abbrev N_Lfire : List Str := ["_law_parts_here", "_law_weather_here", "_law_starts", "_law_breaks", "_law_side", "_law_ends", "_law_place", "_law_minute", "_law_burns", "_law_turn", "_law_link", "_law_caught_here"]
abbrev P_Lfire : List Str := ["_law_parts_here", "_law_weather_here", "_law_starts", "_law_breaks", "_law_side"]
theorem sc_Lfire : FnScope N_Lfire P_Lfire (defScope s_Lfire) := ⟨rfl, rfl, rfl, by decide +kernel, rfl, by decide +kernel, by decide +kernel⟩
abbrev s_Lrows : Stmt := top 50
abbrev N_Lrows : List Str := ["_law_numbers_here", "_law_at", "_law_many", "_law_parts_here", "_law_most", "_law_k"]
abbrev P_Lrows : List Str := ["_law_numbers_here", "_law_at", "_law_many", "_law_parts_here", "_law_most"]
theorem sc_Lrows : FnScope N_Lrows P_Lrows (defScope s_Lrows) := ⟨rfl, rfl, rfl, by decide +kernel, rfl, by decide +kernel, by decide +kernel⟩
abbrev s_Lland : Stmt := top 51
abbrev N_Lland : List Str := ["_law_parts_here"]
abbrev P_Lland : List Str := ["_law_parts_here"]
theorem sc_Lland : FnScope N_Lland P_Lland (defScope s_Lland) := ⟨rfl, rfl, rfl, by decide +kernel, rfl, by decide +kernel, by decide +kernel⟩
abbrev s_Lcase : Stmt := top 52
abbrev N_Lcase : List Str := ["_law_numbers_here", "_law_parts_here", "_law_weather_here", "_law_starts", "_law_breaks"]
abbrev P_Lcase : List Str := ["_law_numbers_here"]
theorem sc_Lcase : FnScope N_Lcase P_Lcase (defScope s_Lcase) := ⟨rfl, rfl, rfl, by decide +kernel, rfl, by decide +kernel, by decide +kernel⟩
abbrev s_Lnumbers_of : Stmt := top 53
abbrev N_Lnumbers_of : List Str := ["_law_numbers_here", "_law_at", "_law_parts_here", "_law_links", "_law_k", "_law_times", "_law_j", "_law_bounds", "_law_drawn"]
abbrev P_Lnumbers_of : List Str := ["_law_numbers_here", "_law_at", "_law_parts_here"]
theorem sc_Lnumbers_of : FnScope N_Lnumbers_of P_Lnumbers_of (defScope s_Lnumbers_of) := ⟨rfl, rfl, rfl, by decide +kernel, rfl, by decide +kernel, by decide +kernel⟩
abbrev s_Lwalks : Stmt := top 54
abbrev N_Lwalks : List Str := ["_law_parts_here", "_law_place", "_law_found", "_law_one", "_law_other", "_law_minutes"]
abbrev P_Lwalks : List Str := ["_law_parts_here", "_law_place"]
theorem sc_Lwalks : FnScope N_Lwalks P_Lwalks (defScope s_Lwalks) := ⟨rfl, rfl, rfl, by decide +kernel, rfl, by decide +kernel, by decide +kernel⟩
abbrev s_Lis_safe : Stmt := top 55
abbrev N_Lis_safe : List Str := ["_law_parts_here", "_law_fire_here", "_law_rows_here", "_law_k", "_law_place", "_law_minute", "_law_ways", "_law_other", "_law_minutes"]
abbrev P_Lis_safe : List Str := ["_law_parts_here", "_law_fire_here", "_law_rows_here"]
theorem sc_Lis_safe : FnScope N_Lis_safe P_Lis_safe (defScope s_Lis_safe) := ⟨rfl, rfl, rfl, by decide +kernel, rfl, by decide +kernel, by decide +kernel⟩
abbrev s_Ldrawn_walk : Stmt := top 56
abbrev N_Ldrawn_walk : List Str := ["_law_parts_here", "_law_numbers_here", "_law_at", "_law_place", "_law_minute", "_law_rows_here", "_law_k", "_law_ways", "_law_minutes"]
abbrev P_Ldrawn_walk : List Str := ["_law_parts_here", "_law_numbers_here", "_law_at"]
theorem sc_Ldrawn_walk : FnScope N_Ldrawn_walk P_Ldrawn_walk (defScope s_Ldrawn_walk) := ⟨rfl, rfl, rfl, by decide +kernel, rfl, by decide +kernel, by decide +kernel⟩
abbrev s_law : Stmt := top 57
abbrev N_law : List Str := ["_law_script", "_law_numbers_here", "_law_parts_here", "_law_weather_here", "_law_starts", "_law_breaks", "_law_land_here", "_law_fire_here", "_law_place", "_law_told", "_law_drawn"]
abbrev P_law : List Str := ["_law_script"]
theorem sc_law : FnScope N_law P_law (defScope s_law) := ⟨rfl, rfl, rfl, by decide +kernel, rfl, by decide +kernel, by decide +kernel⟩
end Ef
/-! ==== EfEv -/
set_option Elab.async false
set_option linter.all false
set_option maxRecDepth 100000
set_option maxHeartbeats 4000000
/-! Readings over data: what an expression evaluates to, told by a PyData. -/
namespace Ef
open PySem L2 Evl

/-! ### data under more objects -/
section
variable {K : PySem.W.Frag} {H H' : Hp}
mutual
theorem dp_mono (e : Ex H H') : ∀ (d : PyData) (v : V), Dp K H v d → Dp K H' v d
  | .none, _, h => by cases h; exact .non
  | .bool b, _, h => by cases h; exact .bl b
  | .int i, _, h => by cases h; exact .int i
  | .str x, _, h => by cases h; exact .str x
  | .list ds, _, h => by
    cases h with
    | lst hs ha => exact .lst (ex_l e hs) (dps_mono e ds _ ha)
  | .tuple ds, _, h => by
    cases h with
    | tup hs ha => exact .tup (ex_t e hs) (dps_mono e ds _ ha)
  | .dict _, _, h => by cases h
theorem dps_mono (e : Ex H H') : ∀ (ds : List PyData) (vs : List V), DpAll K H vs ds → DpAll K H' vs ds
  | [], _, h => by cases h; exact .nil
  | d :: ds, _, h => by
    cases h with
    | cons h1 h2 => exact .cons (dp_mono e d _ h1) (dps_mono e ds _ h2)
end
theorem _root_.L2.Dp.up {v : V} {d : PyData} (h : Dp K H v d) (e : Ex H H') : Dp K H' v d := dp_mono e d v h
theorem _root_.L2.DpAll.up {vs : List V} {ds : List PyData} (h : DpAll K H vs ds) (e : Ex H H') : DpAll K H' vs ds := dps_mono e ds vs h
theorem dp_int {v : V} {i : Int} (h : Dp K H v (.int i)) : v = .int i := by cases h; rfl
theorem dp_str {v : V} {x : Str} (h : Dp K H v (.str x)) : v = .str x := by cases h; rfl
theorem dp_bl {v : V} {b : Bool} (h : Dp K H v (.bool b)) : v = .bl b := by cases h; rfl
theorem dp_non {v : V} (h : Dp K H v .none) : v = .non := by cases h; rfl
theorem dp_lst {v : V} {ds : List PyData} (h : Dp K H v (.list ds)) : ∃ a xs, v = .ref a ∧ SqL K H a xs ∧ DpAll K H xs ds := by
  cases h with
  | lst hs ha => exact ⟨_, _, rfl, hs, ha⟩
theorem dp_tup {v : V} {ds : List PyData} (h : Dp K H v (.tuple ds)) : ∃ a xs, v = .ref a ∧ SqT K H a xs ∧ DpAll K H xs ds := by
  cases h with
  | tup hs ha => exact ⟨_, _, rfl, hs, ha⟩
theorem dps_len : ∀ {vs : List V} {ds : List PyData}, DpAll K H vs ds → vs.length = ds.length
  | _, _, .nil => rfl
  | _, _, .cons _ t => by rw [List.length_cons, List.length_cons, dps_len t]
theorem dps_get : ∀ {vs : List V} {ds : List PyData} {i : Nat} {v : V}, DpAll K H vs ds → vs[i]? = some v → ∃ d, ds[i]? = some d ∧ Dp K H v d
  | _, _, _, _, .nil, e => by simp at e
  | _, _, 0, _, .cons h _, e => by
    simp at e
    subst e
    exact ⟨_, rfl, h⟩
  | _, _, i + 1, v, .cons _ t, e => by
    obtain ⟨d, h1, h2⟩ := dps_get (i := i) (v := v) t (by simpa using e)
    exact ⟨d, by simpa using h1, h2⟩
theorem dps_at : ∀ {vs : List V} {ds : List PyData} {i : Nat} {d : PyData}, DpAll K H vs ds → ds[i]? = some d → ∃ v, vs[i]? = some v ∧ Dp K H v d
  | _, _, _, _, .nil, e => by simp at e
  | _, _, 0, _, .cons h _, e => by
    simp at e
    subst e
    exact ⟨_, rfl, h⟩
  | _, _, i + 1, d, .cons _ t, e => by
    obtain ⟨v, h1, h2⟩ := dps_at (i := i) (d := d) t (by simpa using e)
    exact ⟨v, by simpa using h1, h2⟩
theorem dps_app : ∀ {xs ys : List V} {ds es : List PyData}, DpAll K H xs ds → DpAll K H ys es → DpAll K H (xs ++ ys) (ds ++ es)
  | _, _, _, _, .nil, h => h
  | _, _, _, _, .cons h t, h' => .cons h (dps_app t h')
theorem dps_snoc {xs : List V} {ds : List PyData} {v : V} {d : PyData} (h : DpAll K H xs ds) (h' : Dp K H v d) : DpAll K H (xs ++ [v]) (ds ++ [d]) := dps_app h (.cons h' .nil)
theorem dps_take : ∀ {xs : List V} {ds : List PyData} (n : Nat), DpAll K H xs ds → DpAll K H (xs.take n) (ds.take n)
  | _, _, 0, _ => by
    rw [List.take_zero, List.take_zero]
    exact .nil
  | _, _, _ + 1, .nil => .nil
  | _, _, n + 1, .cons h t => .cons h (dps_take n t)
theorem dps_drop : ∀ {xs : List V} {ds : List PyData} (n : Nat), DpAll K H xs ds → DpAll K H (xs.drop n) (ds.drop n)
  | _, _, 0, h => h
  | _, _, _ + 1, .nil => .nil
  | _, _, n + 1, .cons _ t => dps_drop n t
theorem dps_rev : ∀ {xs : List V} {ds : List PyData}, DpAll K H xs ds → DpAll K H xs.reverse ds.reverse
  | _, _, .nil => .nil
  | _, _, .cons h t => by
    rw [List.reverse_cons, List.reverse_cons]
    exact dps_snoc (dps_rev t) h
theorem dps_ints : ∀ (ns : List Int), DpAll K H (ns.map V.int) (ns.map PyData.int)
  | [] => .nil
  | n :: ns => .cons (.int n) (dps_ints ns)
theorem dps_strs : ∀ (ns : List Str), DpAll K H (ns.map V.str) (ns.map PyData.str)
  | [] => .nil
  | n :: ns => .cons (.str n) (dps_strs ns)
theorem dps_bls : ∀ (ns : List Bool), DpAll K H (ns.map V.bl) (ns.map PyData.bool)
  | [] => .nil
  | n :: ns => .cons (.bl n) (dps_bls ns)
theorem of_ints : ∀ {ns : List Int} {vs : List V}, DpAll K H vs (ns.map PyData.int) → vs = ns.map V.int
  | [], _, h => by cases h; rfl
  | n :: ns, _, h => by
    cases h with
    | cons h t => rw [dp_int h, of_ints t]; rfl
theorem of_strs : ∀ {ns : List Str} {vs : List V}, DpAll K H vs (ns.map PyData.str) → vs = ns.map V.str
  | [], _, h => by cases h; rfl
  | n :: ns, _, h => by
    cases h with
    | cons h t => rw [dp_str h, of_strs t]; rfl
theorem of_bls : ∀ {ns : List Bool} {vs : List V}, DpAll K H vs (ns.map PyData.bool) → vs = ns.map V.bl
  | [], _, h => by cases h; rfl
  | n :: ns, _, h => by
    cases h with
    | cons h t => rw [dp_bl h, of_bls t]; rfl
/-- an item as data by its place in a list of things -/
theorem dps_mem {α : Type} {ea : α → PyData} {as : List α} {vs : List V} (h : DpAll K H vs (as.map ea)) {i : Nat} {v : V} (hv : vs[i]? = some v) : ∃ a, as[i]? = some a ∧ Dp K H v (ea a) := by
  obtain ⟨d, h1, h2⟩ := dps_get h hv
  rw [List.getElem?_map] at h1
  cases e : as[i]? with
  | none => rw [e] at h1; cases h1
  | some a =>
    rw [e] at h1
    cases h1
    exact ⟨a, rfl, h2⟩
end

/-! ### what evaluates to which data -/
def EvD (K : PySem.W.Frag) (te : TE) (σ : L2.St) (H : Hp) (d : PyData) : Prop := ∀ H1, Ex H H1 → ∀ Q : VK, (∀ v H2, Ex H1 H2 → Dp K H2 v d → Q v H2) → te σ H1 Q
/-- a new list (tracked) -/
def EvN (K : PySem.W.Frag) (te : TE) (σ : L2.St) (H : Hp) (ds : List PyData) : Prop :=
  ∀ H1, Ex H H1 → ∀ Q : VK, (∀ p xs H2, H1 p = none → Ex H1 H2 → H2 p = some (.lst xs) → DpAll K H2 xs ds → Q (.ref p) H2) → te σ H1 Q
def EvDA (K : PySem.W.Frag) (ta : TA) (σ : L2.St) (H : Hp) (ds : List PyData) : Prop := ∀ H1, Ex H H1 → ∀ Q : List V → Hp → Prop, (∀ vs H2, Ex H1 H2 → DpAll K H2 vs ds → Q vs H2) → ta σ H1 Q
/-- arguments under any mark that more objects keep -/
def EvPA (ta : TA) (σ : L2.St) (H : Hp) (P : List V → Hp → Prop) : Prop := ∀ H1, Ex H H1 → ∀ Q : List V → Hp → Prop, (∀ vs H2, Ex H1 H2 → P vs H2 → Q vs H2) → ta σ H1 Q
def EvP (te : TE) (σ : L2.St) (H : Hp) (P : V → Hp → Prop) : Prop := ∀ H1, Ex H H1 → ∀ Q : VK, (∀ v H2, Ex H1 H2 → P v H2 → Q v H2) → te σ H1 Q

section
variable {K : PySem.W.Frag} {σ : L2.St} {H H' : Hp} {ta tb te tx td : TE} {t u : TT} {x y z v : V} {d e : PyData} {ds es : List PyData}
theorem EvD.mono (x : Ex H H') (h : EvD K te σ H d) : EvD K te σ H' d := fun H1 a Q q => h H1 (x.trans a) Q q
theorem EvN.mono (x : Ex H H') (h : EvN K te σ H ds) : EvN K te σ H' ds := fun H1 a Q q => h H1 (x.trans a) Q q
theorem EvP.mono {P : V → Hp → Prop} (x : Ex H H') (h : EvP te σ H P) : EvP te σ H' P := fun H1 a Q q => h H1 (x.trans a) Q q
theorem EvDA.mono {ta : TA} (x : Ex H H') (h : EvDA K ta σ H ds) : EvDA K ta σ H' ds := fun H1 a Q q => h H1 (x.trans a) Q q
theorem EvN.toD (h : EvN K te σ H ds) : EvD K te σ H (.list ds) := fun H1 a Q q => h H1 a Q fun p xs H2 _ e2 h2 hd => q _ H2 e2 (.lst (sq_of h2) hd)
theorem evd_of (h : Ev te σ H v) (hd : Dp K H v d) : EvD K te σ H d := fun H1 a Q q => h H1 a Q fun H2 e2 => q v H2 e2 (hd.up (a.trans e2))
theorem ev_int {i : Int} (h : EvD K te σ H (.int i)) : Ev te σ H (.int i) := fun H1 a Q q => h H1 a Q fun v H2 e2 hd => by
  rw [dp_int hd]
  exact q H2 e2
theorem ev_str {i : Str} (h : EvD K te σ H (.str i)) : Ev te σ H (.str i) := fun H1 a Q q => h H1 a Q fun v H2 e2 hd => by
  rw [dp_str hd]
  exact q H2 e2
theorem ev_bl {i : Bool} (h : EvD K te σ H (.bool i)) : Ev te σ H (.bl i) := fun H1 a Q q => h H1 a Q fun v H2 e2 hd => by
  rw [dp_bl hd]
  exact q H2 e2
theorem ev_non (h : EvD K te σ H .none) : Ev te σ H .non := fun H1 a Q q => h H1 a Q fun v H2 e2 hd => by
  rw [dp_non hd]
  exact q H2 e2
theorem ed_int {i : Int} (h : Ev te σ H (.int i)) : EvD K te σ H (.int i) := evd_of h (.int i)
theorem ed_str {i : Str} (h : Ev te σ H (.str i)) : EvD K te σ H (.str i) := evd_of h (.str i)
theorem ed_bl {i : Bool} (h : Ev te σ H (.bl i)) : EvD K te σ H (.bool i) := evd_of h (.bl i)
theorem ed_non (h : Ev te σ H .non) : EvD K te σ H .none := evd_of h .non
theorem ed_var {i : Nat} (h : σ[i]? = some (some v)) (hd : Dp K H v d) : EvD K (tVar i) σ H d := evd_of (ev_var h) hd
theorem ed_lst {v : V} (h : Dp K H v (.list ds)) (hv : Ev te σ H v) : EvD K te σ H (.list ds) := evd_of hv h
/-- arguments -/
theorem eda_nil : EvDA K tNil σ H [] := fun H1 _ _ q => q [] H1 (Ex.refl H1) .nil
theorem eda_cons {tr : TA} (h : EvD K te σ H d) (hr : EvDA K tr σ H ds) : EvDA K (tCons te tr) σ H (d :: ds) := fun H1 a _ q =>
  h H1 a _ fun v H2 e2 hv => hr H2 (a.trans e2) _ fun vs H3 e3 hvs => q _ H3 (e2.trans e3) (.cons (hv.up e3) hvs)
theorem epa_nil : EvPA tNil σ H (fun vs _ => vs = []) := fun H1 _ _ q => q [] H1 (Ex.refl H1) rfl
/-- a tuple, a list of data -/
theorem ed_tup {ta : TA} (h : EvDA K ta σ H ds) (hl : ds.length ≤ 100000) : EvD K (tTup ta) σ H (.tuple ds) := fun H1 a Q q =>
  h H1 a _ fun vs H2 e2 hv => ⟨by rw [dps_len hv]; exact sz_of hl, fun p hp => q _ _ (e2.trans (Ex.new hp)) (.tup (st_of upd_same) (hv.up (Ex.new hp)))⟩
theorem en_lst {ta : TA} (h : EvDA K ta σ H ds) (hl : ds.length ≤ 100000) : EvN K (tLst ta) σ H ds := fun H1 a Q q =>
  h H1 a _ fun vs H2 e2 hv => ⟨by rw [dps_len hv]; exact sz_of hl, fun p hp => q p vs _ (fresh_back e2 hp) (e2.trans (Ex.new hp)) upd_same (hv.up (Ex.new hp))⟩
/-- items -/
theorem atI_of {α : Type} {xs : List α} {i : Nat} {v : α} (h : xs[i]? = some v) : atI xs (i : Int) = some v := atI_nat h
theorem dps_atI {vs : List V} {i : Int} (h : DpAll K H vs ds) (hd : atI ds i = some d) : ∃ v, atI vs i = some v ∧ Dp K H v d := by
  unfold atI at hd ⊢
  rw [dps_len h]
  cases e : ixN ds.length i with
  | none => rw [e] at hd; cases hd
  | some j =>
    rw [e] at hd
    exact dps_at h hd
theorem ed_ixT {i : Int} (ha : EvD K ta σ H (.tuple ds)) (hb : Ev tb σ H (.int i)) (hi : atI ds i = some d) : EvD K (tOp (rIxT K) ta tb) σ H d := fun H1 a Q q =>
  ha H1 a _ fun v H2 e2 hv => hb H2 (a.trans e2) _ fun H3 e3 => by
    obtain ⟨p, xs, rfl, hs, hx⟩ := dp_tup (hv.up e3)
    obtain ⟨w, hw, hd⟩ := dps_atI hx hi
    exact ⟨p, xs, i, w, rfl, rfl, hs, hw, q w H3 (e2.trans e3) hd⟩
theorem ed_ixL {i : Int} (ha : EvD K ta σ H (.list ds)) (hb : Ev tb σ H (.int i)) (hi : atI ds i = some d) : EvD K (tOp (rIxL K) ta tb) σ H d := fun H1 a Q q =>
  ha H1 a _ fun v H2 e2 hv => hb H2 (a.trans e2) _ fun H3 e3 => by
    obtain ⟨p, xs, rfl, hs, hx⟩ := dp_lst (hv.up e3)
    obtain ⟨w, hw, hd⟩ := dps_atI hx hi
    exact ⟨p, xs, i, w, rfl, rfl, hs, hw, q w H3 (e2.trans e3) hd⟩
/-- a new list's items -/
theorem ed_if {b : Bool} (h : EvT t σ H b) (h1 : b = true → EvD K ta σ H d) (h2 : b = false → EvD K tb σ H d) : EvD K (tIf t ta tb) σ H d := fun H1 a Q q => h H1 a _ fun H2 e2 => by
  cases b with
  | true =>
    show ta σ H2 Q
    exact h1 rfl H2 (a.trans e2) Q fun v H3 e3 => q v H3 (e2.trans e3)
  | false =>
    show tb σ H2 Q
    exact h2 rfl H2 (a.trans e2) Q fun v H3 e3 => q v H3 (e2.trans e3)
/-- sums and the like of ints -/
theorem ev_I {g : Int → Int → V} {i j : Int} (ha : Ev ta σ H (.int i)) (hb : Ev tb σ H (.int j)) : Ev (tOp (rI0 g) ta tb) σ H (g i j) := ev_op ha hb rv_I0
theorem ev_IC {C : Int → Int → Prop} {g : Int → Int → V} {i j : Int} (ha : Ev ta σ H (.int i)) (hb : Ev tb σ H (.int j)) (hc : C i j) : Ev (tOp (rI C g) ta tb) σ H (g i j) := ev_op ha hb (rv_I hc)
theorem ev_eq (ha : Ev ta σ H x) (hb : Ev tb σ H y) (h : scal x y = true) : Ev (tOp rEq ta tb) σ H (.bl (decide (x = y))) := ev_op ha hb (rv_eq h)
theorem ev_ne (ha : Ev ta σ H x) (hb : Ev tb σ H y) (h : scal x y = true) : Ev (tOp rNe ta tb) σ H (.bl (!decide (x = y))) := ev_op ha hb (rv_ne h)
theorem ev_isN (ha : Ev ta σ H x) : Ev (tIsN ta) σ H (.bl (decide (x = .non))) := fun H1 a Q q => ha H1 a _ fun H2 e2 => q H2 e2
theorem ev_notN (ha : Ev ta σ H x) : Ev (tNotN ta) σ H (.bl (!decide (x = .non))) := fun H1 a Q q => ha H1 a _ fun H2 e2 => q H2 e2
/-- a test of a value that is anything of one truth -/
theorem ev_isNP {P : V → Hp → Prop} {b : Bool} (ha : EvP ta σ H P) (hp : ∀ v H1, P v H1 → decide (v = .non) = b) : Ev (tIsN ta) σ H (.bl b) := fun H1 a Q q => ha H1 a _ fun v H2 e2 pv => by
  show Q (.bl (decide (v = .non))) H2
  rw [hp v H2 pv]
  exact q H2 e2
theorem ev_notNP {P : V → Hp → Prop} {b : Bool} (ha : EvP ta σ H P) (hp : ∀ v H1, P v H1 → (!decide (v = .non)) = b) : Ev (tNotN ta) σ H (.bl b) := fun H1 a Q q => ha H1 a _ fun v H2 e2 pv => by
  show Q (.bl (!decide (v = .non))) H2
  rw [hp v H2 pv]
  exact q H2 e2
/-- fields -/
theorem ev_fld {C p dx : Addr} {fs : List (Str × V)} {f : Str} (ha : Ev ta σ H (.ref p)) (ho : H p = some (.ins C dx fs)) (hc : Cls K C) (hn : NoAttr K C f) (hl : fs.lookup f = some v) : Ev (tFld K ta f) σ H v := fun H1 a Q q =>
  ha H1 a _ fun H2 e2 => ⟨p, C, dx, fs, v, rfl, (a.trans e2) _ _ ho, hc, hn, hl, q H2 e2⟩
/-- calls of defs -/
theorem ev_callP {sp : Sp} {dvs : List V} {E : XK} {ta : TA} {Pa : List V → Hp → Prop} {P : V → Hp → Prop} (h : EvPA ta σ H Pa)
    (hs : ∀ vs H1, Ex H H1 → Pa vs H1 → ∀ Q : VK, (∀ v H2, Ex H1 H2 → P v H2 → Q v H2) → sp (vs ++ dvs) H1 Q E) : EvP (tCall sp dvs E ta) σ H P := fun H1 a Q q =>
  h H1 a _ fun vs H2 e2 pv => hs vs H2 (a.trans e2) pv Q fun v H3 e3 => q v H3 (e2.trans e3)
theorem EvA.p {ta : TA} {vs : List V} (h : EvA ta σ H vs) : EvPA ta σ H (fun ws _ => ws = vs) := fun H1 a Q q => h H1 a _ fun H2 e2 => q vs H2 e2 rfl
theorem ev_call1 {sp : Sp} {E : XK} {ta : TA} {vs : List V} {P : V → Hp → Prop} (h : EvA ta σ H vs)
    (hs : ∀ H1, Ex H H1 → ∀ Q : VK, (∀ v H2, Ex H1 H2 → P v H2 → Q v H2) → sp vs H1 Q E) : EvP (tCall sp [] E ta) σ H P := fun H1 a Q q =>
  h H1 a _ fun H2 e2 => by
    rw [List.append_nil]
    exact hs H2 (a.trans e2) Q fun v H3 e3 => q v H3 (e2.trans e3)
/-- calls of methods -/
theorem ev_meth1 {C p dx : Addr} {fs : List (Str × V)} {m : Str} {sp : Sp} {E : XK} {tr : TA} {vs : List V} {P : V → Hp → Prop} (ho : Ev ta σ H (.ref p)) (hp : H p = some (.ins C dx fs)) (hm : fs.lookup m = none) (h : EvA tr σ H vs)
    (hs : ∀ H1, Ex H H1 → ∀ Q : VK, (∀ v H2, Ex H1 H2 → P v H2 → Q v H2) → sp (.ref p :: vs) H1 Q E) : EvP (tMeth C m sp [] E ta tr) σ H P := fun H1 a Q q =>
  ho H1 a _ fun H2 e2 => ⟨p, dx, fs, rfl, (a.trans e2) _ _ hp, hm, h H2 (a.trans e2) _ fun H3 e3 => by
    rw [List.append_nil]
    exact hs H3 ((a.trans e2).trans e3) Q fun v H4 e4 => q v H4 ((e2.trans e3).trans e4)⟩
theorem EvP.toV (h : EvP te σ H fun w _ => w = v) : Ev te σ H v := fun H1 a Q q => h H1 a Q fun w H2 e2 hw => by
  rw [hw]
  exact q H2 e2
theorem EvP.toD (h : EvP te σ H fun w H1 => Dp K H1 w d) : EvD K te σ H d := h
/-- calls of built-ins -/
theorem ev_cbP {r : List V → Hp → VK → Prop} {ta : TA} {Pa : List V → Hp → Prop} {P : V → Hp → Prop} (h : EvPA ta σ H Pa)
    (hr : ∀ vs H1, Ex H H1 → Pa vs H1 → ∀ Q : VK, (∀ v H2, Ex H1 H2 → P v H2 → Q v H2) → r vs H1 Q) : EvP (tCB r ta) σ H P := fun H1 a Q q =>
  h H1 a _ fun vs H2 e2 pv => hr vs H2 (a.trans e2) pv Q fun v H3 e3 => q v H3 (e2.trans e3)
def rLen2 (K : PySem.W.Frag) : List V → Hp → VK → Prop := fun xs H Q => ∃ p ys, xs = [.ref p] ∧ (SqL K H p ys ∨ SqT K H p ys) ∧ Q (.int ys.length) H
theorem ev_lenL (ha : EvD K ta σ H (.list ds)) : Ev (tCB (rLen2 K) (tCons ta tNil)) σ H (.int (ds.length : Int)) := fun H1 a Q q => ha H1 a _ fun v H2 e2 hv => by
  obtain ⟨p, xs, rfl, hs, hx⟩ := dp_lst hv
  refine ⟨p, xs, rfl, .inl hs, ?_⟩
  rw [dps_len hx]
  exact q H2 e2
theorem ev_lenT (ha : EvD K ta σ H (.tuple ds)) : Ev (tCB (rLen2 K) (tCons ta tNil)) σ H (.int (ds.length : Int)) := fun H1 a Q q => ha H1 a _ fun v H2 e2 hv => by
  obtain ⟨p, xs, rfl, hs, hx⟩ := dp_tup hv
  refine ⟨p, xs, rfl, .inr hs, ?_⟩
  rw [dps_len hx]
  exact q H2 e2
/-- tuple(list), list(tuple) -/
def rTupOf (K : PySem.W.Frag) : List V → Hp → VK → Prop := fun xs H Q => ∃ p ys, xs = [.ref p] ∧ ((SqL K H p ys ∧ ∀ l, H l = none → Q (.ref l) (upd H l (.tup ys))) ∨ (SqT K H p ys ∧ Q (.ref p) H))
theorem ed_tupL (ha : EvD K ta σ H (.list ds)) : EvD K (tCB (rTupOf K) (tCons ta tNil)) σ H (.tuple ds) := fun H1 a Q q => ha H1 a _ fun v H2 e2 hv => by
  obtain ⟨p, xs, rfl, hs, hx⟩ := dp_lst hv
  exact ⟨p, xs, rfl, .inl ⟨hs, fun l hl => q _ _ (e2.trans (Ex.new hl)) (.tup (st_of upd_same) (hx.up (Ex.new hl)))⟩⟩
theorem ed_tupT (ha : EvD K ta σ H (.tuple ds)) : EvD K (tCB (rTupOf K) (tCons ta tNil)) σ H (.tuple ds) := fun H1 a Q q => ha H1 a _ fun v H2 e2 hv => by
  obtain ⟨p, xs, rfl, hs, hx⟩ := dp_tup hv
  exact ⟨p, xs, rfl, .inr ⟨hs, q _ _ e2 (.tup hs hx)⟩⟩
def rLstOf (K : PySem.W.Frag) : List V → Hp → VK → Prop := fun xs H Q => ∃ p ys, xs = [.ref p] ∧ (SqL K H p ys ∨ SqT K H p ys) ∧ ∀ l, H l = none → Q (.ref l) (upd H l (.lst ys))
theorem en_lstT (ha : EvD K ta σ H (.tuple ds)) : EvN K (tCB (rLstOf K) (tCons ta tNil)) σ H ds := fun H1 a Q q => ha H1 a _ fun v H2 e2 hv => by
  obtain ⟨p, xs, rfl, hs, hx⟩ := dp_tup hv
  exact ⟨p, xs, rfl, .inr hs, fun l hl => q l xs _ (fresh_back e2 hl) (e2.trans (Ex.new hl)) upd_same (hx.up (Ex.new hl))⟩
/-- slices -/
theorem dps_cut {xs : List V} {lo hi : Option Int} (h : DpAll K H xs ds) : DpAll K H (cutV xs lo hi) ((ds.drop (HT.sIx ds.length 0 lo)).take (HT.sIx ds.length ds.length hi - HT.sIx ds.length 0 lo)) := by
  unfold cutV
  rw [dps_len h]
  exact dps_take _ (dps_drop _ h)
def cutD (ds : List PyData) (lo hi : Option Int) : List PyData := (ds.drop (HT.sIx ds.length 0 lo)).take (HT.sIx ds.length ds.length hi - HT.sIx ds.length 0 lo)
theorem en_slL {tl th : TO} {lo hi : Option Int} (h : EvD K te σ H (.list ds)) (h1 : EvO tl σ H lo) (h2 : EvO th σ H hi) : EvN K (tSl (rSlL K) te tl th) σ H (cutD ds lo hi) := fun H1 a _ q =>
  h H1 a _ fun v H2 e2 hv => h1 H2 (a.trans e2) _ fun H3 e3 => h2 H3 ((a.trans e2).trans e3) _ fun H4 e4 => by
    obtain ⟨p, xs, rfl, hs, hx⟩ := dp_lst (hv.up (e3.trans e4))
    exact ⟨p, xs, rfl, hs, fun l hl => q l _ _ (fresh_back ((e2.trans e3).trans e4) hl) (((e2.trans e3).trans e4).trans (Ex.new hl)) upd_same (dps_cut (hx.up (Ex.new hl)))⟩
theorem ed_slT {tl th : TO} {lo hi : Option Int} (h : EvD K te σ H (.tuple ds)) (h1 : EvO tl σ H lo) (h2 : EvO th σ H hi) (hw : ¬ (HT.sIx ds.length 0 lo = 0 ∧ HT.sIx ds.length ds.length hi = ds.length)) : EvD K (tSl (rSlT K) te tl th) σ H (.tuple (cutD ds lo hi)) := fun H1 a _ q =>
  h H1 a _ fun v H2 e2 hv => h1 H2 (a.trans e2) _ fun H3 e3 => h2 H3 ((a.trans e2).trans e3) _ fun H4 e4 => by
    obtain ⟨p, xs, rfl, hs, hx⟩ := dp_tup (hv.up (e3.trans e4))
    refine ⟨p, xs, rfl, hs, by rw [dps_len hx]; exact hw, fun l hl => q _ _ (((e2.trans e3).trans e4).trans (Ex.new hl)) (.tup (st_of upd_same) (dps_cut (hx.up (Ex.new hl))))⟩
/-- flat membership -/
theorem flat_str (ss : List Str) : (ss.map V.str).all flatV = true := by
  rw [List.all_map]
  exact List.all_eq_true.mpr fun _ _ => rfl
theorem eqV_str (a b : Str) : eqV (.str a) (.str b) = decide (a = b) := by
  show (a == b) = decide (a = b)
  by_cases h : a = b
  · subst h
    simp
  · rw [decide_eq_false h]
    exact beq_eq_false_iff_ne.mpr h
theorem inV_str (s : Str) (ss : List Str) : inV (.str s) (ss.map V.str) = decide (s ∈ ss) := by
  unfold inV
  rw [List.any_map]
  by_cases h : s ∈ ss
  · rw [decide_eq_true h]
    exact List.any_eq_true.mpr ⟨s, h, by show eqV (.str s) (.str s) = true; rw [eqV_str]; exact decide_eq_true rfl⟩
  · rw [decide_eq_false h]
    refine List.any_eq_false.mpr fun x hx q => h ?_
    have q2 : eqV (.str x) (.str s) = true := q
    rw [eqV_str] at q2
    rw [← of_decide_eq_true q2]
    exact hx
theorem ev_inST {s : Str} {ss : List Str} (ha : Ev ta σ H (.str s)) (hb : EvD K tb σ H (.tuple (ss.map .str))) : Ev (tOp (rIn K false) ta tb) σ H (.bl (decide (s ∈ ss))) := fun H1 a Q q =>
  ha H1 a _ fun H2 e2 => hb H2 (a.trans e2) _ fun v H3 e3 hv => by
    obtain ⟨p, xs, rfl, hs, hx⟩ := dp_tup hv
    have ex := of_strs hx
    subst ex
    refine ⟨p, _, rfl, .inr hs, rfl, flat_str ss, ?_⟩
    show Q (.bl (inV _ _)) H3
    rw [inV_str]
    exact q H3 (e2.trans e3)
theorem ev_inSL {s : Str} {ss : List Str} (ha : Ev ta σ H (.str s)) (hb : EvD K tb σ H (.list (ss.map .str))) : Ev (tOp (rIn K false) ta tb) σ H (.bl (decide (s ∈ ss))) := fun H1 a Q q =>
  ha H1 a _ fun H2 e2 => hb H2 (a.trans e2) _ fun v H3 e3 hv => by
    obtain ⟨p, xs, rfl, hs, hx⟩ := dp_lst hv
    have ex := of_strs hx
    subst ex
    refine ⟨p, _, rfl, .inl hs, rfl, flat_str ss, ?_⟩
    show Q (.bl (inV _ _)) H3
    rw [inV_str]
    exact q H3 (e2.trans e3)
theorem ev_niST {s : Str} {ss : List Str} (ha : Ev ta σ H (.str s)) (hb : EvD K tb σ H (.tuple (ss.map .str))) : Ev (tOp (rIn K true) ta tb) σ H (.bl (!decide (s ∈ ss))) := fun H1 a Q q =>
  ha H1 a _ fun H2 e2 => hb H2 (a.trans e2) _ fun v H3 e3 hv => by
    obtain ⟨p, xs, rfl, hs, hx⟩ := dp_tup hv
    have ex := of_strs hx
    subst ex
    refine ⟨p, _, rfl, .inr hs, rfl, flat_str ss, ?_⟩
    show Q (.bl (!inV _ _)) H3
    rw [inV_str]
    exact q H3 (e2.trans e3)
end

/-! ### dicts -/
section
variable {K : PySem.W.Frag} {σ : L2.St} {H H' : Hp} {ta tb te tx td : TE} {v z : V} {d : Addr} {kvs : List (Key × V)} {k : Key}
theorem ev_din (hk : Ev ta σ H (kV k)) (hd : Ev td σ H (.ref d)) (h : H d = some (.dK kvs)) : Ev (tDIn ta td) σ H (.bl (valV kvs k).isSome) := fun H1 a Q q =>
  hk H1 a _ fun H2 e2 => hd H2 (a.trans e2) _ fun H3 e3 => ⟨d, _, rfl, DGet.k (((a.trans e2).trans e3) _ _ h), q H3 (e2.trans e3)⟩
theorem ev_dni (hk : Ev ta σ H (kV k)) (hd : Ev td σ H (.ref d)) (h : H d = some (.dK kvs)) : Ev (tDNotIn ta td) σ H (.bl (!(valV kvs k).isSome)) := fun H1 a Q q =>
  hk H1 a _ fun H2 e2 => hd H2 (a.trans e2) _ fun H3 e3 => ⟨d, _, rfl, DGet.k (((a.trans e2).trans e3) _ _ h), q H3 (e2.trans e3)⟩
theorem ev_dget (hd : Ev td σ H (.ref d)) (hk : Ev ta σ H (kV k)) (h : H d = some (.dK kvs)) (hv : valV kvs k = some v) : Ev (tDGet td ta) σ H v := fun H1 a Q q =>
  hd H1 a _ fun H2 e2 => hk H2 (a.trans e2) _ fun H3 e3 => ⟨d, v, rfl, hv ▸ DGet.k (((a.trans e2).trans e3) _ _ h), q H3 (e2.trans e3)⟩
theorem ev_dget2 (hd : Ev td σ H (.ref d)) (hk : Ev ta σ H (kV k)) (hx : Ev tx σ H z) (h : H d = some (.dK kvs)) : Ev (tDGet2 td ta tx) σ H ((valV kvs k).getD z) := fun H1 a Q q =>
  hd H1 a _ fun H2 e2 => ⟨d, rfl, .inl ⟨kvs, .inl ((a.trans e2) _ _ h)⟩, hk H2 (a.trans e2) _ fun H3 e3 => hx H3 ((a.trans e2).trans e3) _ fun H4 e4 =>
    ⟨_, DGet.k ((((a.trans e2).trans e3).trans e4) _ _ h), q H4 ((e2.trans e3).trans e4)⟩⟩
variable {D : Ends} {tz : TS}
theorem s_dput (hv : Ev te σ H v) (hd : Ev td σ H (.ref d)) (hk : Ev ta σ H (kV k)) (h : H d = some (.dK kvs)) (hl : kvs.length < 100000) (c : ∀ H1, Ex H H1 → D.nx σ (upd H1 d (.dK (putK kvs k v)))) : sDPut td ta te D σ H :=
  hv H (Ex.refl H) _ fun H1 e1 => hd H1 e1 _ fun H2 e2 => hk H2 (e1.trans e2) _ fun H3 e3 => ⟨d, _, rfl, DPut.k (((e1.trans e2).trans e3) _ _ h) (sz_lt hl), c H3 ((e1.trans e2).trans e3)⟩
theorem q_dput (hv : Ev te σ H v) (hd : Ev td σ H (.ref d)) (hk : Ev ta σ H (kV k)) (h : H d = some (.dK kvs)) (hl : kvs.length < 100000) (c : ∀ H1, Ex H H1 → tz D σ (upd H1 d (.dK (putK kvs k v)))) : tSeq (sDPut td ta te) tz D σ H :=
  s_dput (D := { D with nx := tz D }) hv hd hk h hl c
theorem s_dpop (hd : Ev td σ H (.ref d)) (hk : Ev ta σ H (kV k)) (h : H d = some (.dK kvs)) (hv : valV kvs k = some v) (c : ∀ H1, Ex H H1 → D.nx σ (upd H1 d (.dK (dropK kvs k)))) : tDrop (tDPop1 td ta) D σ H :=
  hd H (Ex.refl H) _ fun H1 e1 => ⟨d, rfl, .inl ⟨kvs, .inl (e1 _ _ h)⟩, hk H1 e1 _ fun H2 e2 => ⟨kvs, k, v, (e1.trans e2) _ _ h, rfl, hv, c H2 (e1.trans e2)⟩⟩
theorem q_dpop (hd : Ev td σ H (.ref d)) (hk : Ev ta σ H (kV k)) (h : H d = some (.dK kvs)) (hv : valV kvs k = some v) (c : ∀ H1, Ex H H1 → tz D σ (upd H1 d (.dK (dropK kvs k)))) : tSeq (tDrop (tDPop1 td ta)) tz D σ H :=
  s_dpop (D := { D with nx := tz D }) hd hk h hv c
theorem s_dnew {i : Nat} (c : ∀ p, H p = none → D.nx (σ.set i (some (.ref p))) (upd H p (.dK []))) : tAsg tDNewK (gName i) D σ H := fun p hp => c p hp
theorem q_dnew {i : Nat} (c : ∀ p, H p = none → tz D (σ.set i (some (.ref p))) (upd H p (.dK []))) : tSeq (tAsg tDNewK (gName i)) tz D σ H := fun p hp => c p hp
end

/-! ### statements -/
section
variable {K : PySem.W.Frag} {σ : L2.St} {H H' : Hp} {ta tb te tx td : TE} {t u : TT} {v : V} {d : PyData} {ds : List PyData} {D : Ends} {tz tu tw : TS} {P : V → Hp → Prop}
theorem s_asgD {i : Nat} (h : EvD K te σ H d) (k : ∀ v H1, Ex H H1 → Dp K H1 v d → D.nx (σ.set i (some v)) H1) : tAsg te (gName i) D σ H := h H (Ex.refl H) _ fun v H1 e hd => k v H1 e hd
theorem q_asgD {i : Nat} (h : EvD K te σ H d) (k : ∀ v H1, Ex H H1 → Dp K H1 v d → tz D (σ.set i (some v)) H1) : tSeq (tAsg te (gName i)) tz D σ H := h H (Ex.refl H) _ fun v H1 e hd => k v H1 e hd
theorem q_asgN {i : Nat} (h : EvN K te σ H ds) (k : ∀ p xs H1, H p = none → Ex H H1 → H1 p = some (.lst xs) → DpAll K H1 xs ds → tz D (σ.set i (some (.ref p))) H1) : tSeq (tAsg te (gName i)) tz D σ H := h H (Ex.refl H) _ k
theorem q_asgP {i : Nat} (h : EvP te σ H P) (k : ∀ v H1, Ex H H1 → P v H1 → tz D (σ.set i (some v)) H1) : tSeq (tAsg te (gName i)) tz D σ H := h H (Ex.refl H) _ fun v H1 e hd => k v H1 e hd
theorem s_retD (h : EvD K te σ H d) (k : ∀ v H1, Ex H H1 → Dp K H1 v d → D.rt v H1) : tRet te D σ H := h H (Ex.refl H) _ k
theorem s_retN (h : EvN K te σ H ds) (k : ∀ p xs H1, H p = none → Ex H H1 → H1 p = some (.lst xs) → DpAll K H1 xs ds → D.rt (.ref p) H1) : tRet te D σ H := h H (Ex.refl H) _ k
theorem s_retP (h : EvP te σ H P) (k : ∀ v H1, Ex H H1 → P v H1 → D.rt v H1) : tRet te D σ H := h H (Ex.refl H) _ k
theorem s_dropP (h : EvP te σ H P) (k : ∀ v H1, Ex H H1 → P v H1 → D.nx σ H1) : tDrop te D σ H := h H (Ex.refl H) _ k
theorem q_dropP (h : EvP te σ H P) (k : ∀ v H1, Ex H H1 → P v H1 → tz D σ H1) : tSeq (tDrop te) tz D σ H := h H (Ex.refl H) _ k
/-- xs.append(e), data -/
theorem s_appD {l : Addr} {xs : List V} (hl : H l = some (.lst xs)) (ha : Ev ta σ H (.ref l)) (h : EvD K te σ H d) (hz : xs.length < 100000) (k : ∀ v H1, Ex H H1 → Dp K H1 v d → D.nx σ (upd H1 l (.lst (xs ++ [v])))) :
    tDrop (tBM K "list" rAppend ta (tCons te tNil)) D σ H := ha H (Ex.refl H) _ fun H1 e1 =>
  ⟨Or.inl ⟨rfl, xs, sq_of (e1 l _ hl)⟩, h H1 e1 _ fun v H2 e2 hd => ⟨l, xs, v, rfl, rfl, e2 l _ (e1 l _ hl), sz_lt hz, k v H2 (e1.trans e2) hd⟩⟩
theorem q_appD {l : Addr} {xs : List V} (hl : H l = some (.lst xs)) (ha : Ev ta σ H (.ref l)) (h : EvD K te σ H d) (hz : xs.length < 100000) (k : ∀ v H1, Ex H H1 → Dp K H1 v d → tz D σ (upd H1 l (.lst (xs ++ [v])))) :
    tSeq (tDrop (tBM K "list" rAppend ta (tCons te tNil))) tz D σ H := s_appD (D := { D with nx := tz D }) hl ha h hz k
/-- if c: raise .. -/
theorem q_guard (h : EvT t σ H false) (k : ∀ H1, Ex H H1 → tz D σ H1) : tSeq (tIfS t tu tNext) tz D σ H := h H (Ex.refl H) _ fun H1 e => by
  show tz D σ H1
  exact k H1 e
theorem s_guard (h : EvT t σ H false) (k : ∀ H1, Ex H H1 → D.nx σ H1) : tIfS t tu tNext D σ H := h H (Ex.refl H) _ fun H1 e => by
  show D.nx σ H1
  exact k H1 e
/-- truth of a list, a dict -/
def tTr (K : PySem.W.Frag) (ta : TE) : TT := fun σ H Q => ta σ H fun x H' => ∃ k, TruV K x H' k ∧ Q k H'
theorem et_lst (ha : EvD K ta σ H (.list ds)) : EvT (tTr K ta) σ H (!ds.isEmpty) := fun H1 a Q q => ha H1 a _ fun v H2 e2 hv => by
  obtain ⟨p, xs, rfl, hs, hx⟩ := dp_lst hv
  refine ⟨_, .inl ⟨xs, hs, rfl⟩, ?_⟩
  have e : xs.isEmpty = ds.isEmpty := by
    cases hx <;> rfl
  rw [e]
  exact q H2 e2
theorem et_dct {a : Addr} {kvs : List (Key × V)} (ha : Ev ta σ H (.ref a)) (h : H a = some (.dK kvs)) : EvT (tTr K ta) σ H (!kvs.isEmpty) := fun H1 e Q q => ha H1 e _ fun H2 e2 =>
  ⟨_, .inr (.inr ⟨kvs, (e.trans e2) _ _ h, rfl⟩), q H2 e2⟩
/-- targets -/
def GSet (g : TG) (x : V) (σ : L2.St) (H : Hp) (σ2 : L2.St) : Prop := ∀ H1, Ex H H1 → ∀ Q : L2.St → Hp → Prop, Q σ2 H1 → g x σ H1 Q
theorem gs_name {i : Nat} {x : V} : GSet (gName i) x σ H (σ.set i (some x)) := fun _ _ _ q => q
theorem gs_tup1 {n : Nat} {ts : TGs} {x : V} {σ2 : L2.St} (hx : Dp K H x (.tuple ds)) (hn : ds.length = n) (h : ∀ xs, DpAll K H xs ds → ∀ H1, Ex H H1 → ∀ Q : L2.St → Hp → Prop, Q σ2 H1 → ts xs σ H1 Q) : GSet (gTup K n ts) x σ H σ2 := fun H1 a Q q => by
  obtain ⟨p, xs, rfl, hs, hd⟩ := dp_tup hx
  exact ⟨p, xs, rfl, ex_t a hs, by rw [dps_len hd]; exact hn, h xs hd H1 a Q q⟩
/-- (a, b) = a pair: the two values -/
theorem gs_pair {g1 g2 : TG} {x : V} {d1 d2 : PyData} (hx : Dp K H x (.tuple [d1, d2])) : ∃ v1 v2, Dp K H v1 d1 ∧ Dp K H v2 d2 ∧
    ∀ {σ1 σ2 : L2.St}, GSet g1 v1 σ H σ1 → GSet g2 v2 σ1 H σ2 → GSet (gTup K 2 (gCons g1 (gCons g2 gNil))) x σ H σ2 := by
  obtain ⟨p, xs, rfl, hs, hd⟩ := dp_tup hx
  cases hd with
  | cons h1 t =>
    cases t with
    | cons h2 t2 =>
      cases t2
      refine ⟨_, _, h1, h2, fun {σ1 σ2} k1 k2 H1 a Q q => ⟨p, _, rfl, ex_t a hs, rfl, _, _, rfl, k1 H1 a _ ⟨_, _, rfl, k2 H1 a _ ⟨rfl, q⟩⟩⟩⟩
theorem gs_trip {g1 g2 g3 : TG} {x : V} {d1 d2 d3 : PyData} (hx : Dp K H x (.tuple [d1, d2, d3])) : ∃ v1 v2 v3, Dp K H v1 d1 ∧ Dp K H v2 d2 ∧ Dp K H v3 d3 ∧
    ∀ {σ1 σ2 σ3 : L2.St}, GSet g1 v1 σ H σ1 → GSet g2 v2 σ1 H σ2 → GSet g3 v3 σ2 H σ3 → GSet (gTup K 3 (gCons g1 (gCons g2 (gCons g3 gNil)))) x σ H σ3 := by
  obtain ⟨p, xs, rfl, hs, hd⟩ := dp_tup hx
  cases hd with
  | cons h1 t =>
    cases t with
    | cons h2 t2 =>
      cases t2 with
      | cons h3 t3 =>
        cases t3
        refine ⟨_, _, _, h1, h2, h3, fun {σ1 σ2 σ3} k1 k2 k3 H1 a Q q => ⟨p, _, rfl, ex_t a hs, rfl, _, _, rfl, k1 H1 a _ ⟨_, _, rfl, k2 H1 a _ ⟨_, _, rfl, k3 H1 a _ ⟨rfl, q⟩⟩⟩⟩⟩
theorem q_asgG {g : TG} (h : EvD K te σ H d) (k : ∀ v H1, Ex H H1 → Dp K H1 v d → ∃ σ2, GSet g v σ H1 σ2 ∧ tz D σ2 H1) : tSeq (tAsg te g) tz D σ H := h H (Ex.refl H) _ fun v H1 e hd => by
  obtain ⟨σ2, hg, hq⟩ := k v H1 e hd
  exact hg H1 (Ex.refl H1) _ hq
theorem q_asgGP {g : TG} (h : EvP te σ H P) (k : ∀ v H1, Ex H H1 → P v H1 → ∃ σ2, GSet g v σ H1 σ2 ∧ tz D σ2 H1) : tSeq (tAsg te g) tz D σ H := h H (Ex.refl H) _ fun v H1 e hd => by
  obtain ⟨σ2, hg, hq⟩ := k v H1 e hd
  exact hg H1 (Ex.refl H1) _ hq
end
end Ef
/-! ==== EfIt -/
set_option Elab.async false
set_option linter.all false
set_option maxRecDepth 100000
set_option maxHeartbeats 4000000
/-! What is walked, told as data; loops and comprehensions over it. -/
namespace Ef
open PySem L2 Evl

/-! ### data without lists stay when a list or a dict changes -/
mutual
def noL : PyData → Bool
  | .list _ => false
  | .tuple ds => noLs ds
  | .dict _ => false
  | _ => true
def noLs : List PyData → Bool
  | [] => true
  | d :: ds => noL d && noLs ds
end
theorem noLs_map {α : Type} {ea : α → PyData} (h : ∀ a, noL (ea a) = true) : ∀ as : List α, noLs (as.map ea) = true
  | [] => rfl
  | a :: as => by
    show (noL (ea a) && noLs (as.map ea)) = true
    rw [h a, noLs_map h as]
    rfl
theorem noLs_mem : ∀ {ds : List PyData} {d : PyData}, noLs ds = true → d ∈ ds → noL d = true
  | e :: ds, d, h, m => by
    obtain ⟨h1, h2⟩ := Bool.and_eq_true_iff.mp (show (noL e && noLs ds) = true from h)
    rcases List.mem_cons.mp m with z | z
    · rw [z]; exact h1
    · exact noLs_mem h2 z
/-- neither a tuple nor a locked tuple -/
def NoT (H : Hp) (l : Addr) : Prop := ∀ xs, ¬ Rd H l (.tup xs)
theorem noT_lst {H : Hp} {l : Addr} {xs : List V} (h : H l = some (.lst xs)) : NoT H l := fun ys r => by
  rcases r with r | ⟨o, r⟩ <;> rw [h] at r <;> cases r
theorem noT_dK {H : Hp} {l : Addr} {xs : List (Key × V)} (h : H l = some (.dK xs)) : NoT H l := fun ys r => by
  rcases r with r | ⟨o, r⟩ <;> rw [h] at r <;> cases r
theorem noT_frz {H : Hp} {l : Addr} {od : Obj} {xs : List (Key × V)} (h : H l = some (.frz od (.dK xs))) : NoT H l := fun ys r => by
  rcases r with r | ⟨o, r⟩ <;> rw [h] at r <;> cases r
theorem noT_none {H : Hp} {l : Addr} (h : H l = none) : NoT H l := fun ys r => by
  rcases r with r | ⟨o, r⟩ <;> rw [h] at r <;> cases r
section
variable {K : PySem.W.Frag} {H : Hp} {l : Addr} {u : HO}
theorem sqt_upd (nt : NoT H l) {a : Addr} {xs : List V} (h : SqT K H a xs) : SqT K (upd H l u) a xs := by
  rcases h with h | h
  · have ne : a ≠ l := fun e => nt xs (e ▸ h)
    rcases h with h | ⟨o, h⟩
    · exact .inl (.inl (by rw [upd_ne ne]; exact h))
    · exact .inl (.inr ⟨o, by rw [upd_ne ne]; exact h⟩)
  · exact .inr h
mutual
theorem dp_updN (nt : NoT H l) : ∀ (d : PyData) (v : V), noL d = true → Dp K H v d → Dp K (upd H l u) v d
  | .none, _, _, h => by cases h; exact .non
  | .bool b, _, _, h => by cases h; exact .bl b
  | .int i, _, _, h => by cases h; exact .int i
  | .str x, _, _, h => by cases h; exact .str x
  | .list ds, _, n, h => by cases n
  | .tuple ds, _, n, h => by
    cases h with
    | tup hs ha => exact .tup (sqt_upd nt hs) (dps_updN nt ds _ n ha)
  | .dict _, _, _, h => by cases h
theorem dps_updN (nt : NoT H l) : ∀ (ds : List PyData) (vs : List V), noLs ds = true → DpAll K H vs ds → DpAll K (upd H l u) vs ds
  | [], _, _, h => by cases h; exact .nil
  | d :: ds, _, n, h => by
    obtain ⟨n1, n2⟩ := Bool.and_eq_true_iff.mp (show (noL d && noLs ds) = true from n)
    cases h with
    | cons h1 h2 => exact .cons (dp_updN nt d _ n1 h1) (dps_updN nt ds _ n2 h2)
end
end
/-- neither a list nor a tuple (a dict, locked or not) -/
def NoS (H : Hp) (l : Addr) : Prop := (∀ xs, ¬ Rd H l (.tup xs)) ∧ ∀ xs, ¬ Rd H l (.lst xs)
theorem noS_dK {H : Hp} {l : Addr} {xs : List (Key × V)} (h : H l = some (.dK xs)) : NoS H l := ⟨noT_dK h, fun ys r => by
  rcases r with r | ⟨o, r⟩ <;> rw [h] at r <;> cases r⟩
theorem noS_frz {H : Hp} {l : Addr} {od : Obj} {xs : List (Key × V)} (h : H l = some (.frz od (.dK xs))) : NoS H l := ⟨noT_frz h, fun ys r => by
  rcases r with r | ⟨o, r⟩ <;> rw [h] at r <;> cases r⟩
section
variable {K : PySem.W.Frag} {H : Hp} {l : Addr} {u : HO}
theorem sql_upd (nt : NoS H l) {a : Addr} {xs : List V} (h : SqL K H a xs) : SqL K (upd H l u) a xs := by
  rcases h with h | h
  · have ne : a ≠ l := fun e => nt.2 xs (e ▸ h)
    rcases h with h | ⟨o, h⟩
    · exact .inl (.inl (by rw [upd_ne ne]; exact h))
    · exact .inl (.inr ⟨o, by rw [upd_ne ne]; exact h⟩)
  · exact .inr h
mutual
theorem dp_updS (nt : NoS H l) : ∀ (d : PyData) (v : V), Dp K H v d → Dp K (upd H l u) v d
  | .none, _, h => by cases h; exact .non
  | .bool b, _, h => by cases h; exact .bl b
  | .int i, _, h => by cases h; exact .int i
  | .str x, _, h => by cases h; exact .str x
  | .list ds, _, h => by
    cases h with
    | lst hs ha => exact .lst (sql_upd nt hs) (dps_updS nt ds _ ha)
  | .tuple ds, _, h => by
    cases h with
    | tup hs ha => exact .tup (sqt_upd nt.1 hs) (dps_updS nt ds _ ha)
  | .dict _, _, h => by cases h
theorem dps_updS (nt : NoS H l) : ∀ (ds : List PyData) (vs : List V), DpAll K H vs ds → DpAll K (upd H l u) vs ds
  | [], _, h => by cases h; exact .nil
  | d :: ds, _, h => by
    cases h with
    | cons h1 h2 => exact .cons (dp_updS nt d _ h1) (dps_updS nt ds _ h2)
end
end

/-! ### what is walked -/
abbrev YD (K : PySem.W.Frag) {α : Type} (ea : α → PyData) (as : List α) : Nat → Hp → V → Hp → Prop := fun i Ha x Hb => Ex Ha Hb ∧ ∃ a, as[i]? = some a ∧ Dp K Hb x (ea a)
/-- the walked things stand at H already: the loop may change what is younger -/
def EvIt0 (K : PySem.W.Frag) (wi : TI) (σ : L2.St) (H : Hp) {α : Type} (ea : α → PyData) (as : List α) : Prop :=
  ∀ H1, Ex H H1 → ∀ R : It → Hp → Prop, (∀ J H2, Ex H1 H2 → Walk J as.length (Ex H) (YD K ea as) → R J H2) → wi σ H1 R
/-- .. are made on the way: the loop changes nothing -/
def EvIt (K : PySem.W.Frag) (wi : TI) (σ : L2.St) (H : Hp) {α : Type} (ea : α → PyData) (as : List α) : Prop :=
  ∀ H1, Ex H H1 → ∀ R : It → Hp → Prop, (∀ J H2, Ex H1 H2 → Walk J as.length (Ex H2) (YD K ea as) → R J H2) → wi σ H1 R
section
variable {K : PySem.W.Frag} {σ : L2.St} {H H' : Hp} {ta tb te tl : TE} {v : V} {α β : Type} {ea : α → PyData} {as : List α} {eb : β → PyData} {bs : List β} {wi : TI}
theorem EvIt0.it (h : EvIt0 K wi σ H ea as) : EvIt K wi σ H ea as := fun H1 a R q => h H1 a R fun J H2 e2 w => q J H2 e2 (w.mono (fun _ h => (a.trans e2).trans h) fun _ _ _ _ _ _ y => y)
theorem EvIt0.mono (e : Ex H H') (h : EvIt0 K wi σ H ea as) : EvIt0 K wi σ H' ea as := fun H1 a R q => h H1 (e.trans a) R fun J H2 e2 w => q J H2 e2 (w.mono (fun _ h => e.trans h) fun _ _ _ _ _ _ y => y)
theorem EvIt.mono (e : Ex H H') (h : EvIt K wi σ H ea as) : EvIt K wi σ H' ea as := fun H1 a R q => h H1 (e.trans a) R q
theorem wk_list {a : Addr} {xs : List V} (hs : SqL K H a xs) (hd : DpAll K H xs (as.map ea)) : Walk (Itl K a) as.length (Ex H) (YD K ea as) := by
  have hl : xs.length = as.length := by rw [dps_len hd, List.length_map]
  rw [← hl]
  refine walk_list.mono (fun H' e => ex_l e hs) fun i Ha x Hb hi e y => ?_
  obtain ⟨rfl, y⟩ := y
  obtain ⟨c, h1, h2⟩ := dps_mem (hd.up e) y
  exact ⟨Ex.refl _, c, h1, h2⟩
theorem wk_tup {a : Addr} {xs : List V} (hs : SqT K H a xs) (hd : DpAll K H xs (as.map ea)) : Walk (Itt K a) as.length (Ex H) (YD K ea as) := by
  have hl : xs.length = as.length := by rw [dps_len hd, List.length_map]
  rw [← hl]
  refine walk_tup.mono (fun H' e => ex_t e hs) fun i Ha x Hb hi e y => ?_
  obtain ⟨rfl, y⟩ := y
  obtain ⟨c, h1, h2⟩ := dps_mem (hd.up e) y
  exact ⟨Ex.refl _, c, h1, h2⟩
theorem ei_list0 (hv : Ev tl σ H v) (hd : Dp K H v (.list (as.map ea))) : EvIt0 K (iList K tl) σ H ea as := fun H1 a R q => hv H1 a _ fun H2 e2 => by
  obtain ⟨p, xs, rfl, hs, hx⟩ := dp_lst hd
  exact ⟨p, rfl, ⟨xs, ex_l (a.trans e2) hs⟩, q _ H2 e2 (wk_list hs hx)⟩
theorem ei_tup0 (hv : Ev tl σ H v) (hd : Dp K H v (.tuple (as.map ea))) : EvIt0 K (iTup K tl) σ H ea as := fun H1 a R q => hv H1 a _ fun H2 e2 => by
  obtain ⟨p, xs, rfl, hs, hx⟩ := dp_tup hd
  exact ⟨p, rfl, ⟨xs, ex_t (a.trans e2) hs⟩, q _ H2 e2 (wk_tup hs hx)⟩
theorem ei_list (hv : EvD K tl σ H (.list (as.map ea))) : EvIt K (iList K tl) σ H ea as := fun H1 a R q => hv H1 a _ fun v H2 e2 hd => by
  obtain ⟨p, xs, rfl, hs, hx⟩ := dp_lst hd
  exact ⟨p, rfl, ⟨xs, hs⟩, q _ H2 e2 (wk_list hs hx)⟩
theorem ei_tup (hv : EvD K tl σ H (.tuple (as.map ea))) : EvIt K (iTup K tl) σ H ea as := fun H1 a R q => hv H1 a _ fun v H2 e2 hd => by
  obtain ⟨p, xs, rfl, hs, hx⟩ := dp_tup hd
  exact ⟨p, rfl, ⟨xs, hs⟩, q _ H2 e2 (wk_tup hs hx)⟩
theorem ei_range {ta : TA} {n : Int} (h : EvA ta σ H [.int n]) (hn : n ≤ 100000) (h0 : -100000 ≤ n) : EvIt0 K (iRng1 ta) σ H (fun i : Nat => .int i) (List.range n.toNat) := fun H1 a R q => h H1 a _ fun H2 e2 =>
  ⟨n, rfl, by omega, by omega, q _ H2 e2 (by
    rw [List.length_range]
    refine walk_range.mono (fun _ _ => trivial) fun i Ha x Hb hi _ y => ?_
    obtain ⟨rfl, rfl⟩ := y
    refine ⟨Ex.refl _, i, by simp [hi], ?_⟩
    show Dp K _ (.int (0 + (i : Int))) (.int (i : Int))
    rw [Int.zero_add]
    exact .int _)⟩
theorem ei_str {s : Str} (h : Ev te σ H (.str s)) : EvIt0 K (iStr te) σ H (fun c : Nat => .str ⟨#[c]⟩) s.cps.toList := fun H1 a R q => h H1 a _ fun H2 e2 =>
  ⟨s, rfl, q _ H2 e2 (by
    have hl : s.cps.toList.length = s.cps.size := by simp
    rw [hl]
    refine walk_str.mono (fun _ _ => trivial) fun i Ha x Hb hi _ y => ?_
    obtain ⟨rfl, c, h1, rfl⟩ := y
    exact ⟨Ex.refl _, c, by simpa using h1, .str _⟩)⟩
/-- zip of two lists -/
theorem wk_zip {a b : Addr} {xs ys : List V} (hs : SqL K H a xs) (hd : DpAll K H xs (as.map ea)) (hs2 : SqL K H b ys) (hd2 : DpAll K H ys (bs.map eb)) : Walk (Itz K a b) (as.zip bs).length (Ex H) (YD K (fun p : α × β => .tuple [ea p.1, eb p.2]) (as.zip bs)) := by
  have hl : xs.length = as.length := by rw [dps_len hd, List.length_map]
  have hl2 : ys.length = bs.length := by rw [dps_len hd2, List.length_map]
  refine (walk_zip (xs := xs) (ys := ys) (by rw [List.length_zip, hl, hl2])).mono (fun H' e => ⟨ex_l e hs, ex_l e hs2⟩) fun i Ha x Hb hi e y => ?_
  obtain ⟨T, x1, x2, rfl, hT, rfl, h1, h2⟩ := y
  obtain ⟨c1, k1, k2⟩ := dps_mem (hd.up e) h1
  obtain ⟨c2, k3, k4⟩ := dps_mem (hd2.up e) h2
  exact ⟨Ex.new hT, (c1, c2), List.getElem?_zip_eq_some.mpr ⟨k1, k3⟩, .tup (st_of upd_same) (.cons (k2.up (Ex.new hT)) (.cons (k4.up (Ex.new hT)) .nil))⟩
theorem walk_zipT {a b : Addr} {xs ys : List V} {n : Nat} (hn : n = min xs.length ys.length) : Walk (RZ.ItzT K a b) n (fun H => SqT K H a xs ∧ SqT K H b ys) (YPair (fun i => xs[i]?) (fun i => ys[i]?)) := by
  subst hn
  refine ⟨fun i _ hi q => ?_, fun _ q => ⟨xs, ys, q.1, q.2, by omega⟩, fun i H v H' _ q y => ?_⟩
  · have h1 : i < xs.length := by omega
    have h2 : i < ys.length := by omega
    exact ⟨xs, ys, xs[i], ys[i], q.1, q.2, by simp [h1], by simp [h2]⟩
  · obtain ⟨T, x, z, h1, h2, h3, h4, h5⟩ := y
    exact ⟨T, x, z, h1, h2, h3, h4 xs q.1, h5 ys q.2⟩
theorem wk_zipT {a b : Addr} {xs ys : List V} (hs : SqT K H a xs) (hd : DpAll K H xs (as.map ea)) (hs2 : SqT K H b ys) (hd2 : DpAll K H ys (bs.map eb)) : Walk (RZ.ItzT K a b) (as.zip bs).length (Ex H) (YD K (fun p : α × β => .tuple [ea p.1, eb p.2]) (as.zip bs)) := by
  have hl : xs.length = as.length := by rw [dps_len hd, List.length_map]
  have hl2 : ys.length = bs.length := by rw [dps_len hd2, List.length_map]
  refine (walk_zipT (xs := xs) (ys := ys) (by rw [List.length_zip, hl, hl2])).mono (fun H' e => ⟨ex_t e hs, ex_t e hs2⟩) fun i Ha x Hb hi e y => ?_
  obtain ⟨T, x1, x2, rfl, hT, rfl, h1, h2⟩ := y
  obtain ⟨c1, k1, k2⟩ := dps_mem (hd.up e) h1
  obtain ⟨c2, k3, k4⟩ := dps_mem (hd2.up e) h2
  exact ⟨Ex.new hT, (c1, c2), List.getElem?_zip_eq_some.mpr ⟨k1, k3⟩, .tup (st_of upd_same) (.cons (k2.up (Ex.new hT)) (.cons (k4.up (Ex.new hT)) .nil))⟩
theorem ei_zip (h1 : EvD K ta σ H (.list (as.map ea))) (h2 : EvD K tb σ H (.list (bs.map eb))) : EvIt K (iZip K (tCons ta (tCons tb tNil))) σ H (fun p : α × β => .tuple [ea p.1, eb p.2]) (as.zip bs) := fun H1 a R q => h1 H1 a _ fun v1 H2 e2 hv1 => h2 H2 (a.trans e2) _ fun v2 H3 e3 hv2 => by
  obtain ⟨p1, xs, rfl, s1, d1⟩ := dp_lst (hv1.up e3)
  obtain ⟨p2, ys, rfl, s2, d2⟩ := dp_lst hv2
  exact ⟨p1, p2, xs, ys, rfl, s1, s2, q _ H3 (e2.trans e3) (wk_zip s1 d1 s2 d2)⟩
theorem ei_zipT0 {v1 v2 : V} (h1 : Ev ta σ H v1) (d1 : Dp K H v1 (.tuple (as.map ea))) (h2 : Ev tb σ H v2) (d2 : Dp K H v2 (.tuple (bs.map eb))) : EvIt0 K (RZ.iZipA K (tCons ta (tCons tb tNil))) σ H (fun p : α × β => .tuple [ea p.1, eb p.2]) (as.zip bs) := fun H1 a R q => h1 H1 a _ fun H2 e2 => h2 H2 (a.trans e2) _ fun H3 e3 => by
  obtain ⟨p1, xs, rfl, s1, d1⟩ := dp_tup d1
  obtain ⟨p2, ys, rfl, s2, d2⟩ := dp_tup d2
  exact ⟨p1, p2, xs, ys, rfl, .inr ⟨ex_t ((a.trans e2).trans e3) s1, ex_t ((a.trans e2).trans e3) s2, q _ H3 (e2.trans e3) (wk_zipT s1 d1 s2 d2)⟩⟩
/-- enumerate of a list -/
theorem wk_enum {a : Addr} {xs : List V} (hs : SqL K H a xs) (hd : DpAll K H xs (as.map ea)) : Walk (Ite K a) as.zipIdx.length (Ex H) (YD K (fun p : α × Nat => .tuple [.int p.2, ea p.1]) as.zipIdx) := by
  have hl : xs.length = as.length := by rw [dps_len hd, List.length_map]
  have hl2 : as.zipIdx.length = xs.length := by rw [List.length_zipIdx, hl]
  rw [hl2]
  refine walk_enum.mono (fun H' e => ex_l e hs) fun i Ha x Hb hi e y => ?_
  obtain ⟨T, x1, x2, rfl, hT, rfl, h1, h2⟩ := y
  obtain ⟨c2, k3, k4⟩ := dps_mem (hd.up e) h2
  have e1 : V.int ((i : Nat) : Int) = x1 := Option.some.inj h1
  subst e1
  exact ⟨Ex.new hT, (c2, i), by rw [List.getElem?_zipIdx, k3]; simp, .tup (st_of upd_same) (.cons (.int _) (.cons (k4.up (Ex.new hT)) .nil))⟩
theorem ei_enum0 (hv : Ev ta σ H v) (hd : Dp K H v (.list (as.map ea))) : EvIt0 K (iEnum K (tCons ta tNil)) σ H (fun p : α × Nat => .tuple [.int p.2, ea p.1]) as.zipIdx := fun H1 a R q => hv H1 a _ fun H2 e2 => by
  obtain ⟨p, xs, rfl, hs, hx⟩ := dp_lst hd
  exact ⟨p, xs, rfl, ex_l (a.trans e2) hs, q _ H2 e2 (wk_enum hs hx)⟩
end

/-! ### comprehensions -/
section
variable {K : PySem.W.Frag} {σ : L2.St} {H H' : Hp} {te : TE} {tt : TT} {g : TG} {vs : List Nat} {v : V} {α β : Type} {ea : α → PyData} {as : List α} {eb : β → PyData} {wi : TI}
theorem fm_take {f : α → Option β} {i : Nat} {a : α} (h : as[i]? = some a) : (as.take (i + 1)).filterMap f = (as.take i).filterMap f ++ (f a).toList := by
  rw [List.take_succ, h, List.filterMap_append]
  have e2 : List.filterMap f (some a).toList = (f a).toList := by
    show List.filterMap f [a] = _
    cases e : f a with
    | none => rw [List.filterMap_cons, e] <;> rfl
    | some b => rw [List.filterMap_cons, e] <;> rfl
  rw [e2]
theorem en_lc (hi : EvIt K wi σ H ea as) (f : α → Option β) (hn : ∀ b, noL (eb b) = true) (hl : as.length ≤ 50000)
    (hs : ∀ a x Hb, a ∈ as → Ex H Hb → Dp K Hb x (ea a) → ∃ σ2, GSet g x (wipe σ vs) Hb σ2 ∧ wipe σ2 vs = wipe σ vs ∧ ∃ b, EvT tt σ2 Hb b ∧ (b = true → ∃ c, f a = some c ∧ EvD K te σ2 Hb (eb c)) ∧ (b = false → f a = none)) :
    EvN K (tLc wi g tt te vs) σ H ((as.filterMap f).map eb) := fun H1 a Q q => hi H1 a _ fun J H2 e2 w D hD => by
  refine lc_it w (fun i H' => H2 D = none ∧ Ex H2 H' ∧ ∃ acc, H' D = some (.lst acc) ∧ DpAll K H' acc (((as.take i).filterMap f).map eb)) ⟨hD, Ex.new hD, [], upd_same, by rw [List.take_zero]; exact .nil⟩ (fun i H' _ p => p.2.1) (fun i x Ha Hb hi p y => ?_) fun H' p => ?_
  · obtain ⟨p1, p2, acc, p3, p4⟩ := p
    obtain ⟨y1, c, y2, y3⟩ := y
    have eb1 : Ex H Hb := (a.trans e2).trans (p2.trans y1)
    obtain ⟨σ2, h1, h2, b, h3, h4, h5⟩ := hs c x Hb (List.mem_of_getElem? y2) eb1 y3
    have hlen : acc.length ≤ i := by
      rw [dps_len p4, List.length_map]
      exact Nat.le_trans (List.length_filterMap_le _ _) (by rw [List.length_take]; omega)
    refine h1 Hb (Ex.refl _) _ ⟨h2, h3 Hb (Ex.refl _) _ fun H3 e3 => ?_⟩
    cases b with
    | true =>
      obtain ⟨r, hr, hv⟩ := h4 rfl
      show te σ2 H3 _
      refine hv H3 e3 _ fun y H4 e4 hy => ⟨acc, e4 _ _ (e3 _ _ (y1 _ _ p3)), sz_lt (by omega), p1, ?_⟩
      refine ⟨Ex.mut (((p2.trans y1).trans e3).trans e4) p1, acc ++ [y], upd_same, ?_⟩
      rw [fm_take y2, hr, List.map_append]
      have q3 : H4 D = some (.lst acc) := e4 _ _ (e3 _ _ (y1 _ _ p3))
      refine dps_app (dps_updN (noT_lst q3) _ _ (noLs_map hn _) (((p4.up y1).up e3).up e4)) ?_
      exact .cons (dp_updN (noT_lst q3) _ _ (hn r) hy) .nil
    | false =>
      show _ ∧ _ ∧ _
      refine ⟨p1, (p2.trans y1).trans e3, acc, e3 _ _ (y1 _ _ p3), ?_⟩
      rw [fm_take y2, h5 rfl]
      show DpAll K H3 acc (((as.take i).filterMap f ++ []).map eb)
      rw [List.append_nil]
      exact (p4.up y1).up e3
  · obtain ⟨p1, p2, acc, p3, p4⟩ := p
    rw [List.take_length] at p4
    exact q D acc H' (fresh_back e2 p1) (e2.trans p2) p3 p4
/-- without a test -/
theorem et_yes : EvT tYes σ H true := fun H1 a Q q => q H1 (Ex.refl _)
theorem en_map (hi : EvIt K wi σ H ea as) (f : α → β) (hn : ∀ b, noL (eb b) = true) (hl : as.length ≤ 50000)
    (hs : ∀ a x Hb, a ∈ as → Ex H Hb → Dp K Hb x (ea a) → ∃ σ2, GSet g x (wipe σ vs) Hb σ2 ∧ wipe σ2 vs = wipe σ vs ∧ EvD K te σ2 Hb (eb (f a))) :
    EvN K (tLc wi g tYes te vs) σ H ((as.map f).map eb) := by
  have h := en_lc (eb := eb) (tt := tYes) hi (fun a => some (f a)) hn hl (fun a x Hb ha e hx => by
    obtain ⟨σ2, h1, h2, h3⟩ := hs a x Hb ha e hx
    exact ⟨σ2, h1, h2, true, et_yes, fun _ => ⟨f a, rfl, h3⟩, fun z => by cases z⟩)
  have e : as.filterMap (fun a => some (f a)) = as.map f := by
    rw [← List.filterMap_eq_map]
    rfl
  rw [e] at h
  exact h
/-- the pairs of a dict that nothing changes meanwhile -/
def pairD (p : Str × Int) : PyData := .tuple [.str p.1, .int p.2]
def dk (l : List (Str × Int)) : List (Key × V) := l.map fun p => (.inr p.1, .int p.2)
theorem ei_items {td : TE} {d : Addr} {o : Obj} {l : List (Str × Int)} (hd : Ev td σ H (.ref d)) (h : H d = some (.frz o (.dK (dk l)))) : EvIt K (iItems td) σ H pairD l := fun H1 a R q => hd H1 a _ fun H2 e2 =>
  ⟨d, o, dk l, rfl, (a.trans e2) _ _ h, q _ H2 e2 (by
    have hl : (dk l).length = l.length := by rw [dk, List.length_map]
    rw [← hl]
    refine walk_items.mono (fun H' e => e _ _ ((a.trans e2) _ _ h)) fun i Ha x Hb hi _ y => ?_
    obtain ⟨T, x1, x2, rfl, hT, rfl, h1, h2⟩ := y
    have e3 : (dk l)[i]? = (l[i]?).map fun p => ((.inr p.1, .int p.2) : Key × V) := by rw [dk, List.getElem?_map]
    dsimp only at h1 h2
    cases el : l[i]? with
    | none => rw [e3, el] at h1; cases h1
    | some p =>
      rw [e3, el] at h1 h2
      have h1' : V.str p.1 = x1 := Option.some.inj h1
      have h2' : V.int p.2 = x2 := Option.some.inj h2
      subst h1'
      subst h2'
      exact ⟨Ex.new hT, p, el, .tup (st_of upd_same) (.cons (.str _) (.cons (.int _) .nil))⟩)⟩
/-- [.. for a, b in d.items()], the dict locked meanwhile -/
theorem en_lock {t : TE} {d : Addr} {kvs : List (Key × V)} {ds : List PyData} (h : H d = some (.dK kvs)) (ht : ∀ H1 od, Ex H H1 → EvN K t σ (upd H1 d (.frz od (.dK kvs))) ds) : EvN K (tLockE t) σ H ds := fun H1 a Q q => by
  have hd := a _ _ h
  refine ⟨d, _, hd, trivial, fun od => ?_⟩
  refine ht H1 od a _ (Ex.refl _) _ fun p xs H2 hp e2 hx hD => ?_
  have npd : p ≠ d := fun z => by
    rw [z, upd_same] at hp
    cases hp
  have h2d : H2 d = some (.frz od (.dK kvs)) := e2 _ _ upd_same
  refine ⟨h2d, q p xs _ (by rw [upd_ne npd] at hp; exact hp) (fun b o hb => ?_) (by rw [upd_ne npd]; exact hx) (dps_updS (noS_frz h2d) _ _ hD)⟩
  by_cases z : b = d
  · subst z
    rw [upd_same]
    rw [hd] at hb
    exact hb
  · rw [upd_ne z]
    exact e2 _ _ (by rw [upd_ne z]; exact hb)
end

/-! ### loops -/
section
variable {K : PySem.W.Frag} {σ : L2.St} {H H0 H' : Hp} {g : TG} {tb tz : TS} {α : Type} {ea : α → PyData} {as : List α} {wi : TI} {D : Ends}
theorem s_for0 (hi : EvIt0 K wi σ H0 ea as) (e0 : Ex H0 H) (Pv : Nat → L2.St → Hp → Prop) (h0 : ∀ H1, Ex H H1 → Pv 0 σ H1) (hG : ∀ i σ' H', Pv i σ' H' → Ex H0 H')
    (hs : ∀ i a x σ' H' Hb, as[i]? = some a → Pv i σ' H' → Ex H' Hb → Dp K Hb x (ea a) → ∃ σ2, GSet g x σ' Hb σ2 ∧ tb { D with nx := Pv (i + 1), ct := Pv (i + 1), bk := D.nx } σ2 Hb)
    (hd : ∀ σ' H', Pv as.length σ' H' → D.nx σ' H') : tFor wi g tb D σ H := hi H e0 _ fun J H2 e2 w => by
  refine for_it w Pv (h0 H2 e2) (fun i σ' H' _ p => hG i σ' H' p) (fun i x σ' Ha Hb hi p y => ?_) hd
  obtain ⟨y1, c, y2, y3⟩ := y
  obtain ⟨σ2, h1, h2⟩ := hs i c x σ' Ha Hb y2 p y1 y3
  exact h1 Hb (Ex.refl _) _ h2
theorem q_for0 (hi : EvIt0 K wi σ H0 ea as) (e0 : Ex H0 H) (Pv : Nat → L2.St → Hp → Prop) (h0 : ∀ H1, Ex H H1 → Pv 0 σ H1) (hG : ∀ i σ' H', Pv i σ' H' → Ex H0 H')
    (hs : ∀ i a x σ' H' Hb, as[i]? = some a → Pv i σ' H' → Ex H' Hb → Dp K Hb x (ea a) → ∃ σ2, GSet g x σ' Hb σ2 ∧ tb { D with nx := Pv (i + 1), ct := Pv (i + 1), bk := tz D } σ2 Hb)
    (hd : ∀ σ' H', Pv as.length σ' H' → tz D σ' H') : tSeq (tFor wi g tb) tz D σ H := s_for0 (D := { D with nx := tz D }) hi e0 Pv h0 hG hs hd
/-- a loop over things made on the way, that changes no object -/
theorem s_forN (hi : EvIt K wi σ H ea as) (Pv : Hp → Nat → L2.St → Hp → Prop) (h0 : ∀ H1, Ex H H1 → Pv H1 0 σ H1) (hG : ∀ H1 i σ' H', Pv H1 i σ' H' → Ex H1 H')
    (hs : ∀ H1 i a x σ' H' Hb, as[i]? = some a → Pv H1 i σ' H' → Ex H' Hb → Dp K Hb x (ea a) → ∃ σ2, GSet g x σ' Hb σ2 ∧ tb { D with nx := Pv H1 (i + 1), ct := Pv H1 (i + 1), bk := D.nx } σ2 Hb)
    (hd : ∀ H1 σ' H', Pv H1 as.length σ' H' → D.nx σ' H') : tFor wi g tb D σ H := hi H (Ex.refl _) _ fun J H2 e2 w => by
  refine for_it w (Pv H2) (h0 H2 e2) (fun i σ' H' _ p => hG H2 i σ' H' p) (fun i x σ' Ha Hb hi p y => ?_) (hd H2)
  obtain ⟨y1, c, y2, y3⟩ := y
  obtain ⟨σ2, h1, h2⟩ := hs H2 i c x σ' Ha Hb y2 p y1 y3
  exact h1 Hb (Ex.refl _) _ h2
theorem q_forN (hi : EvIt K wi σ H ea as) (Pv : Hp → Nat → L2.St → Hp → Prop) (h0 : ∀ H1, Ex H H1 → Pv H1 0 σ H1) (hG : ∀ H1 i σ' H', Pv H1 i σ' H' → Ex H1 H')
    (hs : ∀ H1 i a x σ' H' Hb, as[i]? = some a → Pv H1 i σ' H' → Ex H' Hb → Dp K Hb x (ea a) → ∃ σ2, GSet g x σ' Hb σ2 ∧ tb { D with nx := Pv H1 (i + 1), ct := Pv H1 (i + 1), bk := tz D } σ2 Hb)
    (hd : ∀ H1 σ' H', Pv H1 as.length σ' H' → tz D σ' H') : tSeq (tFor wi g tb) tz D σ H := s_forN (D := { D with nx := tz D }) hi Pv h0 hG hs hd
end
end Ef
/-! ==== EfRules -/
set_option Elab.async false
set_option linter.all false
set_option maxRecDepth 100000
set_option maxHeartbeats 4000000
/-! Rules that the hand layer lacks: a dict made on the way and walked, min of data, min with default=, a chain of three, sorted of a tuple of texts, enumerate of a tuple. -/
namespace Ef
open PySem PySem.Spec PyProof.Rows L2 Evl

section
variable {X : Cx}
/-! ### what an expression gives is locked for good (a dict made on the way) -/
def tFrz (td : TE) : TE := fun σ H Q => td σ H fun x H1 => ∃ d u, x = .ref d ∧ H1 d = some u ∧ Mut (some u) ∧ ∀ od, Q x (upd H1 d (.frz od u))
theorem pe_frz {e : Expr} {td : TE} (he : PE X e td) : PE X e (tFrz td) := by
  refine ⟨fun pins s σ H Q I h => ?_⟩
  refine thn (he.run pins s σ H _ I h) fun v s1 ⟨x, H1, I1, r1, d, u, ex, hd, mu, q⟩ => ?_
  obtain ⟨od, I2⟩ := I1.lock hd mu
  exact ⟨x, _, I2, r1, q od⟩

/-! ### min of a list of data -/
def rMinO (K : PySem.W.Frag) (α : Type) [DecidableEq α] [PySem.W.DatumOrd α] : List V → Hp → VK → Prop := fun vs H Q => ∃ (v : V) (x : α) (xs : List α), vs = [v] ∧ Dp K H v (.list ((x :: xs).map PySem.W.Datum.toD)) ∧
  ∀ w, Dp K H w (PySem.W.Datum.toD (PySem.W.minOf x xs)) → Q w H
theorem holdAll_of {K : PySem.W.Frag} {pins : List (Addr × Obj)} {s : Shared} {σ : L2.St} {H : Hp} (hK : X.K = K) (I : Inv X pins σ H s) {α : Type} [DecidableEq α] [PySem.W.Datum α] {vs : List V} {us : List Value} {xs : List α} (r : Vals vs us)
    (h : DpAll K H vs (xs.map PySem.W.Datum.toD)) : PySem.W.HoldAll s.heap us xs := by
  subst hK
  exact Dp.readsAll I _ _ _ h r
theorem cr_minO (α : Type) [DecidableEq α] [PySem.W.DatumOrd α] (hc : X.calm = true) (hu : X.A.units + 1 + PySem.W.Datum.depth α < cLine) : CallR X (.builtin "min") (rMinO X.K α) := by
  intro pins s σ H vs us Q I r h
  obtain ⟨v, x, xs, rfl, hd, q⟩ := h
  obtain ⟨a, ys, rfl, hs, hx⟩ := dp_lst hd
  obtain ⟨its, rv, hl, _⟩ := I.list hs
  rw [Vals.ref1 r]
  have HA : PySem.W.HoldAll s.heap its.toArray.toList (x :: xs) := by
    simpa using holdAll_of rfl I rv hx
  refine PySem.W.min_list_datum (I.ok.hd hc) hl.isList HA hu fun i w h' tk hi hw hk => ?_
  have hi2 : its[i]? = some w := by simpa using hi
  have I2 : Inv X pins σ H { s with heap := h', toks := tk } := I.kept hk
  have lens : ys.length = its.length := rv.length
  obtain ⟨hlt, _⟩ := List.getElem?_eq_some_iff.mp hi2
  obtain ⟨y, hy⟩ : ∃ y, ys[i]? = some y := ⟨ys[i]'(by omega), by simp [show i < ys.length by omega]⟩
  obtain ⟨w2, hw2, rw2⟩ := rv.get hy
  rw [hi2] at hw2
  cases hw2
  obtain ⟨c, hc1, hc2⟩ := dps_mem hx hy
  obtain ⟨bs, r1⟩ := Dp.reads I2 _ _ _ hc2 rw2
  obtain ⟨cs, r2⟩ := hw
  have e1 := PySem.SeqAt.readOf_plain (PySem.W.Datum.plain c) r1
  have e2 := PySem.SeqAt.readOf_plain (PySem.W.Datum.plain (PySem.W.minOf x xs)) r2
  have e3 : PySem.W.Datum.toD c = PySem.W.Datum.toD (PySem.W.minOf x xs) := e1.symm.trans e2
  exact ⟨y, H, I2, rw2, q y (e3 ▸ hc2)⟩

/-! ### min(xs, default=d), ints -/
def rMinDf (K : PySem.W.Frag) : List V → List V → Hp → VK → Prop := fun vs zs H Q => ∃ (v z : V) (ns : List Int), vs = [v] ∧ zs = [z] ∧ Dp K H v (.list (ns.map .int)) ∧
  (ns = [] → Q z H) ∧ ∀ n ms, ns = n :: ms → Q (.int (PySem.W.minOf n ms)) H
theorem cr_minDf (hc : X.calm = true) (hu : X.A.units + 1 < cLine) : CallRK X (.builtin "min") [Str.ofString "default"] (rMinDf X.K) := by
  intro pins s σ H vs zs us ws Q I r rz h
  obtain ⟨v, z, ns, rfl, rfl, hd, q0, q1⟩ := h
  obtain ⟨a, ys, rfl, hs, hx⟩ := dp_lst hd
  obtain ⟨its, rv, hl, _⟩ := I.list hs
  rw [Vals.ref1 r]
  obtain ⟨z', rfl, rz'⟩ := vals1 rz
  have HA : PySem.W.HoldAll s.heap its.toArray.toList ns := by
    simpa using holdAll_of (α := Int) rfl I rv hx
  refine PySem.W.min_list_datum_default (α := Int) (I.ok.hd hc) hl.isList HA (by show X.A.units + 1 + 0 < cLine; omega) (fun e h' tk hk => ⟨z, H, I.kept hk, rz', q0 e⟩) fun y yss i w h' tk e hi hw hk => ?_
  obtain ⟨cs, r2⟩ := hw
  have e4 : ∃ t, w = .int (PySem.W.minOf y yss) t := by
    cases r2
    exact ⟨_, rfl⟩
  exact ⟨.int _, H, I.kept hk, e4, q1 y yss e⟩

/-! ### a op b op' c op'' d -/
def tChain3 (r r' r'' : R2) (ta tb tc td : TE) : TE := fun σ H Q => ta σ H fun x H1 => tb σ H1 fun y H2 => r x y H2 fun z H3 => ∃ k, z = .bl k ∧
  (if k = true then tc σ H3 fun y2 H4 => r' y y2 H4 fun z2 H5 => ∃ k2, z2 = .bl k2 ∧ (if k2 = true then td σ H5 fun w' H6 => r'' y2 w' H6 Q else Q (.bl false) H5) else Q (.bl false) H3)
theorem pe_chain3 {a b c d : Expr} {ta tb tc td : TE} {pos : Pos} {op op' op'' : CmpOp} {r r' r'' : R2} (ho : OpR X (compareOp op) r) (ho' : OpR X (compareOp op') r') (ho'' : OpR X (compareOp op'') r'') (ha : PE X a ta) (hb : PE X b tb) (hc : PE X c tc) (hd : PE X d td)
    (hm : lastMarks [op, op', op''] [b, c, d] = false := by with_unfolding_all rfl) : PE X (.Compare a [op, op', op''] [b, c, d] pos) (tChain3 r r' r'' ta tb tc td) := by
  refine ⟨fun pins s σ H Q I h => ?_⟩
  refine Compare_chain (thn (ha.run pins s σ H _ I h) fun v s1 ⟨x, H1, I1, r1, q1⟩ => chain_link (thn (hb.run pins s1 σ H1 _ I1 q1) fun u s2 ⟨y, H2, I2, r2, q2⟩ =>
    thn (ho pins s2 σ H2 x y v u _ I2 r1 r2 q2) fun e s3 ⟨z, H3, I3, r3, k, ek, q3⟩ => ?_)) hm
  subst ek
  cases r3
  refine wpAny_truthy_bool ?_
  cases k with
  | false => exact ite_ff ⟨.bl false, H3, I3, rfl, q3⟩
  | true =>
    refine ite_tt (chain_link (thn (hc.run pins s3 σ H3 _ I3 q3) fun u2 s4 ⟨y2, H4, I4, r4, q4⟩ => thn (ho' pins s4 σ H4 y y2 u u2 _ I4 r2 r4 q4) fun e2 s5 ⟨z2, H5, I5, r5, k2, ek2, q5⟩ => ?_))
    subst ek2
    cases r5
    refine wpAny_truthy_bool ?_
    cases k2 with
    | false => exact ite_ff ⟨.bl false, H5, I5, rfl, q5⟩
    | true => exact ite_tt (chain_last (thn (hd.run pins s5 σ H5 _ I5 q5) fun w' s6 ⟨z', H6, I6, r6, q6⟩ => ho'' pins s6 σ H6 y2 z' u2 w' Q I6 r4 r6 q6))
end
end Ef
/-! ==== EfRules2 -/
set_option Elab.async false
set_option linter.all false
set_option maxRecDepth 100000
set_option maxHeartbeats 4000000
/-! Rules that the hand layer lacks, second part: in, not in of data; enumerate of a tuple; sorted of a tuple of texts. -/
namespace Ef
open PySem PySem.Spec PyProof.Rows L2 Evl

section
variable {X : Cx}
/-! ### x in xs, x not in xs: lists of data -/
def rInO (K : PySem.W.Frag) (α : Type) [DecidableEq α] [PySem.W.Datum α] (neg : Bool) : R2 := fun x y H Q => ∃ (a : α) (xs : List α), Dp K H x (PySem.W.Datum.toD a) ∧ Dp K H y (.list (xs.map PySem.W.Datum.toD)) ∧
  Q (.bl (if neg then !decide (a ∈ xs) else decide (a ∈ xs))) H
theorem op_inO (α : Type) [DecidableEq α] [PySem.W.Datum α] (hu : X.A.units + 1 + PySem.W.Datum.depth α < cLine) : OpR X (compareOp .In) (rInO X.K α false) := by
  intro pins s σ H x y v u Q I rx ry h
  obtain ⟨a, xs, ha, hl, q⟩ := h
  obtain ⟨p, ys, rfl, hs, hx⟩ := dp_lst hl
  cases ry
  obtain ⟨its, rv, pl, _⟩ := I.list hs
  obtain ⟨as, r1⟩ := Dp.reads I _ _ _ ha rx
  refine PySem.W.in_list_datum (x := a) (xs := xs) pl.isList ?_ ⟨as, r1⟩ hu ⟨.bl _, H, I, rfl, q⟩
  simpa using holdAll_of rfl I rv hx
theorem op_notInO (α : Type) [DecidableEq α] [PySem.W.Datum α] (hu : X.A.units + 1 + PySem.W.Datum.depth α < cLine) : OpR X (compareOp .NotIn) (rInO X.K α true) := by
  intro pins s σ H x y v u Q I rx ry h
  obtain ⟨a, xs, ha, hl, q⟩ := h
  obtain ⟨p, ys, rfl, hs, hx⟩ := dp_lst hl
  cases ry
  obtain ⟨its, rv, pl, _⟩ := I.list hs
  obtain ⟨as, r1⟩ := Dp.reads I _ _ _ ha rx
  refine PySem.W.notIn_list_datum (x := a) (xs := xs) pl.isList ?_ ⟨as, r1⟩ hu ⟨.bl _, H, I, ?_, q⟩
  · simpa using holdAll_of rfl I rv hx
  · show Value.bool _ = Value.bool _
    congr 1
    simp
end

/-! ### enumerate of a tuple -/
theorem newE_tup {t : Addr} {items : Array Value} :
    Meets (Builtin.«enumerate.__new__» ⟨[.type "enumerate", .ref t], []⟩) (fun _ R s => s.heap.IsTuple t items ∧
      R (.ok (.ret (.ref (s.heap.push { cls := .type "tuple_iterator", data := .fields #[.ref t, .int 0 0] }).objs.size)))
        { s with heap := (s.heap.push { cls := .type "tuple_iterator", data := .fields #[.ref t, .int 0 0] }).push { cls := .type "enumerate", data := .fields #[.none, .bool false, .ref s.heap.objs.size, rawInt 0, .none, .none] } }) :=
  .of_wp fun prog w A R s h => by
    obtain ⟨hp, g, d, tk, os⟩ := s
    obtain ⟨hT, h⟩ := h
    have hsub := sub_enumerate
    have q1 : ∀ {A' : Around} {E : Value → Shared → Prop} {Q : Value → Shared → Prop}, Q (.ref hp.objs.size) ⟨hp.push { cls := .type "tuple_iterator", data := .fields #[.ref t, .int 0 0] }, g, d, tk, os⟩ → wpAny (model prog w) A' (pyIter (.ref t)) Q E ⟨hp, g, d, tk, os⟩ :=
      fun q => wpAny_pyIter_tuple (s := ⟨hp, g, d, tk, os⟩) hT q
    wp_walk using q1
    refine wpAny_stack_any fun st => wpAny_pure ?_
    split
    · rename_i c _ _ _ _ _
      cases (c == Value.type "enumerate")
      · wp_walk using q1
        exact ⟨_, rfl, h⟩
      · wp_walk using q1
        exact ⟨_, rfl, h⟩
    · wp_walk using q1
      exact ⟨_, rfl, h⟩
section
variable {prog : Program} {w : World} {A : Around} {E : Value → Shared → Prop} {s : Shared}
theorem call_enumT {t : Addr} {items : Array Value} {Q : Value → Shared → Prop} (hT : s.heap.IsTuple t items)
    (h : ∀ h', IsEnum h' (s.heap.objs.size + 1) s.heap.objs.size 0 .none → h'.IsTupleIter s.heap.objs.size t 0 → h'.objs.size = s.heap.objs.size + 2 →
      (∀ b o, s.heap.get? b = some o → h'.get? b = some o) → Q (.ref (s.heap.objs.size + 1)) { s with heap := h' }) :
    wpAny (model prog w) A (call (.type "enumerate") [.ref t]) Q E s := by
  refine callType_new F.called_enumerate (by decide) (F.typeCall_enumerate_1 _) (F.newCall_enumerate_1 _) (fun obj => F.args_object_init_2 obj _) F.entry_enumerate_new (newE_tup (t := t) (items := items)) ⟨hT, ?_⟩
  have z1 : (s.heap.push { cls := .type "tuple_iterator", data := .fields #[.ref t, .int 0 0] }).objs.size = s.heap.objs.size + 1 := Heap.size_push ..
  show _ ∧ _
  rw [z1]
  have e1 : IsEnum ((s.heap.push { cls := .type "tuple_iterator", data := .fields #[.ref t, .int 0 0] }).push
      { cls := .type "enumerate", data := .fields #[.none, .bool false, .ref s.heap.objs.size, rawInt 0, .none, .none] }) (s.heap.objs.size + 1) s.heap.objs.size 0 .none := by
    have q := Heap.get?_push_size (s.heap.push { cls := .type "tuple_iterator", data := .fields #[.ref t, .int 0 0] })
      (o := { cls := .type "enumerate", data := .fields #[.none, .bool false, .ref s.heap.objs.size, rawInt 0, .none, .none] }) rfl
    rw [z1] at q
    exact q
  exact ⟨⟨_, e1, rfl⟩, h _ e1 ⟨_, Heap.get?_push_of_some _ (Heap.get?_push_size _ rfl), rfl, rfl⟩ (by rw [Heap.size_push, z1]) fun b o x => Heap.get?_push_of_some _ (Heap.get?_push_of_some _ x)⟩
end
section
variable {prog : Program} {w : World} {A : Around} {E : Value → Shared → Prop} {s : Shared}
theorem enumT_end {e it t : Addr} {i : Nat} {items : Array Value} {old : Value} {Q : Option Value → Shared → Prop} (hh : A.handled = none)
    (he : IsEnum s.heap e it i old) (hit : s.heap.IsTupleIter it t i) (ht : s.heap.IsTuple t items) (hx : items[i]? = none)
    (hQ : ∀ h', Heap.ExtBut it s.heap h' → Q none { s with heap := h' }) : wpAny (model prog w) A (pyNext (.ref e)) Q E s := by
  have ty : s.TypeIs (.ref e) "enumerate" := ⟨_, he, rfl⟩
  unfold pyNext
  refine wpAny_bind (wpAny_attempt (wpAny_callSpecial?_slot (name := Str.ofString "__next__") ty F.slot_enumerate_next
    (wpAny_call_entry F.slot_enumerate_next ty F.entry_enumerate_next ?_ (F.args_enumerate_next_1 _))))
  show wpAny _ _ (field (.ref e) 2 >>= _) _ _ _
  refine wpAny_bind (wpAny_field he rfl (x := .ref it) rfl ?_)
  refine wpAny_bind (wpAny_nextOf_tuple_end hh hit ht hx fun h' x k1 k2 => ?_)
  obtain ⟨o, ho, hc⟩ := k2
  refine wpAny_bind (wpAny_isInstance (T := "StopIteration") (b := true) ⟨o, ho, hc⟩ isSubtype_stop ?_)
  exact wpAny_pure (hQ _ k1)
end
/-- the tuple at a, each item in a new pair -/
def IteT (K : PySem.W.Frag) (a : Addr) : It :=
  ⟨fun i H => ∃ (xs : List V) (x : V), SqT K H a xs ∧ xs[i]? = some x, fun i H v H' => ∃ T x, v = .ref T ∧ H T = none ∧ H' = upd H T (.tup [.int (i : Nat), x]) ∧ ∀ xs, SqT K H a xs → xs[i]? = some x, fun i H => ∃ xs : List V, SqT K H a xs ∧ xs.length ≤ i⟩
theorem turn_enumT {P : Program} {w : World} {K : PySem.W.Frag} {elts : List Expr} {kk : Nat} {tpos : Pos} (a e it : Addr) :
    Turn P w K (.Tuple elts kk tpos) (IteT K a) [e, it] e (fun i h => (∃ old, IsEnum h e it ((i : Nat) : Int) old) ∧ h.IsTupleIter it a i ∧ e ≠ it ∧ a ≠ it ∧ e ≠ a) where
  mem := by simp
  obj := fun i h st b hb => by
    obtain ⟨⟨old, he⟩, ⟨o, ho, hc, hd⟩, _⟩ := st
    have e' : b = e ∨ b = it := by simpa using hb
    rcases e' with z | z
    · rw [z]; exact ⟨_, he, fun v q => nomatch q⟩
    · rw [z]; exact ⟨o, ho, fun v q => by rw [hd] at q; cases q⟩
  keep := fun i h h' st k => let ⟨⟨old, he⟩, hi, hne⟩ := st; ⟨⟨old, k e (by simp) _ he⟩, hi.at fun o q => k it (by simp) o q, hne⟩
  item := by
    intro X hP hw hK hc i pins s σ H E I hf st hg
    subst hP hw hK
    obtain ⟨⟨old, he⟩, hit, hne, hai, hea⟩ := st
    obtain ⟨xs, x, hq, hx⟩ := hg
    obtain ⟨its, rv, p, hz⟩ := I.tuple hq
    obtain ⟨u, hu, ru⟩ := rv.get hx
    have el : e < s.heap.objs.size := Heap.lt_size he
    have il : it < s.heap.objs.size := by obtain ⟨_, q, _⟩ := hit; exact Heap.lt_size q
    have hlt : i < its.toArray.size := by
      have := (List.getElem?_eq_some_iff.mp hu).1
      simpa using this
    refine wpAny_pyNext_enum_itemD (Draws.tuple (A := X.A.in1) (I.ok.hd hc) it a hai its.toArray) he ⟨hit, p⟩ hlt hne (by simp [hne, hea]) fun x' h' tk hx' ho hit' hT hsz hk => ?_
    have ex : x' = u := by
      have q1 : its[i]? = some x' := by simpa using hx'
      rw [hu] at q1
      exact (Option.some.inj q1).symm
    subst ex
    refine ⟨_, rfl, wpAny_letOwnedTupleGo_enum (s := { s with heap := h', toks := tk + 1 }) ho fun h'' he' sb => ?_⟩
    have hT2 : h''.get? s.heap.objs.size = some { cls := .type "tuple", data := .seq #[.int i tk, x'] } := (sb.2 _ (Nat.ne_of_gt el)).trans hT
    have new : ObjOk X.prog X.w (upd H s.heap.objs.size (.tup [.int (i : Nat), x])) h'' s.heap.objs.size (.tup [.int (i : Nat), x]) :=
      ⟨by show 2 ≤ sizeLine; decide, [.int i tk, x'], .cons ⟨_, rfl⟩ (.cons ru .nil), ⟨_, hT2, rfl, _, rfl⟩⟩
    have I1 : Inv X pins σ (upd H s.heap.objs.size (.tup [.int (i : Nat), x])) { s with heap := h'', toks := tk + 1 } :=
      I.turnedNew (ch := [e, it]) (fun b ob hb q => (sb.2 b (fun z => hb (by simp [z]))).trans (hk b ob (fun z => hb (by simp [z])) (fun z => hb (by simp [z])) q)) hf (Nat.le_refl _) new
    refine ⟨.ref s.heap.objs.size, _, I1, rfl, ⟨_, x, rfl, I.hok.fresh (Nat.le_refl _), rfl, fun ys hy => by rw [I.tuple_inj hy hq]; exact hx⟩, ⟨⟨x', ?_⟩, hit'.1.at fun o q => (sb.2 it (Ne.symm hne)).trans q, hne, hai, hea⟩, fun b hb => ?_⟩
    · have e1 : ((i + 1 : Nat) : Int) = (i : Int) + 1 := by omega
      rw [e1]; exact he'
    · have hb' : b < s.heap.objs.size := by
        have e' : b = e ∨ b = it := by simpa using hb
        rcases e' with z | z
        · rw [z]; exact el
        · rw [z]; exact il
      rw [upd_ne (Nat.ne_of_lt hb')]
      exact (hf b hb).1
  done := by
    intro X hP hw hK hc i pins s σ H E I hf st hg
    subst hP hw hK
    obtain ⟨⟨old, he⟩, hit, hne, hai, hea⟩ := st
    obtain ⟨xs, hq, hx⟩ := hg
    obtain ⟨its, rv, p, hz⟩ := I.tuple hq
    obtain ⟨f0, f1, f2, f3, f4, f5⟩ := hf it (by simp)
    have hl := rv.length
    exact enumT_end (I.ok.hd hc) he hit p (by simp; omega) fun h' eb => ⟨rfl, I.turned (t' := s.toks) (fun b o hb q => eb b o hb q) f0 f1 f3 f4 f5⟩
  self := fun A i s Q E st h => let ⟨⟨_, he⟩, _⟩ := st; wpAny_pyIter_enum he h
def iEnumT (K : PySem.W.Frag) (ta : TA) : TI := fun σ H R => ta σ H fun vs H1 => ∃ a xs, vs = [.ref a] ∧ SqT K H1 a xs ∧ R (IteT K a) H1
theorem pi_enumT {X : Cx} {e : Expr} {ta : TA} {p pos tpos : Pos} {elts : List Expr} {kk : Nat} (hg : Gl X "enumerate") (hm : X.mg "enumerate" = none) (ha : PA X [e] ta) (hs : starEach [e] X.env = [(false, eval e X.env)] := by rfl) :
    PI X (.Tuple elts kk tpos) (.Call (.Name "enumerate" p) [e] [] pos) (iEnumT X.K ta) := by
  refine ⟨fun pins s σ H R I h => ?_⟩
  refine Call_ (ld_blt I hg hm boot_enumerate (PyProof.Rows.callWith_type1 (thn (ha.run pos pins s σ H _ I h) fun us s1 ⟨vs, H1, I1, r1, q1⟩ => ?_) hs rfl))
  obtain ⟨a, xs, ex, hq, q⟩ := q1
  subst ex
  cases r1 with
  | cons r rr =>
    cases rr
    cases r
    obtain ⟨its, rv, p', hz⟩ := I1.tuple hq
    have al : a < s1.heap.objs.size := p'.lt
    refine call_enumT (show s1.heap.IsTuple a its.toArray from p') fun h' he hit hsz hk => wpAny_pyIter_enum he ?_
    have I2 : Inv X pins σ H1 { s1 with heap := h' } := I1.kept (t' := s1.toks) hk
    refine ⟨s1.heap.objs.size + 1, [s1.heap.objs.size + 1, s1.heap.objs.size], _, _, H1, rfl, I2, turn_enumT a (s1.heap.objs.size + 1) s1.heap.objs.size, ⟨⟨.none, he⟩, hit, Nat.succ_ne_self _, Nat.ne_of_lt al, Nat.ne_of_gt (Nat.lt_succ_of_lt al)⟩, fun b hb => ?_, q⟩
    have e' : b = s1.heap.objs.size + 1 ∨ b = s1.heap.objs.size := by simpa using hb
    have hle : s1.heap.objs.size ≤ b := by
      rcases e' with z | z
      · rw [z]; exact Nat.le_add_right _ _
      · rw [z]; exact Nat.le_refl _
    exact I1.fpOk hle (I1.hok.fresh hle)
theorem walk_enumT {K : PySem.W.Frag} {a : Addr} {xs : List V} : Walk (IteT K a) xs.length (fun H => SqT K H a xs) (YPair (fun i => some (.int (i : Nat))) (fun i => xs[i]?)) := by
  refine ⟨fun i _ hi q => ⟨xs, xs[i], q, by simp [hi]⟩, fun _ q => ⟨xs, q, Nat.le_refl _⟩, fun i H v H' _ q y => ?_⟩
  obtain ⟨T, x, h1, h2, h3, h4⟩ := y
  exact ⟨T, .int (i : Nat), x, h1, h2, h3, rfl, h4 xs q⟩
section
variable {K : PySem.W.Frag} {σ : L2.St} {H : Hp} {ta : TE} {v : V} {α : Type} {ea : α → PyData} {as : List α}
theorem wk_enumT {a : Addr} {xs : List V} (hs : SqT K H a xs) (hd : DpAll K H xs (as.map ea)) : Walk (IteT K a) as.zipIdx.length (Ex H) (YD K (fun p : α × Nat => .tuple [.int p.2, ea p.1]) as.zipIdx) := by
  have hl : xs.length = as.length := by rw [dps_len hd, List.length_map]
  have hl2 : as.zipIdx.length = xs.length := by rw [List.length_zipIdx, hl]
  rw [hl2]
  refine walk_enumT.mono (fun H' e => ex_t e hs) fun i Ha x Hb hi e y => ?_
  obtain ⟨T, x1, x2, rfl, hT, rfl, h1, h2⟩ := y
  obtain ⟨c2, k3, k4⟩ := dps_mem (hd.up e) h2
  have e1 : V.int ((i : Nat) : Int) = x1 := Option.some.inj h1
  subst e1
  exact ⟨Ex.new hT, (c2, i), by rw [List.getElem?_zipIdx, k3]; simp, .tup (st_of upd_same) (.cons (.int _) (.cons (k4.up (Ex.new hT)) .nil))⟩
theorem ei_enumT0 (hv : Ev ta σ H v) (hd : Dp K H v (.tuple (as.map ea))) : EvIt0 K (iEnumT K (tCons ta tNil)) σ H (fun p : α × Nat => .tuple [.int p.2, ea p.1]) as.zipIdx := fun H1 a R q => hv H1 a _ fun H2 e2 => by
  obtain ⟨p, xs, rfl, hs, hx⟩ := dp_tup hd
  exact ⟨p, xs, rfl, ex_t (a.trans e2) hs, q _ H2 e2 (wk_enumT hs hx)⟩
end

/-! ### sorted of a tuple of texts -/
section
variable {prog : Program} {w : World} {A : Around} {E : Value → Shared → Prop} {s : Shared}
theorem collect_tupT {l : Addr} {vs : List Value} {Q : List Value → Shared → Prop} (hl : s.heap.IsTuple l vs.toArray)
    (h : Q vs { s with heap := (s.heap.push (seqObj "list" #[] 0)).update s.heap.objs.size (Obj.mapSeq (· ++ vs.toArray)) }) (hz : vs.length ≤ sizeLine) :
    wpAny (model prog w) A (collect (.ref l)) Q E s := by
  obtain ⟨o, ho, hc, n, hd⟩ := id hl
  unfold collect
  refine wpAny_bind (wpAny_runValue (codeAny_builtin entry_proto_collect' ?_))
  show wpAny _ _ (do again (.builtin "list.__iadd__" ⟨[← newList [], .ref l], []⟩)) _ _ s
  refine wpAny_bind (wpAny_newList (wpAny_pure ⟨Code.quiet_builtin _ (by decide +kernel), codeAny_builtin entry_list_iadd' ?_⟩))
  show wpAny _ _ (Builtin.List.listExtendWith (.ref s.heap.objs.size) (.ref l) (.ref s.heap.objs.size)) _ _ { s with heap := s.heap.push (seqObj "list" #[] 0) }
  unfold Builtin.List.listExtendWith
  have ho' : (s.heap.push (seqObj "list" #[] 0)).get? l = some o := Heap.get?_push_of_some _ ho
  refine wpAny_bind (wpAny_typeOf (T := "tuple") ⟨o, ho', hc⟩ ?_)
  have ht : (Value.type "tuple" == Value.type "tuple") = true := by rfl
  rw [if_pos (by rw [ht]; simp)]
  refine wpAny_bind (listItems_at ho' hd ?_)
  refine wpAny_bind (listItems_at (xs := #[]) (n := 0) (Heap.get?_push_size _ rfl) rfl ?_)
  rw [if_neg (by simp)]
  refine wpAny_bind (listUpdate_at (xs := #[]) (n := 0) (Heap.get?_push_size _ rfl) rfl ?_ (Nat.zero_le _) (by show (#[] ++ vs.toArray).size ≤ sizeLine + 1; simp only [Array.size_append, List.size_toArray, List.length_nil]; omega))
  refine wpAny_pure ?_
  show wpAny (model prog w) A (do
      let o ← load s.heap.objs.size
      match o.data with
      | .seq xs _ => pure xs.toList
      | _ => unsupported "internal:collect") Q E { s with heap := (s.heap.push (seqObj "list" #[] 0)).update s.heap.objs.size (Obj.mapSeq (· ++ vs.toArray)) }
  refine wpAny_bind (wpAny_load (get?_update_seq (Heap.get?_push_size _ rfl) _) ?_)
  show wpAny _ _ (pure ((#[] : Array Value) ++ vs.toArray).toList) Q E _
  rw [show ((#[] : Array Value) ++ vs.toArray).toList = vs by simp]
  exact wpAny_pure h
theorem sortedT_strs {l : Addr} {vs : List Value} {ss : List Str} {Q : Value → Shared → Prop} (hl : s.heap.IsTuple l vs.toArray) (hS : StrsAre vs ss) (h64 : vs.length < 64)
    (h : ∀ (out : Array Value) (ss' : List Str), StrsAre out.toList ss' → ss'.Perm ss → sortedS ss' = true → Q (.ref (s.heap.objs.size + 1)) { s with heap := sortedAll s.heap vs out }) :
    wpAny (model prog w) A (call (.builtin "sorted") [.ref l]) Q E s := by
  refine Calls.call_function_entry kind_sorted plain_sorted entry_sorted (args_sorted1 _) ?_
  unfold Builtin.«sorted»
  refine wpAny_bind (m := checkCount "sorted" 1 1 _) (wpAny_pure ?_)
  refine wpAny_bind (collect_tupT hl ?_ (by rw [sizeLine_eq]; omega))
  refine wpAny_bind (wpAny_newList ?_)
  have z1 : ((s.heap.push (seqObj "list" #[] 0)).update s.heap.objs.size (Obj.mapSeq (· ++ vs.toArray))).objs.size = s.heap.objs.size + 1 := by
    rw [Heap.size_update, size_push']
  have z2 : (((s.heap.push (seqObj "list" #[] 0)).update s.heap.objs.size (Obj.mapSeq (· ++ vs.toArray))).push (seqObj "list" vs.toArray 0)).get? (s.heap.objs.size + 1) = some (seqObj "list" vs.toArray 0) := by
    rw [← z1]
    exact Heap.get?_push_size _ rfl
  show wpAny _ _ _ _ _ { s with heap := ((s.heap.push (seqObj "list" #[] 0)).update s.heap.objs.size (Obj.mapSeq (· ++ vs.toArray))).push (seqObj "list" vs.toArray 0) }
  rw [z1]
  refine wpAny_bind (wpAny_holding (wpAny_call_entry slot_list_sort ⟨_, z2, rfl⟩ entry_list_sort (list_sort_treeK strKind_oneLt z2 hS.keysOf (fun v₁ v₂ rest e => keyKind_strs (by rw [← e]; exact hS)) h64 fun st' a1 a2 => ⟨_, rfl, ?_⟩) (args_list_sort _)))
  obtain ⟨ss', h1, h2, h3⟩ := sorted_out_str hS a1 a2
  exact wpAny_pure ⟨_, rfl, h _ ss' h1 h2 h3⟩
end
def rSortedT (K : PySem.W.Frag) : List V → Hp → VK → Prop := fun vs H Q => ∃ (v : V) (xs : List Str), vs = [v] ∧ Dp K H v (.tuple (xs.map .str)) ∧ xs.length < 64 ∧
  ∀ (ys : List Str) (p : Addr), ys.Perm xs → sortedS ys = true → H p = none → Q (.ref p) (upd H p (.lst (ys.map V.str)))
theorem cr_sortedT {X : Cx} : CallR X (.builtin "sorted") (rSortedT X.K) := by
  intro pins s σ H vs us Q I r h
  obtain ⟨v, xs, rfl, hd, h64, q⟩ := h
  obtain ⟨a, ws, rfl, hs, hx⟩ := dp_tup hd
  have ew := of_strs hx
  subst ew
  obtain ⟨its, rv, hl, _⟩ := I.tuple hs
  rw [Vals.ref1 r]
  have hlen0 := rv.length
  rw [List.length_map] at hlen0
  refine sortedT_strs (show s.heap.IsTuple a its.toArray from hl) rv.strs (by rw [← hlen0]; exact h64) fun out ys h1 h2 h3 => ?_
  obtain ⟨ep, he'⟩ := PyProof.Rows.sortedAll_at s.heap its out
  have hlen : (ys.map V.str).length ≤ sizeLine := by rw [List.length_map, h2.length_eq]; exact small64 h64
  exact ⟨.ref _, upd H (s.heap.objs.size + 1) (.lst (ys.map V.str)), I.laid (t' := s.toks) (fun _ _ => PyProof.Rows.sortedAll_old) (Nat.le_succ _) ⟨hlen, out.toList, ep, vals_of_strs h1, he'⟩, rfl, q ys _ h2 h3 (I.hok.fresh (Nat.le_succ _))⟩
end Ef
/-! ==== EfRules3 -/
set_option Elab.async false
set_option linter.all false
set_option maxRecDepth 100000
set_option maxHeartbeats 4000000
/-! tuple(list) gives a tuple without a dict of its own; its methods. -/
namespace Ef
open PySem PySem.Spec PyProof.Rows L2 Evl
/-- a locked object without a dict -/
def NoDk (H : Hp) (v : V) : Prop := ∃ (a : Addr) (o : Obj) (u : HO), v = .ref a ∧ H a = some (.frz o u) ∧ o.dict = none
theorem NoDk.up {H H' : Hp} {v : V} (h : NoDk H v) (e : Ex H H') : NoDk H' v := by
  obtain ⟨a, o, u, h1, h2, h3⟩ := h
  exact ⟨a, o, u, h1, e _ _ h2, h3⟩
def rTupOf2 (K : PySem.W.Frag) : List V → Hp → VK → Prop := fun xs H Q => ∃ p ys, xs = [.ref p] ∧ ((SqL K H p ys ∧ ∀ l o, H l = none → o.dict = none → Q (.ref l) (upd H l (.frz o (.tup ys)))) ∨ (SqT K H p ys ∧ Q (.ref p) H))
theorem call_tupleF {X : Cx} : CallR X (.type "tuple") (rTupOf2 X.K) := by
  intro pins s σ H xs us Q I r h
  obtain ⟨p, ys, rfl, h⟩ := h
  obtain ⟨u, rfl, rx⟩ := vals1 r
  cases rx
  rcases h with ⟨hq, q⟩ | ⟨hq, q⟩
  · obtain ⟨its, r', pl, hz⟩ := I.list hq
    have hlen := r'.length
    refine call_tuple_list pl.isList (fun h' kp => ?_) (by simp only [List.size_toArray] <;> omega)
    have I1 : Inv X pins σ H { s with heap := h' } := I.kept (t' := s.toks) kp
    have I2 : Inv X pins σ (upd H h'.objs.size (.frz { cls := .type "tuple", data := .seq its.toArray } (.tup ys))) { s with heap := h'.push { cls := .type "tuple", data := .seq its.toArray } } :=
      I1.laid (t' := s.toks) (fun b o e => Heap.get?_push_of_some _ e) (Nat.le_refl _) (show ObjOk X.prog X.w _ _ _ (.frz _ (.tup ys)) from ⟨Heap.get?_push_size _ rfl, hz, its, r', IsTup.new _ _⟩)
    exact ⟨.ref h'.objs.size, _, I2, rfl, q _ _ (I1.hok.fresh (Nat.le_refl _)) rfl⟩
  · obtain ⟨its, r', pl, hz⟩ := I.tuple hq
    exact call_tuple_same pl ⟨.ref p, H, I, rfl, q⟩
/-- a method of a tuple without a dict -/
def tBT (K : PySem.W.Frag) (r : V → List V → Hp → VK → Prop) (to : TE) (t : TA) : TE := fun σ H Q => to σ H fun x H1 => NoDk H1 x ∧ (∃ a xs, x = .ref a ∧ SqT K H1 a xs) ∧ t σ H1 fun xs H2 => r x xs H2 Q
theorem pe_bt {X : Cx} {o e : Expr} {es : List Expr} {to : TE} {t : TA} {name : Str} {apos cpos : Pos} {id : String} {r : V → List V → Hp → VK → Prop} (slot : Slot "tuple" name id) (hty : typeOf (.builtin id) = pure (.type "method_descriptor")) (hm : MtR X id r) (ho : PE X o to) (ha : PA X (e :: es) t)
    (hbase : attributeBase o name X.env (eval o X.env) = eval o X.env := by rfl)
    (hfew : ((backTo cpos (starEach (e :: es) X.env)).all (fun x => !x.1) && (backToKw cpos (keywordEach [] X.env)).all (fun x => x.1.isSome)
      && decide ((e :: es).length + ([] : List Keyword).length + (if ([] : List Keyword).isEmpty then 0 else 1) < 30)) = true := by rfl)
    (hline : (apos.endLine == cpos.line) = true := by rfl) (hs : starEach (e :: es) X.env = (false, eval e X.env) :: starEach es X.env := by rfl) (hplain : (backTo cpos (starEach es X.env)).any (·.1) = false := by rfl) :
    PE X (.Call (.Attribute o name apos) (e :: es) [] cpos) (tBT X.K r to t) := by
  refine ⟨fun pins s σ H Q I h => ?_⟩
  refine wpAny_Call_method_late hbase hfew hline rfl (thn (ho.run pins s σ H _ I h) fun v s1 ⟨x, H1, I1, r1, nd, tp, q1⟩ => ?_)
  obtain ⟨a, ob, u, rfl, hk, hd⟩ := nd
  obtain ⟨a', xs, e', hq⟩ := tp
  cases e'
  cases r1
  obtain ⟨its, _, pl, _⟩ := I1.tuple hq
  have hob : s1.heap.get? a = some ob := (I1.hok _ _ hk).1
  refine ⟨"tuple", id, PySem.F.plainAttrs_tuple, slot, hty, (show s1.TypeIs (.ref a) "tuple" from let ⟨o, ho, hc, _⟩ := pl; ⟨o, ho, hc⟩), fun b e => ?_, ?_⟩
  · cases e
    exact ⟨ob, hob, hd⟩
  have hA := ha.run cpos pins s1 σ H1 _ I1 q1
  rw [hs] at hA ⊢
  refine Calls.callWith_builtin (by show (false || (backTo cpos (starEach es X.env)).any (·.1)) = false; rw [hplain] <;> rfl) (Calls.evalArgs_plain ?_)
  exact thn hA fun us s2 ⟨vs, H2, I2, r2, q2⟩ => hm pins s2 σ H2 (.ref a) vs (.ref a) us Q I2 rfl r2 q2
section
variable {K : PySem.W.Frag} {σ : L2.St} {H : Hp} {ta : TE} {ds : List PyData}
theorem st_frz {K : PySem.W.Frag} {H : Hp} {a : Addr} {o : Obj} {xs : List V} (h : H a = some (.frz o (.tup xs))) : SqT K H a xs := .inl (.inr ⟨o, h⟩)
/-- tuple(list) -/
theorem ep_tupL (ha : EvD K ta σ H (.list ds)) : EvP (tCB (rTupOf2 K) (tCons ta tNil)) σ H (fun v H' => Dp K H' v (.tuple ds) ∧ NoDk H' v) := fun H1 a Q q => ha H1 a _ fun v H2 e2 hv => by
  obtain ⟨p, xs, rfl, hs, hx⟩ := dp_lst hv
  exact ⟨p, xs, rfl, .inl ⟨hs, fun l o hl hd => q _ _ (e2.trans (Ex.new hl)) ⟨.tup (st_frz upd_same) (hx.up (Ex.new hl)), l, o, _, rfl, upd_same, hd⟩⟩⟩
theorem ed_tup2 (ha : EvD K ta σ H (.list ds)) : EvD K (tCB (rTupOf2 K) (tCons ta tNil)) σ H (.tuple ds) := fun H1 a Q q => ep_tupL ha H1 a Q fun v H2 e h => q v H2 e h.1
theorem ed_tup2T (ha : EvD K ta σ H (.tuple ds)) : EvD K (tCB (rTupOf2 K) (tCons ta tNil)) σ H (.tuple ds) := fun H1 a Q q => ha H1 a _ fun v H2 e2 hv => by
  obtain ⟨p, xs, rfl, hs, hx⟩ := dp_tup hv
  exact ⟨p, xs, rfl, .inr ⟨hs, q _ _ e2 (.tup hs hx)⟩⟩
end
end Ef
/-! ==== EfMath -/
set_option Elab.async false
set_option linter.all false
/-! The mathematics: lands, weathers, fires, walks; no program in sight. -/
namespace Ef
open PySem

structure Link where
  name : Str
  one : Str
  other : Str
  times : List (Option (Int × Int))
structure Parts where
  winds : List Str
  places : List Str
  links : List Link
  paths : List (Str × Str × Int)
abbrev Wea := List (Int × Str)
abbrev Rws := List (Str × Int)

/-! ### as data -/
def pairO : Option (Int × Int) → PyData
  | none => .none
  | some p => .tuple [.int p.1, .int p.2]
def numO : Option Int → PyData
  | none => .none
  | some i => .int i
def linkD (l : Link) : PyData := .tuple [.str l.name, .str l.one, .str l.other, .tuple (l.times.map pairO)]
def pathD (p : Str × Str × Int) : PyData := .tuple [.str p.1, .str p.2.1, .int p.2.2]
def rowD (p : Str × Int) : PyData := .tuple [.str p.1, .int p.2]
def wrowD (p : Int × Str) : PyData := .tuple [.int p.1, .str p.2]
def partsL (P : Parts) : List PyData := [.tuple (P.winds.map .str), .tuple (P.places.map .str), .tuple (P.links.map linkD), .tuple (P.paths.map pathD)]
def partsD (P : Parts) : PyData := .list (partsL P)

/-! ### finite maps as lists -/
section
variable {β : Type}
def lk (l : List (Str × β)) (p : Str) : Option β := (l.find? fun q => decide (q.1 = p)).map (·.2)
def putL (l : List (Str × β)) (p : Str) (b : β) : List (Str × β) := if (l.any fun q => decide (q.1 = p)) = true then l.map fun q => if q.1 = p then (q.1, b) else q else l ++ [(p, b)]
def dropL (l : List (Str × β)) (p : Str) : List (Str × β) := l.filter fun q => decide (q.1 ≠ p)
theorem lk_nil (p : Str) : lk ([] : List (Str × β)) p = none := rfl
theorem lk_cons (a : Str × β) (l : List (Str × β)) (p : Str) : lk (a :: l) p = if a.1 = p then some a.2 else lk l p := by
  unfold lk
  rw [List.find?_cons]
  by_cases h : a.1 = p
  · rw [decide_eq_true h, if_pos h]; rfl
  · rw [decide_eq_false h, if_neg h]
theorem lk_mem {l : List (Str × β)} {p : Str} {b : β} (h : lk l p = some b) : (p, b) ∈ l := by
  induction l with
  | nil => cases h
  | cons a l ih =>
    rw [lk_cons] at h
    by_cases e : a.1 = p
    · rw [if_pos e] at h
      cases h
      subst e
      exact List.mem_cons_self
    · rw [if_neg e] at h
      exact List.mem_cons_of_mem _ (ih h)
theorem lk_none {l : List (Str × β)} {p : Str} (h : lk l p = none) : ∀ b, (p, b) ∉ l := by
  induction l with
  | nil => intro b hb; cases hb
  | cons a l ih =>
    intro b hb
    rw [lk_cons] at h
    by_cases e : a.1 = p
    · rw [if_pos e] at h
      cases h
    · rw [if_neg e] at h
      rcases List.mem_cons.mp hb with z | z
      · exact e (by rw [← z])
      · exact ih h b z
theorem lk_of_mem {l : List (Str × β)} {p : Str} {b : β} (hn : (l.map (·.1)).Nodup) (h : (p, b) ∈ l) : lk l p = some b := by
  induction l with
  | nil => cases h
  | cons a l ih =>
    rw [lk_cons]
    rw [List.map_cons, List.nodup_cons] at hn
    rcases List.mem_cons.mp h with z | z
    · subst z
      rw [if_pos rfl]
    · have ne : ¬ a.1 = p := fun e => hn.1 (List.mem_map.mpr ⟨(p, b), z, e.symm⟩)
      rw [if_neg ne]
      exact ih hn.2 z
theorem lk_any (l : List (Str × β)) (p : Str) : (l.any fun q => decide (q.1 = p)) = (lk l p).isSome := by
  induction l with
  | nil => rfl
  | cons a l ih =>
    rw [List.any_cons, lk_cons, ih]
    by_cases e : a.1 = p
    · rw [decide_eq_true e, if_pos e]; rfl
    · rw [decide_eq_false e, if_neg e]; rfl
theorem lk_snoc (l : List (Str × β)) (p q : Str) (b : β) (h : lk l p = none) : lk (l ++ [(p, b)]) q = if q = p then some b else lk l q := by
  induction l with
  | nil =>
    rw [List.nil_append, lk_cons, lk_nil]
    by_cases e : q = p
    · rw [if_pos e, if_pos e.symm]
    · rw [if_neg e, if_neg (fun z => e z.symm)]
  | cons a l ih =>
    rw [lk_cons] at h
    by_cases e : a.1 = p
    · rw [if_pos e] at h; cases h
    · rw [if_neg e] at h
      rw [List.cons_append, lk_cons, lk_cons, ih h]
      by_cases e2 : a.1 = q
      · rw [if_pos e2, if_pos e2, if_neg]
        intro z
        exact e (e2.trans z)
      · rw [if_neg e2, if_neg e2]
theorem lk_set (l : List (Str × β)) (p q : Str) (b : β) : lk (l.map fun q => if q.1 = p then (q.1, b) else q) q = if q = p then (lk l p).map fun _ => b else lk l q := by
  induction l with
  | nil =>
    rw [List.map_nil]
    show none = if q = p then Option.map (fun _ => b) none else none
    split <;> rfl
  | cons a l ih =>
    rw [List.map_cons, lk_cons, ih]
    by_cases e : a.1 = p
    · rw [if_pos e]
      show (if a.1 = q then some b else _) = _
      by_cases e2 : q = p
      · rw [if_pos (e.trans e2.symm), if_pos e2, lk_cons, if_pos e]; rfl
      · have ne : ¬ a.1 = q := fun z => e2 (z.symm.trans e)
        rw [if_neg e2, if_neg ne, if_neg e2, lk_cons, if_neg ne]
    · rw [if_neg e]
      by_cases e2 : a.1 = q
      · have nq : ¬ q = p := fun z => e (e2.trans z)
        rw [if_pos e2, if_neg nq, lk_cons, if_pos e2]
      · rw [if_neg e2]
        by_cases e3 : q = p
        · rw [if_pos e3, if_pos e3, lk_cons, if_neg e]
        · rw [if_neg e3, if_neg e3, lk_cons, if_neg e2]
theorem lk_put (l : List (Str × β)) (p q : Str) (b : β) : lk (putL l p b) q = if q = p then some b else lk l q := by
  unfold putL
  rw [lk_any]
  cases e : lk l p with
  | none =>
    rw [if_neg (by simp)]
    exact lk_snoc l p q b e
  | some c =>
    rw [if_pos (by simp), lk_set, e]
    rfl
theorem lk_drop (l : List (Str × β)) (p q : Str) : lk (dropL l p) q = if q = p then none else lk l q := by
  induction l with
  | nil =>
    show lk [] q = _
    rw [lk_nil]
    split <;> rfl
  | cons a l ih =>
    by_cases e : a.1 = p
    · have e1 : dropL (a :: l) p = dropL l p := by
        unfold dropL
        rw [List.filter_cons, if_neg (by simp [e])]
      rw [e1, ih, lk_cons]
      by_cases e2 : q = p
      · rw [if_pos e2, if_pos e2]
      · rw [if_neg e2, if_neg e2, if_neg (fun z => e2 (z.symm.trans e))]
    · have e1 : dropL (a :: l) p = a :: dropL l p := by
        unfold dropL
        rw [List.filter_cons, if_pos (by simp [e])]
      rw [e1, lk_cons, lk_cons, ih]
      by_cases e2 : a.1 = q
      · rw [if_pos e2, if_pos e2, if_neg (fun z => e (e2.trans z))]
      · rw [if_neg e2, if_neg e2]
theorem nd_put {l : List (Str × β)} (hn : (l.map (·.1)).Nodup) (p : Str) (b : β) : ((putL l p b).map (·.1)).Nodup := by
  unfold putL
  rw [lk_any]
  cases e : lk l p with
  | none =>
    rw [if_neg (by simp), List.map_append]
    refine List.nodup_append.mpr ⟨hn, by simp, ?_⟩
    intro x hx y hy z
    subst z
    have ey : x = p := by simpa using hy
    subst ey
    obtain ⟨q, hq, eq⟩ := List.mem_map.mp hx
    exact lk_none e q.2 (by rw [← eq]; exact hq)
  | some c =>
    rw [if_pos (by simp)]
    have e1 : (l.map fun q => if q.1 = p then (q.1, b) else q).map (·.1) = l.map (·.1) := by
      rw [List.map_map]
      refine List.map_congr_left fun q _ => ?_
      show (if q.1 = p then (q.1, b) else q).1 = q.1
      split <;> rfl
    rw [e1]
    exact hn
theorem nd_drop {l : List (Str × β)} (hn : (l.map (·.1)).Nodup) (p : Str) : ((dropL l p).map (·.1)).Nodup := (List.filter_sublist.map _).nodup hn
theorem len_put (l : List (Str × β)) (p : Str) (b : β) : (putL l p b).length ≤ l.length + 1 := by
  unfold putL
  split
  · rw [List.length_map]; exact Nat.le_succ _
  · rw [List.length_append]; exact Nat.le_refl _
theorem len_drop (l : List (Str × β)) (p : Str) : (dropL l p).length ≤ l.length := List.length_filter_le _ _
end
/-! ### winds -/
/-- the wind at a minute: that of the last row not behind it -/
def windM (W : Wea) (t : Int) (d : Str) : Str := W.foldl (fun w r => if r.1 ≤ t then r.2 else w) d
def wind0 (W : Wea) (t : Int) : Str := windM W t (W.head?.elim ⟨#[]⟩ (·.2))
def chancesM (W : Wea) (t : Int) : List Int := t :: (W.filter fun r => decide (t < r.1)).map (·.1)
def Asc : Wea → Prop
  | [] => True
  | r :: W => (∀ q ∈ W, r.1 < q.1) ∧ Asc W
theorem windM_cons (r : Int × Str) (W : Wea) (t : Int) (d : Str) : windM (r :: W) t d = windM W t (if r.1 ≤ t then r.2 else d) := rfl
theorem windM_late {W : Wea} {t : Int} (h : ∀ q ∈ W, t < q.1) (d : Str) : windM W t d = d := by
  induction W generalizing d with
  | nil => rfl
  | cons r W ih =>
    rw [windM_cons, if_neg (by have := h r List.mem_cons_self; omega)]
    exact ih (fun q hq => h q (List.mem_cons_of_mem _ hq)) d
theorem wind_chance {W : Wea} (ha : Asc W) {m1 m : Int} (h : m1 ≤ m) (d : Str) : ∃ s1 ∈ chancesM W m1, s1 ≤ m ∧ windM W s1 d = windM W m d := by
  induction W generalizing m1 d with
  | nil => exact ⟨m1, List.mem_cons_self, h, rfl⟩
  | cons r W ih =>
    obtain ⟨h1, h2⟩ := ha
    by_cases c1 : r.1 ≤ m1
    · obtain ⟨s1, k1, k2, k3⟩ := ih h2 (m1 := m1) h r.2
      refine ⟨s1, ?_, k2, ?_⟩
      · have e : chancesM (r :: W) m1 = chancesM W m1 := by
          unfold chancesM
          rw [List.filter_cons, if_neg (by simp; omega)]
        rw [e]
        exact k1
      · have hs : m1 ≤ s1 := by
          rcases List.mem_cons.mp k1 with z | z
          · omega
          · obtain ⟨q, hq, e⟩ := List.mem_map.mp z
            have := of_decide_eq_true (List.mem_filter.mp hq).2
            omega
        rw [windM_cons, windM_cons, if_pos (by omega), if_pos (by omega)]
        exact k3
    · by_cases c2 : r.1 ≤ m
      · obtain ⟨s1, k1, k2, k3⟩ := ih h2 (m1 := r.1) c2 r.2
        have hs : r.1 ≤ s1 := by
          rcases List.mem_cons.mp k1 with z | z
          · omega
          · obtain ⟨q, hq, e⟩ := List.mem_map.mp z
            have := of_decide_eq_true (List.mem_filter.mp hq).2
            omega
        refine ⟨s1, ?_, k2, ?_⟩
        · unfold chancesM
          rw [List.filter_cons, if_pos (by simp; omega), List.map_cons]
          rcases List.mem_cons.mp k1 with z | z
          · rw [z]
            exact List.mem_cons_of_mem _ List.mem_cons_self
          · obtain ⟨q, hq, e⟩ := List.mem_map.mp z
            obtain ⟨q1, q2⟩ := List.mem_filter.mp hq
            have := of_decide_eq_true q2
            refine List.mem_cons_of_mem _ (List.mem_cons_of_mem _ (List.mem_map.mpr ⟨q, List.mem_filter.mpr ⟨q1, decide_eq_true (by omega)⟩, e⟩))
        · rw [windM_cons, windM_cons, if_pos hs, if_pos c2]
          exact k3
      · refine ⟨m1, List.mem_cons_self, h, ?_⟩
        have l1 : ∀ q ∈ r :: W, m1 < q.1 := fun q hq => by
          rcases List.mem_cons.mp hq with z | z
          · rw [z]; omega
          · have := h1 q z; omega
        have l2 : ∀ q ∈ r :: W, m < q.1 := fun q hq => by
          rcases List.mem_cons.mp hq with z | z
          · rw [z]; omega
          · have := h1 q z; omega
        rw [windM_late l1, windM_late l2]
theorem windM_mem {W : Wea} {t : Int} {d : Str} : windM W t d = d ∨ ∃ r ∈ W, windM W t d = r.2 := by
  induction W generalizing d with
  | nil => exact .inl rfl
  | cons r W ih =>
    rw [windM_cons]
    rcases ih (d := if r.1 ≤ t then r.2 else d) with h | ⟨q, hq, e⟩
    · by_cases c : r.1 ≤ t
      · rw [if_pos c] at h ⊢
        exact .inr ⟨r, List.mem_cons_self, h⟩
      · rw [if_neg c] at h ⊢
        exact .inl h
    · exact .inr ⟨q, List.mem_cons_of_mem _ hq, e⟩
theorem chances_ge {W : Wea} {t s : Int} (h : s ∈ chancesM W t) : t ≤ s := by
  rcases List.mem_cons.mp h with z | z
  · omega
  · obtain ⟨q, hq, e⟩ := List.mem_map.mp z
    have := of_decide_eq_true (List.mem_filter.mp hq).2
    omega

/-! ### the least of some ints -/
def lmin : List Int → Option Int
  | [] => none
  | n :: ms => some (ms.foldl (fun a y => if y < a then y else a) n)
theorem foldmin (ms : List Int) (n : Int) : (ms.foldl (fun a y => if y < a then y else a) n ∈ n :: ms) ∧ ∀ y ∈ n :: ms, ms.foldl (fun a y => if y < a then y else a) n ≤ y := by
  induction ms generalizing n with
  | nil => exact ⟨List.mem_cons_self, fun y hy => by rcases List.mem_cons.mp hy with z | z; · rw [z]; exact Int.le_refl _
                                                     · cases z⟩
  | cons k ms ih =>
    rw [List.foldl_cons]
    obtain ⟨h1, h2⟩ := ih (if k < n then k else n)
    constructor
    · rcases List.mem_cons.mp h1 with z | z
      · rw [z]
        split
        · exact List.mem_cons_of_mem _ List.mem_cons_self
        · exact List.mem_cons_self
      · exact List.mem_cons_of_mem _ (List.mem_cons_of_mem _ z)
    · intro y hy
      have h3 := h2 _ List.mem_cons_self
      rcases List.mem_cons.mp hy with z | z
      · subst z
        refine Int.le_trans h3 ?_
        split <;> omega
      · rcases List.mem_cons.mp z with z | z
        · subst z
          refine Int.le_trans h3 ?_
          split <;> omega
        · exact h2 y (List.mem_cons_of_mem _ z)
theorem lmin_mem {l : List Int} {m : Int} (h : lmin l = some m) : m ∈ l := by
  cases l with
  | nil => cases h
  | cons n ms =>
    have e : ms.foldl (fun a y => if y < a then y else a) n = m := Option.some.inj h
    rw [← e]
    exact (foldmin ms n).1
theorem lmin_le {l : List Int} {m y : Int} (h : lmin l = some m) (hy : y ∈ l) : m ≤ y := by
  cases l with
  | nil => cases h
  | cons n ms =>
    have e : ms.foldl (fun a y => if y < a then y else a) n = m := Option.some.inj h
    rw [← e]
    exact (foldmin ms n).2 y hy
theorem lmin_some {l : List Int} {y : Int} (hy : y ∈ l) : ∃ m, lmin l = some m ∧ m ≤ y := by
  cases l with
  | nil => cases hy
  | cons n ms => exact ⟨_, rfl, (foldmin ms n).2 y hy⟩
theorem lmin_nil {l : List Int} (h : lmin l = none) : l = [] := by
  cases l with
  | nil => rfl
  | cons n ms => cases h

/-! ### along a link -/
/-- the number of a row in the wind of a minute -/
def numAt (winds : List Str) (W : Wea) (row : List (Option Int)) (s : Int) : Option Int := (row[winds.idxOf (wind0 W s)]?).join
def endsM (winds : List Str) (W : Wea) (row : List (Option Int)) (t : Int) : List Int := (chancesM W t).filterMap fun s => (numAt winds W row s).map (s + ·)
def caughtM (winds : List Str) (W : Wea) (row : List (Option Int)) (t : Int) : Option Int := lmin (endsM winds W row t)
theorem ends_mem {winds : List Str} {W : Wea} {row : List (Option Int)} {t e : Int} : e ∈ endsM winds W row t ↔ ∃ s ∈ chancesM W t, ∃ n, numAt winds W row s = some n ∧ e = s + n := by
  unfold endsM
  rw [List.mem_filterMap]
  constructor
  · rintro ⟨s, h1, h2⟩
    cases q : numAt winds W row s with
    | none => rw [q] at h2; cases h2
    | some n =>
      rw [q] at h2
      exact ⟨s, h1, n, q, (Option.some.inj h2).symm⟩
  · rintro ⟨s, h1, n, h2, rfl⟩
    exact ⟨s, h1, by rw [h2]; rfl⟩
/-- each number of the first is there in the second and not greater -/
def RowLe (r r' : List (Option Int)) : Prop := ∀ (i : Nat) d, (r'[i]?).join = some d → ∃ d0, (r[i]?).join = some d0 ∧ d0 ≤ d
theorem RowLe.refl (r : List (Option Int)) : RowLe r r := fun i d h => ⟨d, h, Int.le_refl _⟩
theorem caught_mono {winds : List Str} {W : Wea} (ha : Asc W) {r r' : List (Option Int)} (hr : RowLe r r') {m m' e : Int} (hm : m ≤ m') (h : caughtM winds W r' m' = some e) : ∃ e0, caughtM winds W r m = some e0 ∧ e0 ≤ e := by
  obtain ⟨s, h1, n, h2, he⟩ := ends_mem.mp (lmin_mem h)
  have key : ∃ s1 ∈ chancesM W m, s1 ≤ s ∧ wind0 W s1 = wind0 W s := by
    have hs : m ≤ s := Int.le_trans hm (chances_ge h1)
    exact wind_chance ha hs _
  obtain ⟨s1, k1, k2, k3⟩ := key
  obtain ⟨d0, q1, q2⟩ := hr _ n h2
  have q3 : numAt winds W r s1 = some d0 := by
    unfold numAt
    rw [k3]
    exact q1
  obtain ⟨e0, g1, g2⟩ := lmin_some (ends_mem.mpr ⟨s1, k1, d0, q3, rfl⟩)
  exact ⟨e0, g1, by omega⟩
theorem caught_gt {winds : List Str} {W : Wea} {r : List (Option Int)} (hp : ∀ (i : Nat) d, (r[i]?).join = some d → 1 ≤ d) {m e : Int} (h : caughtM winds W r m = some e) : m < e := by
  obtain ⟨s, h1, n, h2, he⟩ := ends_mem.mp (lmin_mem h)
  have := chances_ge h1
  have := hp _ n h2
  omega

/-! ### fires -/
def leastRow (l : Link) : List (Option Int) := l.times.map (Option.map (·.1))
/-- the minute is ahead of every break of the place -/
def Ahead (B : Rws) (p : Str) (m : Int) : Prop := ∀ b, (p, b) ∈ B → m < b
theorem Ahead.mono {B : Rws} {p : Str} {m m' : Int} (h : Ahead B p m') (hm : m ≤ m') : Ahead B p m := fun b hb => Int.lt_of_le_of_lt hm (h b hb)
inductive Reach (winds : List Str) (links : List Link) (W : Wea) (S B : Rws) : Str → Int → Prop
  | start {p : Str} {m : Int} : (p, m) ∈ S → Ahead B p m → Reach winds links W S B p m
  | step {l : Link} {m e : Int} : Reach winds links W S B l.one m → l ∈ links → caughtM winds W (leastRow l) m = some e → Ahead B l.other e → Reach winds links W S B l.other e
/-- the fastest fire -/
structure IsFast (winds : List Str) (links : List Link) (W : Wea) (S B : Rws) (F : Str → Option Int) : Prop where
  sound : ∀ p m, F p = some m → Reach winds links W S B p m
  least : ∀ p m, Reach winds links W S B p m → ∃ m', F p = some m' ∧ m' ≤ m
theorem fast_unique {winds : List Str} {links : List Link} {W : Wea} {S B : Rws} {F G : Str → Option Int} (hF : IsFast winds links W S B F) (hG : IsFast winds links W S B G) : F = G := by
  funext p
  cases e : F p with
  | none =>
    cases e2 : G p with
    | none => rfl
    | some m =>
      obtain ⟨m', h, _⟩ := hF.least p m (hG.sound p m e2)
      rw [e] at h
      cases h
  | some m =>
    obtain ⟨m', h, l1⟩ := hG.least p m (hF.sound p m e)
    obtain ⟨m2, h2, l2⟩ := hF.least p m' (hG.sound p m' h)
    rw [e] at h2
    cases h2
    rw [h, show m = m' by omega]
/-- the drawn links: the same ends, numbers not less -/
structure Drawn (links links' : List Link) : Prop where
  of : ∀ l' ∈ links', ∃ l ∈ links, l.one = l'.one ∧ l.other = l'.other ∧ RowLe (leastRow l) (leastRow l')
theorem fast_drawn {winds : List Str} {links links' : List Link} {W : Wea} {S B : Rws} {F : Str → Option Int} (ha : Asc W) (hF : IsFast winds links W S B F) (hd : Drawn links links') {p : Str} {m : Int}
    (h : Reach winds links' W S B p m) : ∃ m', F p = some m' ∧ m' ≤ m := by
  induction h with
  | start h1 h2 => exact hF.least _ _ (.start h1 h2)
  | @step l' m e _ hl hc hb ih =>
    obtain ⟨m1, f1, le1⟩ := ih
    obtain ⟨l, k1, k2, k3, k4⟩ := hd.of l' hl
    obtain ⟨e0, c0, le0⟩ := caught_mono ha k4 le1 hc
    have r1 := hF.sound _ _ f1
    rw [← k2] at r1
    have r2 := Reach.step r1 k1 c0 (by rw [k3]; exact hb.mono le0)
    obtain ⟨m', g1, g2⟩ := hF.least _ _ r2
    rw [k3] at g1
    exact ⟨m', g1, by omega⟩
end Ef
/-! ==== EfMath2 -/
set_option Elab.async false
set_option linter.all false
/-! The mathematics, on: names, good lands and weathers, walks, safe rows. -/
namespace Ef
open PySem
def nameCps : List Nat := ("abcdefghijklmnopqrstuvwxyz0123456789" : Str).cps.toList
def digCps : List Nat := ("0123456789" : Str).cps.toList
structure GoodName (s : Str) : Prop where
  len1 : 1 ≤ s.length
  len2 : s.length ≤ 12
  chars : ∀ c ∈ s.cps.toList, c ∈ nameCps
  first : ∃ c r, s.cps.toList = c :: r ∧ c ∉ digCps
abbrev Path := Str × Str × Int
/-- not over the same two places -/
def DiffEnds (a b : Path) : Prop := ¬ (a.1 = b.1 ∧ a.2.1 = b.2.1) ∧ ¬ (a.1 = b.2.1 ∧ a.2.1 = b.1)
structure GoodP (P : Parts) : Prop where
  w1 : 1 ≤ P.winds.length
  w2 : P.winds.length ≤ 4
  wn : ∀ s ∈ P.winds, GoodName s
  wd : P.winds.Nodup
  p1 : 1 ≤ P.places.length
  p2 : P.places.length ≤ 24
  pn : ∀ s ∈ P.places, GoodName s
  pd : P.places.Nodup
  l2 : P.links.length ≤ 60
  ln : ∀ l ∈ P.links, GoodName l.name
  ld : (P.links.map Link.name).Nodup
  le : ∀ l ∈ P.links, l.one ∈ P.places ∧ l.other ∈ P.places ∧ l.one ≠ l.other
  lt : ∀ l ∈ P.links, l.times.length = P.winds.length
  lv : ∀ l ∈ P.links, ∀ p : Int × Int, some p ∈ l.times → 1 ≤ p.1 ∧ p.1 ≤ p.2 ∧ p.2 ≤ 1000
  h2 : P.paths.length ≤ 60
  he : ∀ h ∈ P.paths, h.1 ∈ P.places ∧ h.2.1 ∈ P.places ∧ h.1 ≠ h.2.1
  hm : ∀ h ∈ P.paths, 1 ≤ h.2.2 ∧ h.2.2 ≤ 1000
  hd : P.paths.Pairwise DiffEnds
structure GoodW (P : Parts) (W : Wea) : Prop where
  asc : Asc W
  z : ∃ d W', W = (0, d) :: W'
  wn : ∀ r ∈ W, r.2 ∈ P.winds
  len : W.length ≤ 40
  top : ∀ r ∈ W, r.1 ≤ 100000
structure GoodR (P : Parts) (B : Rws) : Prop where
  kn : ∀ r ∈ B, r.1 ∈ P.places
  nn : ∀ r ∈ B, 0 ≤ r.2
  len : B.length ≤ 1000
/-- where one may go from a place -/
def walkOf (p : Str) (h : Path) : Option (Str × Int) := if p = h.1 then some (h.2.1, h.2.2) else if p = h.2.1 then some (h.1, h.2.2) else none
def walksM (paths : List Path) (p : Str) : List (Str × Int) := paths.filterMap (walkOf p)
def Free (F : Str → Option Int) (q : Str) (t : Int) : Prop := ∀ f, F q = some f → t < f
def StepOk (paths : List Path) (F : Str → Option Int) (a b : Str × Int) : Prop := ∃ d, lk (walksM paths a.1) b.1 = some d ∧ a.2 + d ≤ b.2 ∧ Free F a.1 (b.2 - d)
structure SafeRows (paths : List Path) (F : Str → Option Int) (rows : Rws) : Prop where
  ne : rows ≠ []
  last : ∀ a, rows[rows.length - 1]? = some a → F a.1 = none
  nn : ∀ a ∈ rows, 0 ≤ a.2
  fr : ∀ a ∈ rows, Free F a.1 a.2
  st : ∀ (i : Nat) a b, rows[i]? = some a → rows[i + 1]? = some b → StepOk paths F a b
inductive Arr (paths : List Path) (F : Str → Option Int) (p : Str) (m : Int) : Str → Int → Prop
  | base : Free F p m → Arr paths F p m p m
  | step {q q' : Str} {n d : Int} : Arr paths F p m q n → (q', d) ∈ walksM paths q → Free F q' (n + d) → Arr paths F p m q' (n + d)
def Esc (paths : List Path) (F : Str → Option Int) (p : Str) (m : Int) : Prop := ∃ q n, Arr paths F p m q n ∧ F q = none
/-- the least minute of each place in rows -/
structure LeastOf (B : Rws) (f : Str → Option Int) : Prop where
  mem : ∀ p m, f p = some m → (p, m) ∈ B
  le : ∀ p m, (p, m) ∈ B → ∃ m', f p = some m' ∧ m' ≤ m
theorem LeastOf.ahead {B : Rws} {f : Str → Option Int} (h : LeastOf B f) (p : Str) (m : Int) : Ahead B p m ↔ ∀ b, f p = some b → m < b := by
  constructor
  · intro a b e
    exact a b (h.mem p b e)
  · intro a b hb
    obtain ⟨m', h1, h2⟩ := h.le p b hb
    exact Int.lt_of_lt_of_le (a m' h1) h2
/-- a later fire burns less -/
theorem SafeRows.later {paths : List Path} {F G : Str → Option Int} {rows : Rws} (h : SafeRows paths F rows) (hG : ∀ p m, G p = some m → ∃ m', F p = some m' ∧ m' ≤ m) : SafeRows paths G rows := by
  have fr : ∀ p t, Free F p t → Free G p t := fun p t hf f e => by
    obtain ⟨m', h1, h2⟩ := hG p f e
    exact Int.lt_of_lt_of_le (hf m' h1) h2
  refine ⟨h.ne, fun a ha => ?_, h.nn, fun a ha => fr _ _ (h.fr a ha), fun i a b ha hb => ?_⟩
  · cases e : G a.1 with
    | none => rfl
    | some m =>
      obtain ⟨m', h1, _⟩ := hG _ _ e
      rw [h.last a ha] at h1
      cases h1
  · obtain ⟨d, h1, h2, h3⟩ := h.st i a b ha hb
    exact ⟨d, h1, h2, fr _ _ h3⟩
theorem walks_pos {P : Parts} (g : GoodP P) {p q : Str} {d : Int} (h : (q, d) ∈ walksM P.paths p) : 1 ≤ d ∧ q ∈ P.places ∧ q ≠ p := by
  obtain ⟨a, h1, h2⟩ := List.mem_filterMap.mp h
  unfold walkOf at h2
  have e := g.he a h1
  by_cases c : p = a.1
  · rw [if_pos c] at h2
    cases h2
    exact ⟨(g.hm a h1).1, e.2.1, fun z => e.2.2 (c.symm.trans z.symm)⟩
  · rw [if_neg c] at h2
    by_cases c2 : p = a.2.1
    · rw [if_pos c2] at h2
      cases h2
      exact ⟨(g.hm a h1).1, e.1, fun z => c z.symm⟩
    · rw [if_neg c2] at h2
      cases h2
/-- the walk to a place is one only -/
theorem walks_one {paths : List Path} (hd : paths.Pairwise DiffEnds) {p q : Str} {d : Int} (h : (q, d) ∈ walksM paths p) : lk (walksM paths p) q = some d := by
  induction paths with
  | nil => cases h
  | cons a r ih =>
    rw [List.pairwise_cons] at hd
    have cut : walksM (a :: r) p = (walkOf p a).toList ++ walksM r p := by
      unfold walksM
      rw [List.filterMap_cons]
      cases walkOf p a <;> rfl
    rw [cut] at h ⊢
    cases e : walkOf p a with
    | none =>
      rw [e] at h
      exact ih hd.2 h
    | some w =>
      rw [e] at h
      show lk (w :: walksM r p) q = some d
      rw [lk_cons]
      rcases List.mem_cons.mp (show (q, d) ∈ w :: walksM r p from h) with z | z
      · rw [← z, if_pos rfl]
      · rw [if_neg, ih hd.2 z]
        intro ew
        obtain ⟨b, hb, e2⟩ := List.mem_filterMap.mp z
        have d1 := hd.1 b hb
        unfold walkOf at e e2
        by_cases c1 : p = a.1
        · rw [if_pos c1] at e
          cases e
          by_cases c2 : p = b.1
          · rw [if_pos c2] at e2
            cases e2
            exact d1.1 ⟨c1.symm.trans c2, ew⟩
          · rw [if_neg c2] at e2
            by_cases c3 : p = b.2.1
            · rw [if_pos c3] at e2
              cases e2
              exact d1.2 ⟨c1.symm.trans c3, ew⟩
            · rw [if_neg c3] at e2
              cases e2
        · rw [if_neg c1] at e
          by_cases c4 : p = a.2.1
          · rw [if_pos c4] at e
            cases e
            by_cases c2 : p = b.1
            · rw [if_pos c2] at e2
              cases e2
              exact d1.2 ⟨ew, c4.symm.trans c2⟩
            · rw [if_neg c2] at e2
              by_cases c3 : p = b.2.1
              · rw [if_pos c3] at e2
                cases e2
                exact d1.1 ⟨ew, c4.symm.trans c3⟩
              · rw [if_neg c3] at e2
                cases e2
          · rw [if_neg c4] at e
            cases e
/-- who may walk safely may walk without waiting, and comes no later -/
theorem SafeRows.arr {P : Parts} (g : GoodP P) {F : Str → Option Int} {rows : Rws} (h : SafeRows P.paths F rows) {p : Str} {m : Int} (h0 : rows[0]? = some (p, m)) : ∀ (i : Nat) a, rows[i]? = some a → ∃ n, Arr P.paths F p m a.1 n ∧ n ≤ a.2
  | 0, a, ha => by
    rw [h0] at ha
    cases ha
    exact ⟨m, .base (h.fr (p, m) (List.mem_of_getElem? h0)), Int.le_refl _⟩
  | i + 1, a, ha => by
    have hi : i < rows.length := by
      obtain ⟨z, _⟩ := List.getElem?_eq_some_iff.mp ha
      omega
    have hb : rows[i]? = some rows[i] := List.getElem?_eq_getElem hi
    obtain ⟨n, h1, h2⟩ := SafeRows.arr g h h0 i _ hb
    obtain ⟨d, k1, k2, k3⟩ := h.st i _ a hb ha
    refine ⟨n + d, .step h1 (lk_mem k1) ?_, by omega⟩
    intro f hf
    have := h.fr a (List.mem_of_getElem? ha) f hf
    omega
theorem SafeRows.esc {P : Parts} (g : GoodP P) {F : Str → Option Int} {rows : Rws} (h : SafeRows P.paths F rows) {p : Str} {m : Int} (h0 : rows[0]? = some (p, m)) : Esc P.paths F p m := by
  have hl : rows.length - 1 < rows.length := by
    have : rows.length ≠ 0 := fun z => h.ne (List.eq_nil_of_length_eq_zero z)
    omega
  have e : rows[rows.length - 1]? = some rows[rows.length - 1] := List.getElem?_eq_getElem hl
  obtain ⟨n, h1, _⟩ := h.arr g h0 _ _ e
  exact ⟨_, n, h1, h.last _ e⟩

/-! ### the least first: two maps, found and waiting -/
inductive Rch (St : Str → Int → Prop) (Nx : Str → Int → Str → Int → Prop) : Str → Int → Prop
  | start {p : Str} {m : Int} : St p m → Rch St Nx p m
  | step {p q : Str} {m e : Int} : Rch St Nx p m → Nx p m q e → Rch St Nx q e
section
variable {St : Str → Int → Prop} {Nx : Str → Int → Str → Int → Prop} {Pd Pd' : Str → Int → Str → Int → Prop} {f w : Str → Option Int}
def setF (f : Str → Option Int) (p : Str) (m : Int) : Str → Option Int := fun q => if q = p then some m else f q
def delF (f : Str → Option Int) (p : Str) : Str → Option Int := fun q => if q = p then none else f q
/-- the state of the search; Pd: the steps yet to be taken; at: the minute that the search has come to -/
structure DI (St : Str → Int → Prop) (Nx Pd : Str → Int → Str → Int → Prop) (f w : Str → Option Int) (at_ : Option Int) : Prop where
  sf : ∀ p m, f p = some m → Rch St Nx p m
  sw : ∀ p m, w p = some m → Rch St Nx p m
  dj : ∀ p m, w p = some m → f p = none
  st : ∀ p m, St p m → ∃ m', (f p = some m' ∨ w p = some m') ∧ m' ≤ m
  cl : ∀ p m, f p = some m → ∀ q e, Nx p m q e → Pd p m q e ∨ ∃ m', (f q = some m' ∨ w q = some m') ∧ m' ≤ e
  fa : ∀ p m, f p = some m → ∃ a, at_ = some a ∧ m ≤ a
  wa : ∀ p m, w p = some m → ∀ a, at_ = some a → a ≤ m
theorem DI.init (h1 : ∀ p m, w p = some m → St p m) (h2 : ∀ p m, St p m → ∃ m', w p = some m' ∧ m' ≤ m) : DI St Nx (fun _ _ _ _ => False) (fun _ => none) w none :=
  ⟨fun _ _ e => (by cases e), fun p m e => .start (h1 p m e), fun _ _ _ => rfl, fun p m h => (by
    obtain ⟨m', k1, k2⟩ := h2 p m h
    exact ⟨m', .inr k1, k2⟩), fun _ _ e => (by cases e), fun _ _ e => (by cases e), fun _ _ _ _ e => (by cases e)⟩
/-- the least of the waiting is taken -/
theorem DI.pop {a : Option Int} (h : DI St Nx (fun _ _ _ _ => False) f w a) {p : Str} {m : Int} (hp : w p = some m) (hm : ∀ q n, w q = some n → m ≤ n) :
    DI St Nx (fun p' m' _ _ => p' = p ∧ m' = m) (setF f p m) (delF w p) (some m) := by
  have keep : ∀ q e m', (f q = some m' ∨ w q = some m') → m' ≤ e → ∃ m', (setF f p m q = some m' ∨ delF w p q = some m') ∧ m' ≤ e := fun q e m' o le => by
    by_cases c : q = p
    · subst c
      refine ⟨m', .inl ?_, le⟩
      show (if q = q then some m else f q) = some m'
      rw [if_pos rfl]
      rcases o with o | o
      · rw [h.dj q m hp] at o; cases o
      · rw [hp] at o; exact o
    · refine ⟨m', ?_, le⟩
      show (if q = p then some m else f q) = some m' ∨ (if q = p then none else w q) = some m'
      rw [if_neg c, if_neg c]
      exact o
  refine ⟨fun q n e => ?_, fun q n e => ?_, fun q n e => ?_, fun q n hs => ?_, fun q n e r t nx => ?_, fun q n e => ⟨m, rfl, ?_⟩, fun q n e a ea => ?_⟩
  · have e2 : (if q = p then some m else f q) = some n := e
    by_cases c : q = p
    · rw [if_pos c] at e2
      cases e2
      subst c
      exact h.sw q m hp
    · rw [if_neg c] at e2
      exact h.sf q n e2
  · have e2 : (if q = p then none else w q) = some n := e
    by_cases c : q = p
    · rw [if_pos c] at e2; cases e2
    · rw [if_neg c] at e2
      exact h.sw q n e2
  · have e2 : (if q = p then none else w q) = some n := e
    show (if q = p then some m else f q) = none
    by_cases c : q = p
    · rw [if_pos c] at e2; cases e2
    · rw [if_neg c] at e2 ⊢
      exact h.dj q n e2
  · obtain ⟨m', o, le⟩ := h.st q n hs
    exact keep q n m' o le
  · have e2 : (if q = p then some m else f q) = some n := e
    by_cases c : q = p
    · rw [if_pos c] at e2
      cases e2
      exact .inl ⟨c, rfl⟩
    · rw [if_neg c] at e2
      rcases h.cl q n e2 r t nx with z | ⟨m', o, le⟩
      · exact z.elim
      · exact .inr (keep r t m' o le)
  · have e2 : (if q = p then some m else f q) = some n := e
    by_cases c : q = p
    · rw [if_pos c] at e2
      cases e2
      exact Int.le_refl _
    · rw [if_neg c] at e2
      obtain ⟨a, ea, le⟩ := h.fa q n e2
      exact Int.le_trans le (h.wa p m hp a ea)
  · cases ea
    have e2 : (if q = p then none else w q) = some n := e
    by_cases c : q = p
    · rw [if_pos c] at e2; cases e2
    · rw [if_neg c] at e2
      exact hm q n e2
/-- fewer steps are left where those taken are there -/
theorem DI.less {a : Option Int} (h : DI St Nx Pd f w a) (hp : ∀ p m q e, f p = some m → Nx p m q e → Pd p m q e → Pd' p m q e ∨ ∃ m', (f q = some m' ∨ w q = some m') ∧ m' ≤ e) : DI St Nx Pd' f w a :=
  ⟨h.sf, h.sw, h.dj, h.st, fun p m e q t nx => by
    rcases h.cl p m e q t nx with z | z
    · exact hp p m q t e nx z
    · exact .inr z, h.fa, h.wa⟩
/-- a place not found, reached at e -/
theorem DI.relax {a : Int} (h : DI St Nx Pd f w (some a)) {p q : Str} {m e : Int} (hp : f p = some m) (nx : Nx p m q e) (hq : f q = none) (hw : ∀ n, w q = some n → e ≤ n) (ha : a ≤ e) : DI St Nx Pd f (setF w q e) (some a) := by
  have keep : ∀ r t m', (f r = some m' ∨ w r = some m') → m' ≤ t → ∃ m', (f r = some m' ∨ setF w q e r = some m') ∧ m' ≤ t := fun r t m' o le => by
    by_cases c : r = q
    · subst c
      rcases o with o | o
      · rw [hq] at o; cases o
      · refine ⟨e, .inr ?_, Int.le_trans (hw m' o) le⟩
        show (if r = r then some e else w r) = some e
        rw [if_pos rfl]
    · refine ⟨m', ?_, le⟩
      show f r = some m' ∨ (if r = q then some e else w r) = some m'
      rw [if_neg c]
      exact o
  refine ⟨h.sf, fun r n er => ?_, fun r n er => ?_, fun r n hs => ?_, fun r n er t u nx2 => ?_, h.fa, fun r n er b eb => ?_⟩
  · have e2 : (if r = q then some e else w r) = some n := er
    by_cases c : r = q
    · rw [if_pos c] at e2
      cases e2
      subst c
      exact .step (h.sf p m hp) nx
    · rw [if_neg c] at e2
      exact h.sw r n e2
  · have e2 : (if r = q then some e else w r) = some n := er
    by_cases c : r = q
    · subst c
      exact hq
    · rw [if_neg c] at e2
      exact h.dj r n e2
  · obtain ⟨m', o, le⟩ := h.st r n hs
    exact keep r n m' o le
  · rcases h.cl r n er t u nx2 with z | ⟨m', o, le⟩
    · exact .inl z
    · exact .inr (keep t u m' o le)
  · cases eb
    have e2 : (if r = q then some e else w r) = some n := er
    by_cases c : r = q
    · rw [if_pos c] at e2
      cases e2
      exact ha
    · rw [if_neg c] at e2
      exact h.wa r n e2 a rfl
/-- nothing waits: all that is reached is found, and no later -/
theorem DI.done {a : Option Int} (h : DI St Nx (fun _ _ _ _ => False) f (fun _ => none) a) (mono : ∀ p m m' q e, m' ≤ m → Nx p m q e → ∃ e', Nx p m' q e' ∧ e' ≤ e) {p : Str} {m : Int} (r : Rch St Nx p m) : ∃ m', f p = some m' ∧ m' ≤ m := by
  induction r with
  | @start p m hs =>
    obtain ⟨m', o, le⟩ := h.st p m hs
    rcases o with o | o
    · exact ⟨m', o, le⟩
    · cases o
  | @step p q m e _ nx ih =>
    obtain ⟨m', e1, le⟩ := ih
    obtain ⟨e', nx', le'⟩ := mono p m m' q e le nx
    rcases h.cl p m' e1 q e' nx' with z | ⟨m2, o, le2⟩
    · exact z.elim
    · rcases o with o | o
      · exact ⟨m2, o, Int.le_trans le2 le'⟩
      · cases o
end
theorem lk_putF {l : List (Str × Int)} {p : Str} {b : Int} : lk (putL l p b) = setF (lk l) p b := funext fun q => lk_put l p q b
theorem lk_dropF {l : List (Str × Int)} {p : Str} : lk (dropL l p) = delF (lk l) p := funext fun q => lk_drop l p q
theorem lk_nilF : lk ([] : List (Str × Int)) = fun _ => none := rfl

/-! ### the fastest fire by the search -/
section
variable {P : Parts} {W : Wea} {S B : Rws}
def FSt (S B : Rws) (p : Str) (m : Int) : Prop := (p, m) ∈ S ∧ Ahead B p m
def FNx (winds : List Str) (links : List Link) (W : Wea) (B : Rws) (p : Str) (m : Int) (q : Str) (e : Int) : Prop := ∃ l ∈ links, l.one = p ∧ l.other = q ∧ caughtM winds W (leastRow l) m = some e ∧ Ahead B q e
theorem rch_reach {winds : List Str} {links : List Link} {p : Str} {m : Int} (h : Rch (FSt S B) (FNx winds links W B) p m) : Reach winds links W S B p m := by
  induction h with
  | start h => exact .start h.1 h.2
  | step _ nx ih =>
    obtain ⟨l, h1, h2, h3, h4, h5⟩ := nx
    subst h2
    subst h3
    exact .step ih h1 h4 h5
theorem reach_rch {winds : List Str} {links : List Link} {p : Str} {m : Int} (h : Reach winds links W S B p m) : Rch (FSt S B) (FNx winds links W B) p m := by
  induction h with
  | start h1 h2 => exact .start ⟨h1, h2⟩
  | @step l m e _ h1 h2 h3 ih => exact .step ih ⟨l, h1, rfl, rfl, h2, h3⟩
theorem fast_of {winds : List Str} {links : List Link} (ha : Asc W) {f : Str → Option Int} {a : Option Int} (h : DI (FSt S B) (FNx winds links W B) (fun _ _ _ _ => False) f (fun _ => none) a) : IsFast winds links W S B f := by
  refine ⟨fun p m e => rch_reach (h.sf p m e), fun p m r => h.done (fun p m m' q e le nx => ?_) (reach_rch r)⟩
  obtain ⟨l, h1, h2, h3, h4, h5⟩ := nx
  obtain ⟨e0, c0, le0⟩ := caught_mono ha (RowLe.refl _) le h4
  exact ⟨e0, ⟨l, h1, h2, h3, c0, h5.mono le0⟩, le0⟩
end
/-! ### first arrivals -/
section
variable {paths : List Path} {F : Str → Option Int} {p : Str} {m : Int}
def ASt (F : Str → Option Int) (p : Str) (m : Int) (q : Str) (n : Int) : Prop := q = p ∧ n = m ∧ Free F p m
def ANx (paths : List Path) (F : Str → Option Int) (q : Str) (n : Int) (r : Str) (e : Int) : Prop := ∃ d, (r, d) ∈ walksM paths q ∧ e = n + d ∧ Free F r e
theorem arr_rch {q : Str} {n : Int} (h : Arr paths F p m q n) : Rch (ASt F p m) (ANx paths F) q n := by
  induction h with
  | base h => exact .start ⟨rfl, rfl, h⟩
  | @step q q' n d _ h1 h2 ih => exact .step ih ⟨d, h1, rfl, h2⟩
theorem rch_free {q : Str} {n : Int} (h : Rch (ASt F p m) (ANx paths F) q n) : Free F q n := by
  cases h with
  | start h => obtain ⟨rfl, rfl, h⟩ := h; exact h
  | step _ nx => obtain ⟨d, _, _, h⟩ := nx; exact h
theorem anx_mono (q : Str) (n n' : Int) (r : Str) (e : Int) (le : n' ≤ n) (h : ANx paths F q n r e) : ∃ e', ANx paths F q n' r e' ∧ e' ≤ e := by
  obtain ⟨d, h1, rfl, h2⟩ := h
  exact ⟨n' + d, ⟨d, h1, rfl, fun f hf => by have := h2 f hf; omega⟩, by omega⟩
end
end Ef
/-! ==== EfSp -/
set_option Elab.async false
set_option linter.all false
set_option maxRecDepth 100000
set_option maxHeartbeats 4000000
/-! What each def promises. -/
namespace Ef
open PySem L2 Evl
abbrev Frg := PySem.W.Frag
abbrev RR := List V → Hp → (V → Hp → Prop) → Prop
/-- a promise by a relation: called so, the answer meets P, what stood stands -/
def spOf (R : RR) : Sp := fun vs H Q _ => ∃ P, R vs H P ∧ ∀ v H', Ex H H' → P v H' → Q v H'
def optV : Option Int → V
  | none => .non
  | some i => .int i
abbrev intsD (ns : List Int) : PyData := .list (ns.map .int)
abbrev strsD (ss : List Str) : PyData := .list (ss.map .str)
abbrev rowsD (rs : Rws) : PyData := .list (rs.map rowD)
abbrev weaD (W : Wea) : PyData := .list (W.map wrowD)
/-- a dict of minutes by texts -/
def DicI (H : Hp) (v : V) (l : List (Str × Int)) : Prop := ∃ a, v = .ref a ∧ H a = some (.dK (dk l))
def srcV : Option Str → V
  | none => .non
  | some s => .str s
def dsr (l : List (Str × Option Str)) : List (Key × V) := l.map fun p => (.inr p.1, srcV p.2)
def DicS (H : Hp) (v : V) (l : List (Str × Option Str)) : Prop := ∃ a, v = .ref a ∧ H a = some (.dK (dsr l))
/-- a list new since H -/
def NewL (K : Frg) (H H' : Hp) (v : V) (ds : List PyData) : Prop := ∃ p xs, v = .ref p ∧ H p = none ∧ H' p = some (.lst xs) ∧ DpAll K H' xs ds
/-! ### a land -/
structure FOk (fs : List (Str × V)) : Prop where
  m1 : fs.lookup ("are_ends" : Str) = none
  m2 : fs.lookup ("checked_link" : Str) = none
  m3 : fs.lookup ("checked_path" : Str) = none
  m4 : fs.lookup ("check_place" : Str) = none
  m5 : fs.lookup ("check_wind" : Str) = none
  m6 : fs.lookup ("walks_from" : Str) = none
  m7 : fs.lookup ("minutes_between" : Str) = none
/-- an instance with a field told by data -/
def FldD (K : Frg) (C : Addr) (H : Hp) (v : V) (f : Str) (d : PyData) : Prop := ∃ a dx fs x, v = .ref a ∧ H a = some (.ins C dx fs) ∧ FOk fs ∧ fs.lookup f = some x ∧ Dp K H x d
/-- .. a tuple without a dict -/
def FldW (K : Frg) (C : Addr) (H : Hp) (v : V) (f : Str) (d : PyData) : Prop := ∃ a dx fs x, v = .ref a ∧ H a = some (.ins C dx fs) ∧ FOk fs ∧ fs.lookup f = some x ∧ Dp K H x d ∧ NoDk H x
structure LandAt (K : Frg) (C : Addr) (H : Hp) (v : V) (P : Parts) : Prop where
  w : FldW K C H v "winds" (.tuple (P.winds.map .str))
  p : FldD K C H v "places" (.tuple (P.places.map .str))
  l : FldD K C H v "links" (.tuple (P.links.map linkD))
  h : FldD K C H v "paths" (.tuple (P.paths.map pathD))
/-- the parts as _law_parts gives them -/
def PartsAt (K : Frg) (H : Hp) (v : V) (P : Parts) : Prop := ∃ a x1 x2 x3 x4, v = .ref a ∧ SqL K H a [x1, x2, x3, x4] ∧ NoDk H x1 ∧ Dp K H x1 (.tuple (P.winds.map .str)) ∧ Dp K H x2 (.tuple (P.places.map .str)) ∧ Dp K H x3 (.tuple (P.links.map linkD)) ∧ Dp K H x4 (.tuple (P.paths.map pathD))
/-- what the top has of the class -/
structure LTx (K : Frg) (C : Addr) : Prop where
  cl : Cls K C
  nw : NoAttr K C "winds"
  np : NoAttr K C "places"
  nl : NoAttr K C "links"
  nh : NoAttr K C "paths"
section
/-! ### the module's defs -/
def R_require (K : Frg) (C : Addr) : RR := fun vs H P => vs = [.bl true] ∧ P = fun v _ => v = .non
def R_is_name (K : Frg) (C : Addr) : RR := fun vs H P => ∃ (s : Str), vs = [.str s] ∧ GoodName s ∧ P = fun v _ => v = .bl true
def prD (p : Str × Str) : PyData := .tuple [.str p.1, .str p.2]
def R_are_different (K : Frg) (C : Addr) : RR := fun vs H P => ∃ (v : V), vs = [v] ∧ (P = fun v _ => v = .bl true) ∧
  ((∃ ss : List Str, ss.Nodup ∧ ss.length ≤ 1000 ∧ (Dp K H v (strsD ss) ∨ Dp K H v (.tuple (ss.map .str)))) ∨ ∃ ps : List (Str × Str), ps.Nodup ∧ ps.length ≤ 1000 ∧ Dp K H v (.list (ps.map prD)))
def R_checked_times (K : Frg) (C : Addr) : RR := fun vs H P => ∃ (v : V) (ts : List (Option (Int × Int))), vs = [v, .int (ts.length : Nat)] ∧ Dp K H v (.tuple (ts.map pairO)) ∧ ts.length ≤ 1000 ∧ (∀ p : Int × Int, some p ∈ ts → 1 ≤ p.1 ∧ p.1 ≤ p.2 ∧ p.2 ≤ 1000) ∧
  P = fun v H' => Dp K H' v (.tuple (ts.map pairO))
def R_check_winds (K : Frg) (C : Addr) : RR := fun vs H P => ∃ (l : V) (w : V) (Pt : Parts) (W : Wea), vs = [l, w] ∧ LandAt K C H l Pt ∧ Dp K H w (weaD W) ∧ (∀ r ∈ W, r.2 ∈ Pt.winds) ∧ P = fun v _ => v = .non
def R_check_changes (K : Frg) (C : Addr) : RR := fun vs H P => ∃ (w : V) (Pt : Parts) (W : Wea), vs = [w] ∧ GoodW Pt W ∧ Dp K H w (weaD W) ∧ P = fun v _ => v = .non
def R_blowing (K : Frg) (C : Addr) : RR := fun vs H P => ∃ (w : V) (Pt : Parts) (W : Wea) (t : Int), vs = [w, .int t] ∧ GoodW Pt W ∧ 0 ≤ t ∧ Dp K H w (weaD W) ∧ P = fun v _ => v = .str (wind0 W t)
def R_chances (K : Frg) (C : Addr) : RR := fun vs H P => ∃ (w : V) (Pt : Parts) (W : Wea) (t : Int), vs = [w, .int t] ∧ GoodW Pt W ∧ Dp K H w (weaD W) ∧ P = fun v H' => NewL K H H' v ((chancesM W t).map .int)
def numsD (Pt : Parts) : PyData := .tuple (Pt.links.map fun l => .tuple ((leastRow l).map numO))
def R_least_numbers (K : Frg) (C : Addr) : RR := fun vs H P => ∃ (l : V) (Pt : Parts), vs = [l] ∧ GoodP Pt ∧ LandAt K C H l Pt ∧ P = fun v H' => Dp K H' v (numsD Pt)
def R_check_rows (K : Frg) (C : Addr) : RR := fun vs H P => ∃ (l : V) (r : V) (Pt : Parts) (rs : Rws), vs = [l, r] ∧ LandAt K C H l Pt ∧ Dp K H r (rowsD rs) ∧ (∀ r ∈ rs, r.1 ∈ Pt.places) ∧ P = fun v _ => v = .non
def R_least_minutes (K : Frg) (C : Addr) : RR := fun vs H P => ∃ (r : V) (rs : Rws), vs = [r] ∧ Dp K H r (rowsD rs) ∧ rs.length ≤ 1000 ∧
  P = fun v H' => ∃ a l, v = .ref a ∧ H a = none ∧ H' a = some (.dK (dk l)) ∧ (l.map (·.1)).Nodup ∧ LeastOf rs (lk l) ∧ l.length ≤ rs.length
def R_caught (K : Frg) (C : Addr) : RR := fun vs H P => ∃ (l : V) (w : V) (r : V) (Pt : Parts) (W : Wea) (row : List (Option Int)) (t : Int), vs = [l, w, r, .int t] ∧ GoodP Pt ∧ GoodW Pt W ∧ LandAt K C H l Pt ∧ Dp K H w (weaD W) ∧ Dp K H r (.tuple (row.map numO)) ∧ row.length = Pt.winds.length ∧ 0 ≤ t ∧
  P = fun v _ => v = optV (caughtM Pt.winds W row t)
def FastD (Pt : Parts) (W : Wea) (S B : Rws) (H : Hp) (v : V) : Prop := ∃ l, DicI H v l ∧ IsFast Pt.winds Pt.links W S B (lk l)
def R_spread (K : Frg) (C : Addr) : RR := fun vs H P => ∃ (l : V) (w : V) (s : V) (b : V) (n : V) (Pt : Parts) (W : Wea) (S : Rws) (B : Rws), vs = [l, w, s, b, n] ∧ GoodP Pt ∧ GoodW Pt W ∧ GoodR Pt S ∧ GoodR Pt B ∧ LandAt K C H l Pt ∧ Dp K H w (weaD W) ∧ Dp K H s (rowsD S) ∧ Dp K H b (rowsD B) ∧ Dp K H n (numsD Pt) ∧
  P = fun v H' => FastD Pt W S B H' v
def R_check_asked (K : Frg) (C : Addr) : RR := fun vs H P => ∃ (l : V) (w : V) (s : V) (b : V) (r : V) (Pt : Parts) (W : Wea) (S : Rws) (B : Rws) (rs : Rws), vs = [l, w, s, b, r] ∧ GoodW Pt W ∧ GoodR Pt S ∧ GoodR Pt B ∧ (∀ r ∈ rs, r.1 ∈ Pt.places) ∧ LandAt K C H l Pt ∧ Dp K H w (weaD W) ∧ Dp K H s (rowsD S) ∧ Dp K H b (rowsD B) ∧ Dp K H r (rowsD rs) ∧
  P = fun v _ => v = .non
/-- what first_arrivals tells -/
structure Arrs (paths : List Path) (F : Str → Option Int) (p : Str) (m : Int) (f : Str → Option Int) (s : Str → Option (Option Str)) : Prop where
  all : ∀ q n, Arr paths F p m q n → (f q).isSome = true
  fr : ∀ q n, f q = some n → Free F q n ∧ m ≤ n
  src : ∀ q n, f q = some n → (s q = some none ∧ q = p ∧ n = m) ∨ ∃ q' n' d, s q = some (some q') ∧ f q' = some n' ∧ (q, d) ∈ walksM paths q' ∧ n = n' + d
def R_first_arrivals (K : Frg) (C : Addr) : RR := fun vs H P => ∃ (l : V) (fv : V) (p : Str) (m : Int) (Pt : Parts) (fl : List (Str × Int)), vs = [l, fv, .str p, .int m] ∧ GoodP Pt ∧ LandAt K C H l Pt ∧ DicI H fv fl ∧ p ∈ Pt.places ∧
  P = fun v H' => ∃ a fv sv f s, v = .ref a ∧ SqT K H' a [fv, sv] ∧ DicI H' fv f ∧ DicS H' sv s ∧ (f.map (·.1)).Nodup ∧ (∀ q n, lk f q = some n → q ∈ Pt.places) ∧ Arrs Pt.paths (lk fl) p m (lk f) (lk s)
def R_safe_walk (K : Frg) (C : Addr) : RR := fun vs H P => ∃ (l : V) (w : V) (s : V) (b : V) (p : Str) (m : Int) (Pt : Parts) (W : Wea) (S : Rws) (B : Rws), vs = [l, w, s, b, .str p, .int m] ∧ GoodP Pt ∧ GoodW Pt W ∧ GoodR Pt S ∧ GoodR Pt B ∧ LandAt K C H l Pt ∧ Dp K H w (weaD W) ∧ Dp K H s (rowsD S) ∧ Dp K H b (rowsD B) ∧ p ∈ Pt.places ∧ 0 ≤ m ∧
  P = fun v H' => ∃ F, IsFast Pt.winds Pt.links W S B F ∧ ((v = .non ∧ ¬ Esc Pt.paths F p m) ∨ ∃ rows, Dp K H' v (rowsD rows) ∧ SafeRows Pt.paths F rows ∧ rows.length ≤ 1000 ∧ rows[0]? = some (p, m))
def R_is_safe_walk (K : Frg) (C : Addr) : RR := fun vs H P => ∃ (l : V) (w : V) (s : V) (b : V) (r : V) (Pt : Parts) (W : Wea) (S : Rws) (B : Rws) (rows : Rws), vs = [l, w, s, b, r] ∧ GoodP Pt ∧ GoodW Pt W ∧ GoodR Pt S ∧ GoodR Pt B ∧ LandAt K C H l Pt ∧ Dp K H w (weaD W) ∧ Dp K H s (rowsD S) ∧ Dp K H b (rowsD B) ∧ Dp K H r (rowsD rows) ∧ (∀ r ∈ rows, r.1 ∈ Pt.places) ∧ rows.length ≤ 1000 ∧
  P = fun v _ => ∃ (c : Bool) (F : Str → Option Int), v = .bl c ∧ IsFast Pt.winds Pt.links W S B F ∧ (c = true → SafeRows Pt.paths F rows)
def R_refuges (K : Frg) (C : Addr) : RR := fun vs H P => ∃ (l : V) (w : V) (s : V) (b : V) (m : Int) (Pt : Parts) (W : Wea) (S : Rws) (B : Rws), vs = [l, w, s, b, .int m] ∧ GoodP Pt ∧ GoodW Pt W ∧ GoodR Pt S ∧ GoodR Pt B ∧ LandAt K C H l Pt ∧ Dp K H w (weaD W) ∧ Dp K H s (rowsD S) ∧ Dp K H b (rowsD B) ∧ 0 ≤ m ∧
  P = fun v H' => ∃ ps : List Str, Dp K H' v (strsD ps) ∧ ∀ p ∈ Pt.places, ∀ F, IsFast Pt.winds Pt.links W S B F → Esc Pt.paths F p m → p ∈ ps
/-! ### the methods -/
def R_are_ends (K : Frg) (C : Addr) : RR := fun vs H P => ∃ (l : V) (ps : List Str) (one : Str) (other : Str), vs = [l, .str one, .str other] ∧ FldD K C H l "places" (.tuple (ps.map .str)) ∧ one ∈ ps ∧ other ∈ ps ∧ one ≠ other ∧ P = fun v _ => v = .bl true
def R_checked_link (K : Frg) (C : Addr) : RR := fun vs H P => ∃ (l : V) (k : V) (ps : List Str) (ws : List Str) (lnk : Link), vs = [l, k] ∧ FldD K C H l "places" (.tuple (ps.map .str)) ∧ FldD K C H l "winds" (.tuple (ws.map .str)) ∧ Dp K H k (linkD lnk) ∧ GoodName lnk.name ∧ lnk.one ∈ ps ∧ lnk.other ∈ ps ∧ lnk.one ≠ lnk.other ∧
  lnk.times.length = ws.length ∧ ws.length ≤ 4 ∧ (∀ p : Int × Int, some p ∈ lnk.times → 1 ≤ p.1 ∧ p.1 ≤ p.2 ∧ p.2 ≤ 1000) ∧ P = fun v H' => Dp K H' v (linkD lnk)
def R_checked_path (K : Frg) (C : Addr) : RR := fun vs H P => ∃ (l : V) (k : V) (ps : List Str) (h : Path), vs = [l, k] ∧ FldD K C H l "places" (.tuple (ps.map .str)) ∧ Dp K H k (pathD h) ∧ h.1 ∈ ps ∧ h.2.1 ∈ ps ∧ h.1 ≠ h.2.1 ∧ 1 ≤ h.2.2 ∧ h.2.2 ≤ 1000 ∧ P = fun v H' => Dp K H' v (pathD h)
def R_link_names (K : Frg) (C : Addr) : RR := fun vs H P => ∃ (l : V) (ls : List Link), vs = [l] ∧ FldD K C H l "links" (.tuple (ls.map linkD)) ∧ ls.length ≤ 60 ∧ P = fun v H' => Dp K H' v (.tuple ((ls.map Link.name).map .str))
def R_check_place (K : Frg) (C : Addr) : RR := fun vs H P => ∃ (l : V) (ps : List Str) (s : Str), vs = [l, .str s] ∧ FldD K C H l "places" (.tuple (ps.map .str)) ∧ s ∈ ps ∧ P = fun v _ => v = .non
def R_check_wind (K : Frg) (C : Addr) : RR := fun vs H P => ∃ (l : V) (ps : List Str) (s : Str), vs = [l, .str s] ∧ FldD K C H l "winds" (.tuple (ps.map .str)) ∧ s ∈ ps ∧ P = fun v _ => v = .non
def R_walks_from (K : Frg) (C : Addr) : RR := fun vs H P => ∃ (l : V) (Pt : Parts) (s : Str), vs = [l, .str s] ∧ GoodP Pt ∧ LandAt K C H l Pt ∧ s ∈ Pt.places ∧ P = fun v H' => Dp K H' v (.list ((walksM Pt.paths s).map pairD))
def R_minutes_between (K : Frg) (C : Addr) : RR := fun vs H P => ∃ (l : V) (Pt : Parts) (s : Str) (t : Str), vs = [l, .str s, .str t] ∧ GoodP Pt ∧ LandAt K C H l Pt ∧ s ∈ Pt.places ∧ t ∈ Pt.places ∧ P = fun v _ => v = optV (lk (walksM Pt.paths s) t)
/-! ### the law's defs -/
def Nums (ns : List Int) : Prop := ns.length = 200 ∧ ∀ n ∈ ns, 0 ≤ n ∧ n < 1009
def R_Lrow (K : Frg) (C : Addr) : RR := fun vs H P => ∃ (cell : Int) (many : Nat), vs = [.int cell, .int (many : Nat)] ∧ many ≤ 1000 ∧ P = fun v H' => ∃ ns : List Int, NewL K H H' v (ns.map .int) ∧ ns.length = many ∧ ∀ n ∈ ns, 0 ≤ n ∧ n < 1009
def R_Lnumbers (K : Frg) (C : Addr) : RR := fun vs H P => ∃ (s : V) (ns : List Int), vs = [s, .int 200] ∧ Dp K H s (intsD ns) ∧ P = fun v H' => ∃ ms, Dp K H' v (intsD ms) ∧ Nums ms
def R_Lpick (K : Frg) (C : Addr) : RR := fun vs H P => ∃ (s : V) (ns : List Int) (i : Nat) (most : Int), vs = [s, .int (i : Nat), .int most] ∧ Dp K H s (intsD ns) ∧ Nums ns ∧ i < 200 ∧ 0 < most ∧ P = fun v _ => ∃ r, v = .int r ∧ 0 ≤ r ∧ r < most
def R_Lnames (K : Frg) (C : Addr) : RR := fun vs H P => ∃ (n : Int) (many : Nat), vs = [.int n, .int (many : Nat)] ∧ 0 ≤ n ∧ n < 1009 ∧ many ≤ 10 ∧ P = fun v H' => ∃ ss, Dp K H' v (strsD ss) ∧ ss.length = many ∧ ss.Nodup ∧ ∀ s ∈ ss, GoodName s
def R_Lparts (K : Frg) (C : Addr) : RR := fun vs H P => ∃ (s : V) (ns : List Int), vs = [s, .int 0] ∧ Dp K H s (intsD ns) ∧ Nums ns ∧ P = fun v H' => ∃ Pt, PartsAt K H' v Pt ∧ GoodP Pt ∧ Pt.links.length ≤ 10 ∧ Pt.winds.length ≤ 3
def R_Lweather (K : Frg) (C : Addr) : RR := fun vs H P => ∃ (s : V) (p : V) (ns : List Int) (Pt : Parts), vs = [s, .int 110, p] ∧ Dp K H s (intsD ns) ∧ Nums ns ∧ PartsAt K H p Pt ∧ GoodP Pt ∧ P = fun v H' => ∃ W, Dp K H' v (weaD W) ∧ GoodW Pt W
def R_Lwind (K : Frg) (C : Addr) : RR := fun vs H P => ∃ (p : V) (w : V) (Pt : Parts) (W : Wea) (t : Int), vs = [p, w, .int t] ∧ PartsAt K H p Pt ∧ Dp K H w (weaD W) ∧ GoodW Pt W ∧ P = fun v _ => v = .int ((Pt.winds.idxOf (wind0 W t) : Nat) : Int)
def R_Lcaught (K : Frg) (C : Addr) : RR := fun vs H P => ∃ (p : V) (w : V) (k : V) (Pt : Parts) (W : Wea) (lnk : Link) (t : Int), vs = [p, w, k, .int t, .int 0] ∧ PartsAt K H p Pt ∧ Dp K H w (weaD W) ∧ GoodW Pt W ∧ Dp K H k (linkD lnk) ∧ lnk.times.length = Pt.winds.length ∧ P = fun v _ => v = optV (caughtM Pt.winds W (leastRow lnk) t)
def R_Lfire (K : Frg) (C : Addr) : RR := fun vs H P => ∃ (p : V) (w : V) (s : V) (b : V) (Pt : Parts) (W : Wea) (S : Rws) (B : Rws), vs = [p, w, s, b, .int 0] ∧ PartsAt K H p Pt ∧ Dp K H w (weaD W) ∧ GoodW Pt W ∧ Pt.places.length ≤ 100 ∧ Pt.links.length ≤ 100 ∧ (∀ l ∈ Pt.links, l.times.length = Pt.winds.length) ∧
  Dp K H s (rowsD S) ∧ Dp K H b (rowsD B) ∧ S.length ≤ 1000 ∧ B.length ≤ 1000 ∧ (∀ l ∈ Pt.links, l.one ∈ Pt.places ∧ l.other ∈ Pt.places) ∧ (∀ r ∈ S, r.1 ∈ Pt.places) ∧
  P = fun v H' => ∃ l, DicI H' v l ∧ ∀ q m, lk l q = some m → Reach Pt.winds Pt.links W S B q m
def R_Lrows (K : Frg) (C : Addr) : RR := fun vs H P => ∃ (s : V) (p : V) (ns : List Int) (Pt : Parts) (i many : Nat) (most : Int), vs = [s, .int (i : Nat), .int (many : Nat), p, .int most] ∧ Dp K H s (intsD ns) ∧ Nums ns ∧ PartsAt K H p Pt ∧ GoodP Pt ∧ 0 < most ∧ many ≤ 10 ∧ i + 2 * many ≤ 200 ∧
  P = fun v H' => ∃ rs, Dp K H' v (rowsD rs) ∧ GoodR Pt rs
def R_Lland (K : Frg) (C : Addr) : RR := fun vs H P => ∃ (p : V) (Pt : Parts), vs = [p] ∧ PartsAt K H p Pt ∧ GoodP Pt ∧ P = fun v H' => LandAt K C H' v Pt
def R_Lcase (K : Frg) (C : Addr) : RR := fun vs H P => ∃ (s : V) (ns : List Int), vs = [s] ∧ Dp K H s (intsD ns) ∧ Nums ns ∧ P = fun v H' => ∃ Pt W S B a p w s b, v = .ref a ∧ SqT K H' a [p, w, s, b] ∧ PartsAt K H' p Pt ∧ Pt.links.length ≤ 10 ∧ Pt.winds.length ≤ 3 ∧ Dp K H' w (weaD W) ∧ Dp K H' s (rowsD S) ∧ Dp K H' b (rowsD B) ∧ GoodP Pt ∧ GoodW Pt W ∧ GoodR Pt S ∧ GoodR Pt B
def R_Lnumbers_of (K : Frg) (C : Addr) : RR := fun vs H P => ∃ (s : V) (p : V) (ns : List Int) (Pt : Parts), vs = [s, .int 150, p] ∧ Dp K H s (intsD ns) ∧ Nums ns ∧ PartsAt K H p Pt ∧ GoodP Pt ∧ Pt.links.length ≤ 10 ∧ Pt.winds.length ≤ 3 ∧
  P = fun v H' => ∃ ls, PartsAt K H' v { Pt with links := ls } ∧ Drawn Pt.links ls ∧ ls.length = Pt.links.length ∧ ∀ l ∈ ls, l.times.length = Pt.winds.length
def R_Lwalks (K : Frg) (C : Addr) : RR := fun vs H P => ∃ (p : V) (Pt : Parts) (s : Str), vs = [p, .str s] ∧ PartsAt K H p Pt ∧ GoodP Pt ∧ P = fun v H' => Dp K H' v (.list ((walksM Pt.paths s).map pairD))
def R_Lis_safe (K : Frg) (C : Addr) : RR := fun vs H P => ∃ (p : V) (f : V) (r : V) (Pt : Parts) (fl : List (Str × Int)) (rows : Rws), vs = [p, f, r] ∧ PartsAt K H p Pt ∧ GoodP Pt ∧ DicI H f fl ∧ Dp K H r (rowsD rows) ∧ SafeRows Pt.paths (lk fl) rows ∧ rows.length ≤ 1000 ∧ P = fun v _ => v = .bl true
def R_Ldrawn_walk (K : Frg) (C : Addr) : RR := fun vs H P => ∃ (p : V) (s : V) (ns : List Int) (Pt : Parts), vs = [p, s, .int 185] ∧ PartsAt K H p Pt ∧ GoodP Pt ∧ Dp K H s (intsD ns) ∧ Nums ns ∧ P = fun v H' => ∃ q m r, Dp K H' v (rowsD ((q, m) :: r)) ∧ (∀ x ∈ ((q, m) :: r : Rws), x.1 ∈ Pt.places) ∧ 0 ≤ m ∧ r.length ≤ 10
def R_law (K : Frg) (C : Addr) : RR := fun vs H P => ∃ (s : V) (ns : List Int), vs = [s] ∧ Dp K H s (intsD ns) ∧ P = fun v _ => v = .bl true
end
/-- Land's __init__: of a new instance -/
def sp_init (K : Frg) (C : Addr) : Sp := fun vs H Q _ => ∃ (p dx : Addr) (w q l h : V) (Pt : Parts), vs = [.ref p, w, q, l, h] ∧ H p = some (.ins C dx []) ∧ GoodP Pt ∧ Dp K H w (strsD Pt.winds) ∧ Dp K H q (strsD Pt.places) ∧ Dp K H l (.list (Pt.links.map linkD)) ∧ Dp K H h (.list (Pt.paths.map pathD)) ∧
  ∀ H', (∀ b o, H b = some o → b ≠ p → H' b = some o) → LandAt K C H' (.ref p) Pt → Q .non H'
end Ef
/-! ==== EfT -/
set_option Elab.async false
set_option linter.all false
set_option maxRecDepth 100000
set_option maxHeartbeats 4000000
/-! Each def's reading, and that its text has it. Printed by genbody.py. -/
namespace Ef
open PySem PySem.Spec PyProof.Rows L2 Evl
abbrev rAddI : R2 := rI0 fun i j => .int (i + j)
abbrev rSubI : R2 := rI0 fun i j => .int (i - j)
abbrev rMulI : R2 := rI CMul fun i j => .int (i * j)
abbrev rModI : R2 := rI (fun _ j => 0 < j) fun i j => .int (i % j)
abbrev rDivI : R2 := rI CDiv fun i j => .int (i / j)
abbrev rPowI : R2 := rI CPow fun i j => .int (i ^ j.toNat)
abbrev rLt : R2 := rI0 fun i j => .bl (decide (i < j))
abbrev rLe : R2 := rI0 fun i j => .bl (decide (i ≤ j))
abbrev rGt : R2 := rI0 fun i j => .bl (decide (j < i))
abbrev rGe : R2 := rI0 fun i j => .bl (decide (j ≤ i))
def rAddS : R2 := fun x y H Q => ∃ i j, x = .str i ∧ y = .str j ∧ i.length + j.length ≤ sizeLine ∧ Q (.str (i ++ j)) H
def rInSg : R2 := fun x y H Q => ∃ (c : Nat) (z : Str), x = .str ⟨#[c]⟩ ∧ y = .str z ∧ Q (.bl (decide (c ∈ z.cps.toList))) H
def rInX (K : Frg) : R2 := fun x y H Q => rIn K false x y H Q ∨ rInO K (Str × Str) false x y H Q
def rSlX2 (K : Frg) : V → Option Int → Option Int → Hp → VK → Prop := fun x lo hi H Q => rSlL K x lo hi H Q ∨ rSlT K x lo hi H Q
def rLenSt : List V → Hp → VK → Prop := fun xs H Q => ∃ z, xs = [.str z] ∧ z.length ≤ sizeLine ∧ Q (.int z.length) H
def rMin2 : List V → Hp → VK → Prop := fun xs H Q => ∃ i j, xs = [.int i, .int j] ∧ Q (.int (if j < i then j else i)) H
def rAbs : List V → Hp → VK → Prop := fun xs H Q => ∃ i, xs = [.int i] ∧ Q (.int (if i < 0 then -i else i)) H
def rInt1 : List V → Hp → VK → Prop := fun xs H Q => (∃ i, xs = [.int i] ∧ Q (.int i) H) ∨ ∃ k, xs = [.bl k] ∧ Q (.int (if k then 1 else 0)) H
def rTIx (K : Frg) : V → List V → Hp → VK → Prop := fun x xs H Q => ∃ p, ∃ ys : List Str, ∃ z j, x = .ref p ∧ xs = [.str z] ∧ SqT K H p (ys.map V.str) ∧ ys[j]? = some z ∧ (∀ m, m < j → ys[m]? ≠ some z) ∧ Q (.int (j : Nat)) H
def rJoin (K : Frg) : V → List V → Hp → VK → Prop := fun x xs H Q => ∃ a p, ∃ ys : List Str, x = .str a ∧ xs = [.ref p] ∧ (SqL K H p (ys.map V.str) ∨ SqT K H p (ys.map V.str)) ∧
  (ys.map (·.length)).sum + ys.length * a.length ≤ 16777216 ∧ Q (.str (Txt.join a ys)) H
def iEnumX (K : Frg) (ta : TA) : TI := fun σ H R => iEnum K ta σ H R ∨ iEnumT K ta σ H R
theorem pi_enumX {X : Cx} {e : Expr} {ta : TA} {p pos tpos : Pos} {elts : List Expr} {kk : Nat} (hg : Gl X "enumerate") (hm : X.mg "enumerate" = none) (ha : PA X [e] ta) (hs : starEach [e] X.env = [(false, eval e X.env)] := by rfl) :
    PI X (.Tuple elts kk tpos) (.Call (.Name "enumerate" p) [e] [] pos) (iEnumX X.K ta) := ⟨fun pins s σ H R I h => by
  rcases h with h | h
  · exact (pi_enum hg hm ha hs).run pins s σ H R I h
  · exact (pi_enumT hg hm ha hs).run pins s σ H R I h⟩
theorem bt_len : bootBuiltins "len" = some (.builtin "len") := by decide +kernel
theorem bt_min : bootBuiltins "min" = some (.builtin "min") := by decide +kernel
theorem bt_max : bootBuiltins "max" = some (.builtin "max") := by decide +kernel
theorem bt_abs : bootBuiltins "abs" = some (.builtin "abs") := by decide +kernel
theorem bt_any : bootBuiltins "any" = some (.builtin "any") := by decide +kernel
theorem bt_all : bootBuiltins "all" = some (.builtin "all") := by decide +kernel
theorem bt_sorted : bootBuiltins "sorted" = some (.builtin "sorted") := by decide +kernel
theorem bt_int : bootBuiltins "int" = some (.type "int") := by decide +kernel
theorem bt_tuple : bootBuiltins "tuple" = some (.type "tuple") := by decide +kernel
theorem bt_list : bootBuiltins "list" = some (.type "list") := by decide +kernel
abbrev kwN : List Str := ["winds", "places", "links", "paths"]
/-- the property, the class as they are called -/
structure PropL (P : Program) (w : World) (K : Frg) (mg : Str → Option Value) (base : Heap) (k : Nat) (C : Addr) (f : Str) (sp : Sp) : Prop where
  ex : ∃ (p g : Addr) (fd : FuncData) (ps : List Str), Cls K C ∧ PropOf K C f p g ∧ FnOk P w K mg base CX0 k g fd ps sp ∧ Binds K fd ps []
theorem pe_propC {X : Cx} {C : Addr} {f : Str} {sp : Sp} {k j : Nat} {e : Expr} {ta : TE} {pos : Pos} (c : PropL X.prog X.w X.K X.mg X.base k C f sp) (hr : Room j X.A) (hk : k + 1 ≤ j) (he : PE X e ta) (hab : attributeBase e f X.env (eval e X.env) = eval e X.env) :
    PE X (.Attribute e f pos) (tProp C sp [] E0 ta) := by
  obtain ⟨p, g, fd, ps, hc, hp, F, b⟩ := c.ex
  exact pe_prop he hc hp F (hr.mono hk) b .nil pass0 hab
structure MakeL (P : Program) (w : World) (K : Frg) (mg : Str → Option Value) (base : Heap) (k : Nat) (C : Addr) (sp : Sp) : Prop where
  ex : ∃ (f : Addr) (fd : FuncData) (ps : List Str) (g : List Value → List Value → List Value), Mk K C f ∧ FnOk P w K mg base CX0 k f fd ps sp ∧ mg "Land" = some (.ref C) ∧ KBn K fd ps 1 kwN g (fun us ws => us ++ ws)
theorem pe_landC {X : Cx} {C : Addr} {sp : Sp} {k j : Nat} {kws : List Keyword} {tk : TA} {p pos : Pos} (c : MakeL X.prog X.w X.K X.mg X.base k C sp) (hr : Room j X.A) (hk : k + 1 ≤ j) (hg : Gl X "Land") (hkw : PK X kws tk)
    (hall : (backToKw pos (keywordEach kws X.env)).all (·.1.isSome) = true := by rfl) (hks : (backToKw pos (keywordEach kws X.env)).filterMap (·.1) = kwN := by rfl)
    (hpl : ((backTo pos (starEach [] X.env)).any (·.1) || (backToKw pos (keywordEach kws X.env)).any (·.1.isNone)) = false := by rfl) :
    PE X (.Call (.Name "Land" p) [] kws pos) (tMakeK C 0 4 sp (fun us ws => us ++ ws) E0 tNil tk) := by
  obtain ⟨f, fd, ps, g, M, F, hm, b⟩ := c.ex
  exact pe_makeK0 M F (hr.mono hk) hg hm b pass0 hkw hall hks (by decide) hpl
/-! ### require -/
def t_require (K : Frg) (C : Addr) : TS :=
  tIfS (tNot (tB (tVar 0))) (tNever) (tNext)
theorem b_require {P : Program} {w : World} {K : Frg} {mg : Str → Option Value} {base : Heap} {C : Addr} 
    {cdv : Value} {A : Around} {outer : List Env} {s : Shared} {H : Hp} {E : XK} {fad : Addr} (hr : Room 0 (A.deeper (envOfC "require" (defScope s_require) s.heap.objs.size fad cdv))) :
    PSs (cxOf CX0 P w K mg base N_require "require" (defScope s_require) fad cdv A outer s H E).nox (defBody s_require) (t_require K C) := by
  exact pss_one (ps_if (pt_not (pt_val (pv 0))) (pss_one (ps_never)) (pss_nil))
/-! ### is_name -/
def t_is_name (K : Frg) (C : Addr) : TS :=
  tSeq (tIfS (tOr (tNot (tTest (tChain rLe rLe (tC (.int 1)) (tCB (rLenSt) (tCons (tVar 0) tNil)) (tC (.int 12))))) (tTest (tOp (rInSg) (tOp rIxS (tVar 0) (tC (.int 0))) (tC (.str "0123456789"))))) (tRet (tC (.bl false))) (tNext)) (tRet (tCB (rAll K) (tCons (tLc (iStr (tVar 0)) (gName 1) (tYes) (tOp (rInSg) (tVar 1) (tC (.str "abcdefghijklmnopqrstuvwxyz0123456789"))) [1]) tNil)))
theorem b_is_name {P : Program} {w : World} {K : Frg} {mg : Str → Option Value} {base : Heap} {C : Addr} {tk_MOST_NAME_CHARS : _} {tk_NAME_CHARS : _} (f_len : mg "len" = none)
    (f_all : mg "all" = none)
    (k_MOST_NAME_CHARS : mg "MOST_NAME_CHARS" = some (.int 12 tk_MOST_NAME_CHARS))
    (k_NAME_CHARS : mg "NAME_CHARS" = some (.str "abcdefghijklmnopqrstuvwxyz0123456789" tk_NAME_CHARS))
    {cdv : Value} {A : Around} {outer : List Env} {s : Shared} {H : Hp} {E : XK} {fad : Addr} (hr : Room 0 (A.deeper (envOfC "is_name" (defScope s_is_name) s.heap.objs.size fad cdv))) :
    PSs (cxOf CX0 P w K mg base N_is_name "is_name" (defScope s_is_name) fad cdv A outer s H E).nox (defBody s_is_name) (t_is_name K C) := by
  exact pss_cons (ps_if ((pw_or (pt_not (pt_chain op_le op_le (pe_int) (pe_callB call_len_str (by rfl) f_len bt_len (pa_cons (pv 0) pa_nil)) (C8.pe_gc (v := .int 12) (by rfl) ⟨_, k_MOST_NAME_CHARS, _, rfl⟩))) (pw_or1 (pt_cmpR op_in_sign (pe_ix ix_str (pv 0) (pe_int) (fun _ _ => rfl)) (pe_str) (by rfl)))).pt) (pss_one (ps_ret (pe_bl))) (pss_nil))
    (pss_one (ps_ret (pe_callB (cr_all rfl) (by rfl) f_all bt_all (pa_cons (pe_lc (own := [("char", 1)]) (g := gName 1) (tt := tYes) rfl sc_is_name.nd (pi_str (pv 0)) (blkOk_by (N := N_is_name) (sc := defScope s_is_name) (by decide +kernel)) (fun _ _ _ _ _ => pg_name (i := 1) sc_is_name.nd rfl (.inl rfl)) (fun _ _ _ _ _ => pts_nil) (fun _ _ _ _ _ => pe_cmpR op_in_sign (pv 1) (C8.pe_gc (v := .str "abcdefghijklmnopqrstuvwxyz0123456789") (by rfl) ⟨_, k_NAME_CHARS, _, rfl⟩) (by rfl))) pa_nil))))
/-! ### are_different -/
def t_are_different (K : Frg) (C : Addr) : TS :=
  tSeq (tFor (iEnumX K (tCons (tVar 0) tNil)) (gTup K 2 (gCons (gName 1) (gCons (gName 2) (gNil)))) (tIfS (tTest (tOp (rInX K) (tVar 2) (tSl (rSlX2 K) (tVar 0) (tNoPart) (tPart (tVar 1))))) (tRet (tC (.bl false))) (tNext))) (tRet (tC (.bl true)))
theorem b_are_different {P : Program} {w : World} {K : Frg} {mg : Str → Option Value} {base : Heap} {C : Addr} (f_enumerate : mg "enumerate" = none)
    {cdv : Value} {A : Around} {outer : List Env} {s : Shared} {H : Hp} {E : XK} {fad : Addr} (hr : Room 0 (A.deeper (envOfC "are_different" (defScope s_are_different) s.heap.objs.size fad cdv))) :
    PSs (cxOf CX0 P w K mg base N_are_different "are_different" (defScope s_are_different) fad cdv A outer s H E).nox (defBody s_are_different) (t_are_different K C) := by
  have hu1 : (A.deeper (envOfC "are_different" (defScope s_are_different) s.heap.objs.size fad cdv)).units + 1 < cLine := by have := hr.units; omega
  have hu3 : (A.deeper (envOfC "are_different" (defScope s_are_different) s.heap.objs.size fad cdv)).units + 1 + 1 < cLine := by have := hr.units; omega
  exact pss_cons (ps_for PassesOwn.never rfl (pi_enumX (by rfl) f_enumerate (pa_cons (pv 0) pa_nil)) (pg_tup rfl (pgs_cons (pg_name (i := 1) sc_are_different.nd rfl (.inl rfl)) (pgs_cons (pg_name (i := 2) sc_are_different.nd rfl (.inl rfl)) (pgs_nil)))) (pss_one (ps_if (pt_cmpR (OpR.or op_in_seq (op_inO (Str × Str) (hu3))) (pv 2) (pe_slice (SlR.or sl_list sl_tup) (pv 0) (po_none) (po_some (pv 1))) (by rfl)) (pss_one (ps_ret (pe_bl))) (pss_nil))))
    (pss_one (ps_ret (pe_bl)))
/-! ### checked_times -/
def t_checked_times (K : Frg) (C : Addr) : TS :=
  tSeq (tDrop (tCall (spOf (R_require K C)) [] E0 (tCons (tOp rEq (tCB (rLen2 K) (tCons (tVar 0) tNil)) (tVar 1)) tNil))) (tSeq (tAsg (tLst (tNil)) (gName 2)) (tSeq (tFor (iTup K (tVar 0)) (gName 3) (tSeq (tIfS (tB (tNotN (tVar 3))) (tSeq (tDrop (tCall (spOf (R_require K C)) [] E0 (tCons (tAndV (tOp rEq (tCB (rLen2 K) (tCons (tVar 3) tNil)) (tC (.int 2))) (tChain3 rLe rLe rLe (tC (.int 1)) (tOp (rIxT K) (tVar 3) (tC (.int 0))) (tOp (rIxT K) (tVar 3) (tC (.int 1))) (tC (.int 1000)))) tNil))) (tAsg (tCB (rTupOf2 K) (tCons (tVar 3) tNil)) (gName 3))) (tNext)) (tDrop (tBM K "list" rAppend (tVar 2) (tCons (tVar 3) tNil))))) (tRet (tCB (rTupOf2 K) (tCons (tVar 2) tNil)))))
theorem b_checked_times {P : Program} {w : World} {K : Frg} {mg : Str → Option Value} {base : Heap} {C : Addr} {tk_MOST_MINUTES : _} (f_len : mg "len" = none)
    (f_tuple : mg "tuple" = none)
    (k_MOST_MINUTES : mg "MOST_MINUTES" = some (.int 1000 tk_MOST_MINUTES))
    (c_require : C8.Cal P w K mg base 1 "require" (spOf (R_require K C)) [])
    {cdv : Value} {A : Around} {outer : List Env} {s : Shared} {H : Hp} {E : XK} {fad : Addr} (hr : Room 1 (A.deeper (envOfC "checked_times" (defScope s_checked_times) s.heap.objs.size fad cdv))) :
    PSs (cxOf CX0 P w K mg base N_checked_times "checked_times" (defScope s_checked_times) fad cdv A outer s H E).nox (defBody s_checked_times) (t_checked_times K C) := by
  exact pss_cons (ps_expr (C8.pe_c c_require hr (by decide) (by rfl) (pa_cons (pe_cmpR op_eq (pe_callB call_len_seq (by rfl) f_len bt_len (pa_cons (pv 0) pa_nil)) (pv 1) (nomark _)) pa_nil)))
    (pss_cons (ps_set (i := 2) sc_checked_times.nd rfl (.inl rfl) (pe_lst (pa_nil)))
    (pss_cons (ps_for PassesOwn.never rfl (pi_tup (pv 0)) (pg_name (i := 3) sc_checked_times.nd rfl (.inl rfl)) (pss_cons (ps_if (pt_cmp (pc_notN (pv 3))) (pss_cons (ps_expr (C8.pe_c c_require hr (by decide) (by rfl) (pa_cons (pe_and (pe_cmpR op_eq (pe_callB call_len_seq (by rfl) f_len bt_len (pa_cons (pv 3) pa_nil)) (pe_int) (nomark _)) (pe_one (pe_chain3 op_le op_le op_le (pe_int) (pe_ix ix_tup (pv 3) (pe_int) (fun _ _ => rfl)) (pe_ix ix_tup (pv 3) (pe_int) (fun _ _ => rfl)) (C8.pe_gc (v := .int 1000) (by rfl) ⟨_, k_MOST_MINUTES, _, rfl⟩)))) pa_nil)))
    (pss_one (ps_set (i := 3) sc_checked_times.nd rfl (.inl rfl) (pe_callTy call_tupleF (by rfl) f_tuple bt_tuple (pa_cons (pv 3) pa_nil))))) (pss_nil))
    (pss_one (ps_expr (pe_bm PySem.F.plainAttrs_list PySem.F.slot_list_append PySem.F.type_list_append mt_append (pv 2) (pa_cons (pv 3) pa_nil))))))
    (pss_one (ps_ret (pe_callTy call_tupleF (by rfl) f_tuple bt_tuple (pa_cons (pv 2) pa_nil))))))
/-! ### are_ends -/
def t_are_ends (K : Frg) (C : Addr) : TS :=
  tRet (tAndV (tOp (rIn K false) (tVar 1) (tFld K (tVar 0) "places")) (tAndV (tOp (rIn K false) (tVar 2) (tFld K (tVar 0) "places")) (tOp rNe (tVar 1) (tVar 2))))
theorem b_are_ends {P : Program} {w : World} {K : Frg} {mg : Str → Option Value} {base : Heap} {C : Addr} 
    {cdv : Value} {A : Around} {outer : List Env} {s : Shared} {H : Hp} {E : XK} {fad : Addr} (hr : Room 0 (A.deeper (envOfC "Land.are_ends" (defScope s_are_ends) s.heap.objs.size fad cdv))) :
    PSs (cxOf CX0 P w K mg base N_are_ends "Land.are_ends" (defScope s_are_ends) fad cdv A outer s H E).nox (defBody s_are_ends) (t_are_ends K C) := by
  exact pss_one (ps_ret (pe_and (pe_cmpR op_in_seq (pv 1) (pe_fld (pv 0) (by rfl)) (by rfl)) (pe_and (pe_cmpR op_in_seq (pv 2) (pe_fld (pv 0) (by rfl)) (by rfl)) (pe_one (pe_cmpR op_ne (pv 1) (pv 2) (nomark _))))))
/-! ### checked_link -/
def t_checked_link (K : Frg) (C : Addr) : TS :=
  tSeq (tDrop (tCall (spOf (R_require K C)) [] E0 (tCons (tOp rEq (tCB (rLen2 K) (tCons (tVar 1) tNil)) (tC (.int 4))) tNil))) (tSeq (tAsg (tVar 1) (gTup K 4 (gCons (gName 2) (gCons (gName 3) (gCons (gName 4) (gCons (gName 5) (gNil))))))) (tSeq (tDrop (tCall (spOf (R_require K C)) [] E0 (tCons (tAndV (tCall (spOf (R_is_name K C)) [] E0 (tCons (tVar 2) tNil)) (tMeth C "are_ends" (spOf (R_are_ends K C)) [] E0 (tVar 0) (tCons (tVar 3) (tCons (tVar 4) tNil)))) tNil))) (tRet (tTup (tCons (tVar 2) (tCons (tVar 3) (tCons (tVar 4) (tCons (tCall (spOf (R_checked_times K C)) [] E0 (tCons (tVar 5) (tCons (tCB (rLen2 K) (tCons (tFld K (tVar 0) "winds") tNil)) tNil))) tNil))))))))
theorem b_checked_link {P : Program} {w : World} {K : Frg} {mg : Str → Option Value} {base : Heap} {C : Addr} (f_len : mg "len" = none)
    (c_require : C8.Cal P w K mg base 1 "require" (spOf (R_require K C)) [])
    (c_is_name : C8.Cal P w K mg base 1 "is_name" (spOf (R_is_name K C)) [])
    (c_checked_times : C8.Cal P w K mg base 2 "checked_times" (spOf (R_checked_times K C)) [])
    (m_are_ends : C8.Met P w K mg base 1 C "are_ends" (spOf (R_are_ends K C)) [])
    {cdv : Value} {A : Around} {outer : List Env} {s : Shared} {H : Hp} {E : XK} {fad : Addr} (hr : Room 2 (A.deeper (envOfC "Land.checked_link" (defScope s_checked_link) s.heap.objs.size fad cdv))) :
    PSs (cxOf CX0 P w K mg base N_checked_link "Land.checked_link" (defScope s_checked_link) fad cdv A outer s H E).nox (defBody s_checked_link) (t_checked_link K C) := by
  exact pss_cons (ps_expr (C8.pe_c c_require hr (by decide) (by rfl) (pa_cons (pe_cmpR op_eq (pe_callB call_len_seq (by rfl) f_len bt_len (pa_cons (pv 1) pa_nil)) (pe_int) (nomark _)) pa_nil)))
    (pss_cons (ps_asg (pv 1) (pg_tup rfl (pgs_cons (pg_name (i := 2) sc_checked_link.nd rfl (.inl rfl)) (pgs_cons (pg_name (i := 3) sc_checked_link.nd rfl (.inl rfl)) (pgs_cons (pg_name (i := 4) sc_checked_link.nd rfl (.inl rfl)) (pgs_cons (pg_name (i := 5) sc_checked_link.nd rfl (.inl rfl)) (pgs_nil)))))))
    (pss_cons (ps_expr (C8.pe_c c_require hr (by decide) (by rfl) (pa_cons (pe_and (C8.pe_c c_is_name hr (by decide) (by rfl) (pa_cons (pv 2) pa_nil)) (pe_one (C8.pe_mt (pl := _) m_are_ends hr (by decide) (pv 0) (pa_cons (pv 3) (pa_cons (pv 4) pa_nil))))) pa_nil)))
    (pss_one (ps_ret (pe_tup (pa_cons (pv 2) (pa_cons (pv 3) (pa_cons (pv 4) (pa_cons (C8.pe_c c_checked_times hr (by decide) (by rfl) (pa_cons (pv 5) (pa_cons (pe_callB call_len_seq (by rfl) f_len bt_len (pa_cons (pe_fld (pv 0) (by rfl)) pa_nil)) pa_nil))) pa_nil)))))))))
/-! ### checked_path -/
def t_checked_path (K : Frg) (C : Addr) : TS :=
  tSeq (tDrop (tCall (spOf (R_require K C)) [] E0 (tCons (tOp rEq (tCB (rLen2 K) (tCons (tVar 1) tNil)) (tC (.int 3))) tNil))) (tSeq (tAsg (tVar 1) (gTup K 3 (gCons (gName 2) (gCons (gName 3) (gCons (gName 4) (gNil)))))) (tSeq (tDrop (tCall (spOf (R_require K C)) [] E0 (tCons (tAndV (tMeth C "are_ends" (spOf (R_are_ends K C)) [] E0 (tVar 0) (tCons (tVar 2) (tCons (tVar 3) tNil))) (tChain rLe rLe (tC (.int 1)) (tVar 4) (tC (.int 1000)))) tNil))) (tRet (tTup (tCons (tVar 2) (tCons (tVar 3) (tCons (tVar 4) tNil)))))))
theorem b_checked_path {P : Program} {w : World} {K : Frg} {mg : Str → Option Value} {base : Heap} {C : Addr} {tk_MOST_MINUTES : _} (f_len : mg "len" = none)
    (k_MOST_MINUTES : mg "MOST_MINUTES" = some (.int 1000 tk_MOST_MINUTES))
    (c_require : C8.Cal P w K mg base 1 "require" (spOf (R_require K C)) [])
    (m_are_ends : C8.Met P w K mg base 1 C "are_ends" (spOf (R_are_ends K C)) [])
    {cdv : Value} {A : Around} {outer : List Env} {s : Shared} {H : Hp} {E : XK} {fad : Addr} (hr : Room 1 (A.deeper (envOfC "Land.checked_path" (defScope s_checked_path) s.heap.objs.size fad cdv))) :
    PSs (cxOf CX0 P w K mg base N_checked_path "Land.checked_path" (defScope s_checked_path) fad cdv A outer s H E).nox (defBody s_checked_path) (t_checked_path K C) := by
  exact pss_cons (ps_expr (C8.pe_c c_require hr (by decide) (by rfl) (pa_cons (pe_cmpR op_eq (pe_callB call_len_seq (by rfl) f_len bt_len (pa_cons (pv 1) pa_nil)) (pe_int) (nomark _)) pa_nil)))
    (pss_cons (ps_asg (pv 1) (pg_tup rfl (pgs_cons (pg_name (i := 2) sc_checked_path.nd rfl (.inl rfl)) (pgs_cons (pg_name (i := 3) sc_checked_path.nd rfl (.inl rfl)) (pgs_cons (pg_name (i := 4) sc_checked_path.nd rfl (.inl rfl)) (pgs_nil))))))
    (pss_cons (ps_expr (C8.pe_c c_require hr (by decide) (by rfl) (pa_cons (pe_and (C8.pe_mt (pl := _) m_are_ends hr (by decide) (pv 0) (pa_cons (pv 2) (pa_cons (pv 3) pa_nil))) (pe_one (pe_chain op_le op_le (pe_int) (pv 4) (C8.pe_gc (v := .int 1000) (by rfl) ⟨_, k_MOST_MINUTES, _, rfl⟩)))) pa_nil)))
    (pss_one (ps_ret (pe_tup (pa_cons (pv 2) (pa_cons (pv 3) (pa_cons (pv 4) pa_nil))))))))
/-! ### link_names -/
def t_link_names (K : Frg) (C : Addr) : TS :=
  tRet (tCB (rTupOf2 K) (tCons (tLc (iTup K (tFld K (tVar 0) "links")) (gName 1) (tYes) (tOp (rIxT K) (tVar 1) (tC (.int 0))) [1]) tNil))
theorem b_link_names {P : Program} {w : World} {K : Frg} {mg : Str → Option Value} {base : Heap} {C : Addr} (f_tuple : mg "tuple" = none)
    {cdv : Value} {A : Around} {outer : List Env} {s : Shared} {H : Hp} {E : XK} {fad : Addr} (hr : Room 0 (A.deeper (envOfC "Land.link_names" (defScope s_link_names) s.heap.objs.size fad cdv))) :
    PSs (cxOf CX0 P w K mg base N_link_names "Land.link_names" (defScope s_link_names) fad cdv A outer s H E).nox (defBody s_link_names) (t_link_names K C) := by
  exact pss_one (ps_ret (pe_callTy call_tupleF (by rfl) f_tuple bt_tuple (pa_cons (pe_lc (own := [("link", 1)]) (g := gName 1) (tt := tYes) rfl sc_link_names.nd (pi_tup (pe_fld (pv 0) (by rfl))) (blkOk_by (N := N_link_names) (sc := defScope s_link_names) (by decide +kernel)) (fun _ _ _ _ _ => pg_name (i := 1) sc_link_names.nd rfl (.inl rfl)) (fun _ _ _ _ _ => pts_nil) (fun _ _ _ _ _ => pe_ix ix_tup (pv 1) (pe_int) (fun _ _ => rfl))) pa_nil)))
/-! ### check_place -/
def t_check_place (K : Frg) (C : Addr) : TS :=
  tIfS (tTest (tOp (rIn K true) (tVar 1) (tFld K (tVar 0) "places"))) (tNever) (tNext)
theorem b_check_place {P : Program} {w : World} {K : Frg} {mg : Str → Option Value} {base : Heap} {C : Addr} 
    {cdv : Value} {A : Around} {outer : List Env} {s : Shared} {H : Hp} {E : XK} {fad : Addr} (hr : Room 0 (A.deeper (envOfC "Land.check_place" (defScope s_check_place) s.heap.objs.size fad cdv))) :
    PSs (cxOf CX0 P w K mg base N_check_place "Land.check_place" (defScope s_check_place) fad cdv A outer s H E).nox (defBody s_check_place) (t_check_place K C) := by
  exact pss_one (ps_if (pt_cmpR op_notIn_seq (pv 1) (pe_fld (pv 0) (by rfl)) (by rfl)) (pss_one (ps_never)) (pss_nil))
/-! ### check_wind -/
def t_check_wind (K : Frg) (C : Addr) : TS :=
  tIfS (tTest (tOp (rIn K true) (tVar 1) (tFld K (tVar 0) "winds"))) (tNever) (tNext)
theorem b_check_wind {P : Program} {w : World} {K : Frg} {mg : Str → Option Value} {base : Heap} {C : Addr} 
    {cdv : Value} {A : Around} {outer : List Env} {s : Shared} {H : Hp} {E : XK} {fad : Addr} (hr : Room 0 (A.deeper (envOfC "Land.check_wind" (defScope s_check_wind) s.heap.objs.size fad cdv))) :
    PSs (cxOf CX0 P w K mg base N_check_wind "Land.check_wind" (defScope s_check_wind) fad cdv A outer s H E).nox (defBody s_check_wind) (t_check_wind K C) := by
  exact pss_one (ps_if (pt_cmpR op_notIn_seq (pv 1) (pe_fld (pv 0) (by rfl)) (by rfl)) (pss_one (ps_never)) (pss_nil))
/-! ### walks_from -/
def t_walks_from (K : Frg) (C : Addr) : TS :=
  tSeq (tDrop (tMeth C "check_place" (spOf (R_check_place K C)) [] E0 (tVar 0) (tCons (tVar 1) tNil))) (tSeq (tAsg (tLst (tNil)) (gName 2)) (tSeq (tFor (iTup K (tFld K (tVar 0) "paths")) (gTup K 3 (gCons (gName 3) (gCons (gName 4) (gCons (gName 5) (gNil))))) (tIfS (tTest (tOp rEq (tVar 1) (tVar 3))) (tDrop (tBM K "list" rAppend (tVar 2) (tCons (tTup (tCons (tVar 4) (tCons (tVar 5) tNil))) tNil))) (tIfS (tTest (tOp rEq (tVar 1) (tVar 4))) (tDrop (tBM K "list" rAppend (tVar 2) (tCons (tTup (tCons (tVar 3) (tCons (tVar 5) tNil))) tNil))) (tNext)))) (tRet (tVar 2))))
theorem b_walks_from {P : Program} {w : World} {K : Frg} {mg : Str → Option Value} {base : Heap} {C : Addr} (m_check_place : C8.Met P w K mg base 1 C "check_place" (spOf (R_check_place K C)) [])
    {cdv : Value} {A : Around} {outer : List Env} {s : Shared} {H : Hp} {E : XK} {fad : Addr} (hr : Room 1 (A.deeper (envOfC "Land.walks_from" (defScope s_walks_from) s.heap.objs.size fad cdv))) :
    PSs (cxOf CX0 P w K mg base N_walks_from "Land.walks_from" (defScope s_walks_from) fad cdv A outer s H E).nox (defBody s_walks_from) (t_walks_from K C) := by
  exact pss_cons (ps_expr (C8.pe_mt (pl := _) m_check_place hr (by decide) (pv 0) (pa_cons (pv 1) pa_nil)))
    (pss_cons (ps_set (i := 2) sc_walks_from.nd rfl (.inl rfl) (pe_lst (pa_nil)))
    (pss_cons (ps_for PassesOwn.never rfl (pi_tup (pe_fld (pv 0) (by rfl))) (pg_tup rfl (pgs_cons (pg_name (i := 3) sc_walks_from.nd rfl (.inl rfl)) (pgs_cons (pg_name (i := 4) sc_walks_from.nd rfl (.inl rfl)) (pgs_cons (pg_name (i := 5) sc_walks_from.nd rfl (.inl rfl)) (pgs_nil))))) (pss_one (ps_if (pt_cmpR op_eq (pv 1) (pv 3) (nomark _)) (pss_one (ps_expr (pe_bm PySem.F.plainAttrs_list PySem.F.slot_list_append PySem.F.type_list_append mt_append (pv 2) (pa_cons (pe_tup (pa_cons (pv 4) (pa_cons (pv 5) pa_nil))) pa_nil)))) (pss_one (ps_if (pt_cmpR op_eq (pv 1) (pv 4) (nomark _)) (pss_one (ps_expr (pe_bm PySem.F.plainAttrs_list PySem.F.slot_list_append PySem.F.type_list_append mt_append (pv 2) (pa_cons (pe_tup (pa_cons (pv 3) (pa_cons (pv 5) pa_nil))) pa_nil)))) (pss_nil))))))
    (pss_one (ps_ret (pv 2)))))
/-! ### minutes_between -/
def t_minutes_between (K : Frg) (C : Addr) : TS :=
  tSeq (tDrop (tMeth C "check_place" (spOf (R_check_place K C)) [] E0 (tVar 0) (tCons (tVar 1) tNil))) (tSeq (tDrop (tMeth C "check_place" (spOf (R_check_place K C)) [] E0 (tVar 0) (tCons (tVar 2) tNil))) (tSeq (tFor (iList K (tMeth C "walks_from" (spOf (R_walks_from K C)) [] E0 (tVar 0) (tCons (tVar 1) tNil))) (gTup K 2 (gCons (gName 3) (gCons (gName 4) (gNil)))) (tIfS (tTest (tOp rEq (tVar 3) (tVar 2))) (tRet (tVar 4)) (tNext))) (tRet (tC .non))))
theorem b_minutes_between {P : Program} {w : World} {K : Frg} {mg : Str → Option Value} {base : Heap} {C : Addr} (m_check_place : C8.Met P w K mg base 1 C "check_place" (spOf (R_check_place K C)) [])
    (m_walks_from : C8.Met P w K mg base 2 C "walks_from" (spOf (R_walks_from K C)) [])
    {cdv : Value} {A : Around} {outer : List Env} {s : Shared} {H : Hp} {E : XK} {fad : Addr} (hr : Room 2 (A.deeper (envOfC "Land.minutes_between" (defScope s_minutes_between) s.heap.objs.size fad cdv))) :
    PSs (cxOf CX0 P w K mg base N_minutes_between "Land.minutes_between" (defScope s_minutes_between) fad cdv A outer s H E).nox (defBody s_minutes_between) (t_minutes_between K C) := by
  exact pss_cons (ps_expr (C8.pe_mt (pl := _) m_check_place hr (by decide) (pv 0) (pa_cons (pv 1) pa_nil)))
    (pss_cons (ps_expr (C8.pe_mt (pl := _) m_check_place hr (by decide) (pv 0) (pa_cons (pv 2) pa_nil)))
    (pss_cons (ps_for PassesOwn.never rfl (pi_list (C8.pe_mt (pl := _) m_walks_from hr (by decide) (pv 0) (pa_cons (pv 1) pa_nil))) (pg_tup rfl (pgs_cons (pg_name (i := 3) sc_minutes_between.nd rfl (.inl rfl)) (pgs_cons (pg_name (i := 4) sc_minutes_between.nd rfl (.inl rfl)) (pgs_nil)))) (pss_one (ps_if (pt_cmpR op_eq (pv 3) (pv 2) (nomark _)) (pss_one (ps_ret (pv 4))) (pss_nil))))
    (pss_one (ps_ret (pe_non)))))
/-! ### __init__ -/
def t_init (K : Frg) (C : Addr) : TS :=
  tSeq (tDrop (tCall (spOf (R_require K C)) [] E0 (tCons (tAndV (tChain rLe rLe (tC (.int 1)) (tCB (rLen2 K) (tCons (tVar 1) tNil)) (tC (.int 4))) (tAndV (tCB (rAll K) (tCons (tLc (iList K (tVar 1)) (gName 5) (tYes) (tCall (spOf (R_is_name K C)) [] E0 (tCons (tVar 5) tNil)) [5]) tNil)) (tCall (spOf (R_are_different K C)) [] E0 (tCons (tVar 1) tNil)))) tNil))) (tSeq (tDrop (tCall (spOf (R_require K C)) [] E0 (tCons (tAndV (tChain rLe rLe (tC (.int 1)) (tCB (rLen2 K) (tCons (tVar 2) tNil)) (tC (.int 24))) (tCB (rAll K) (tCons (tLc (iList K (tVar 2)) (gName 6) (tYes) (tCall (spOf (R_is_name K C)) [] E0 (tCons (tVar 6) tNil)) [6]) tNil))) tNil))) (tSeq (tDrop (tCall (spOf (R_require K C)) [] E0 (tCons (tCall (spOf (R_are_different K C)) [] E0 (tCons (tVar 2) tNil)) tNil))) (tSeq (sFld K (tVar 0) (tCB (rTupOf2 K) (tCons (tVar 1) tNil)) "winds") (tSeq (sFld K (tVar 0) (tCB (rTupOf2 K) (tCons (tVar 2) tNil)) "places") (tSeq (tDrop (tCall (spOf (R_require K C)) [] E0 (tCons (tOp rLe (tCB (rLen2 K) (tCons (tVar 3) tNil)) (tC (.int 60))) tNil))) (tSeq (sFld K (tVar 0) (tCB (rTupOf2 K) (tCons (tLc (iList K (tVar 3)) (gName 7) (tYes) (tMeth C "checked_link" (spOf (R_checked_link K C)) [] E0 (tVar 0) (tCons (tVar 7) tNil)) [7]) tNil)) "links") (tSeq (tDrop (tCall (spOf (R_require K C)) [] E0 (tCons (tCall (spOf (R_are_different K C)) [] E0 (tCons (tProp C (spOf (R_link_names K C)) [] E0 (tVar 0)) tNil)) tNil))) (tSeq (tDrop (tCall (spOf (R_require K C)) [] E0 (tCons (tOp rLe (tCB (rLen2 K) (tCons (tVar 4) tNil)) (tC (.int 60))) tNil))) (tSeq (sFld K (tVar 0) (tCB (rTupOf2 K) (tCons (tLc (iList K (tVar 4)) (gName 8) (tYes) (tMeth C "checked_path" (spOf (R_checked_path K C)) [] E0 (tVar 0) (tCons (tVar 8) tNil)) [8]) tNil)) "paths") (tDrop (tCall (spOf (R_require K C)) [] E0 (tCons (tCall (spOf (R_are_different K C)) [] E0 (tCons (tLc (iTup K (tFld K (tVar 0) "paths")) (gName 8) (tYes) (tCB (rTupOf2 K) (tCons (tCB (rSortedT K) (tCons (tSl (rSlT K) (tVar 8) (tNoPart) (tPart (tC (.int 2)))) tNil)) tNil)) [8]) tNil)) tNil))))))))))))
theorem b_init {P : Program} {w : World} {K : Frg} {mg : Str → Option Value} {base : Heap} {C : Addr} {tk_MOST_WINDS : _} {tk_MOST_PLACES : _} {tk_MOST_LINKS : _} {tk_MOST_PATHS : _} (f_len : mg "len" = none)
    (f_all : mg "all" = none)
    (f_tuple : mg "tuple" = none)
    (f_sorted : mg "sorted" = none)
    (k_MOST_WINDS : mg "MOST_WINDS" = some (.int 4 tk_MOST_WINDS))
    (k_MOST_PLACES : mg "MOST_PLACES" = some (.int 24 tk_MOST_PLACES))
    (k_MOST_LINKS : mg "MOST_LINKS" = some (.int 60 tk_MOST_LINKS))
    (k_MOST_PATHS : mg "MOST_PATHS" = some (.int 60 tk_MOST_PATHS))
    (c_is_name : C8.Cal P w K mg base 1 "is_name" (spOf (R_is_name K C)) [])
    (c_are_different : C8.Cal P w K mg base 1 "are_different" (spOf (R_are_different K C)) [])
    (c_require : C8.Cal P w K mg base 1 "require" (spOf (R_require K C)) [])
    (m_checked_link : C8.Met P w K mg base 3 C "checked_link" (spOf (R_checked_link K C)) [])
    (m_checked_path : C8.Met P w K mg base 2 C "checked_path" (spOf (R_checked_path K C)) [])
    (pL : PropL P w K mg base 1 C "link_names" (spOf (R_link_names K C)))
    {cdv : Value} {A : Around} {outer : List Env} {s : Shared} {H : Hp} {E : XK} {fad : Addr} (hr : Room 3 (A.deeper (envOfC "Land.__init__" (defScope s_init) s.heap.objs.size fad cdv))) :
    PSs (cxOf CX0 P w K mg base N_init "Land.__init__" (defScope s_init) fad cdv A outer s H E).nox (defBody s_init) (t_init K C) := by
  exact pss_cons (ps_expr (C8.pe_c c_require hr (by decide) (by rfl) (pa_cons (pe_and (pe_chain op_le op_le (pe_int) (pe_callB call_len_seq (by rfl) f_len bt_len (pa_cons (pv 1) pa_nil)) (C8.pe_gc (v := .int 4) (by rfl) ⟨_, k_MOST_WINDS, _, rfl⟩)) (pe_and (pe_callB (cr_all rfl) (by rfl) f_all bt_all (pa_cons (pe_lc (own := [("wind", 5)]) (g := gName 5) (tt := tYes) rfl sc_init.nd (pi_list (pv 1)) (blkOk_by (N := N_init) (sc := defScope s_init) (by decide +kernel)) (fun _ _ _ _ _ => pg_name (i := 5) sc_init.nd rfl (.inl rfl)) (fun _ _ _ _ _ => pts_nil) (fun _ _ _ _ _ => C8.pe_c c_is_name hr (by decide) (by rfl) (pa_cons (pv 5) pa_nil))) pa_nil)) (pe_one (C8.pe_c c_are_different hr (by decide) (by rfl) (pa_cons (pv 1) pa_nil))))) pa_nil)))
    (pss_cons (ps_expr (C8.pe_c c_require hr (by decide) (by rfl) (pa_cons (pe_and (pe_chain op_le op_le (pe_int) (pe_callB call_len_seq (by rfl) f_len bt_len (pa_cons (pv 2) pa_nil)) (C8.pe_gc (v := .int 24) (by rfl) ⟨_, k_MOST_PLACES, _, rfl⟩)) (pe_one (pe_callB (cr_all rfl) (by rfl) f_all bt_all (pa_cons (pe_lc (own := [("place", 6)]) (g := gName 6) (tt := tYes) rfl sc_init.nd (pi_list (pv 2)) (blkOk_by (N := N_init) (sc := defScope s_init) (by decide +kernel)) (fun _ _ _ _ _ => pg_name (i := 6) sc_init.nd rfl (.inl rfl)) (fun _ _ _ _ _ => pts_nil) (fun _ _ _ _ _ => C8.pe_c c_is_name hr (by decide) (by rfl) (pa_cons (pv 6) pa_nil))) pa_nil)))) pa_nil)))
    (pss_cons (ps_expr (C8.pe_c c_require hr (by decide) (by rfl) (pa_cons (C8.pe_c c_are_different hr (by decide) (by rfl) (pa_cons (pv 2) pa_nil)) pa_nil)))
    (pss_cons (ps_fld (pv 0) (pe_callTy call_tupleF (by rfl) f_tuple bt_tuple (pa_cons (pv 1) pa_nil)) (by rfl))
    (pss_cons (ps_fld (pv 0) (pe_callTy call_tupleF (by rfl) f_tuple bt_tuple (pa_cons (pv 2) pa_nil)) (by rfl))
    (pss_cons (ps_expr (C8.pe_c c_require hr (by decide) (by rfl) (pa_cons (pe_cmpR op_le (pe_callB call_len_seq (by rfl) f_len bt_len (pa_cons (pv 3) pa_nil)) (C8.pe_gc (v := .int 60) (by rfl) ⟨_, k_MOST_LINKS, _, rfl⟩) (nomark _)) pa_nil)))
    (pss_cons (ps_fld (pv 0) (pe_callTy call_tupleF (by rfl) f_tuple bt_tuple (pa_cons (pe_lc (own := [("link", 7)]) (g := gName 7) (tt := tYes) rfl sc_init.nd (pi_list (pv 3)) (blkOk_by (N := N_init) (sc := defScope s_init) (by decide +kernel)) (fun _ _ _ _ _ => pg_name (i := 7) sc_init.nd rfl (.inl rfl)) (fun _ _ _ _ _ => pts_nil) (fun _ _ _ _ _ => C8.pe_mt (pl := _) m_checked_link hr (by decide) (pv 0) (pa_cons (pv 7) pa_nil))) pa_nil)) (by rfl))
    (pss_cons (ps_expr (C8.pe_c c_require hr (by decide) (by rfl) (pa_cons (C8.pe_c c_are_different hr (by decide) (by rfl) (pa_cons (pe_propC pL hr (by decide) (pv 0) (by rfl)) pa_nil)) pa_nil)))
    (pss_cons (ps_expr (C8.pe_c c_require hr (by decide) (by rfl) (pa_cons (pe_cmpR op_le (pe_callB call_len_seq (by rfl) f_len bt_len (pa_cons (pv 4) pa_nil)) (C8.pe_gc (v := .int 60) (by rfl) ⟨_, k_MOST_PATHS, _, rfl⟩) (nomark _)) pa_nil)))
    (pss_cons (ps_fld (pv 0) (pe_callTy call_tupleF (by rfl) f_tuple bt_tuple (pa_cons (pe_lc (own := [("path", 8)]) (g := gName 8) (tt := tYes) rfl sc_init.nd (pi_list (pv 4)) (blkOk_by (N := N_init) (sc := defScope s_init) (by decide +kernel)) (fun _ _ _ _ _ => pg_name (i := 8) sc_init.nd rfl (.inl rfl)) (fun _ _ _ _ _ => pts_nil) (fun _ _ _ _ _ => C8.pe_mt (pl := _) m_checked_path hr (by decide) (pv 0) (pa_cons (pv 8) pa_nil))) pa_nil)) (by rfl))
    (pss_one (ps_expr (C8.pe_c c_require hr (by decide) (by rfl) (pa_cons (C8.pe_c c_are_different hr (by decide) (by rfl) (pa_cons (pe_lc (own := [("path", 8)]) (g := gName 8) (tt := tYes) rfl sc_init.nd (pi_tup (pe_fld (pv 0) (by rfl))) (blkOk_by (N := N_init) (sc := defScope s_init) (by decide +kernel)) (fun _ _ _ _ _ => pg_name (i := 8) sc_init.nd rfl (.inl rfl)) (fun _ _ _ _ _ => pts_nil) (fun _ _ _ _ _ => pe_callTy call_tupleF (by rfl) f_tuple bt_tuple (pa_cons (pe_callB cr_sortedT (by rfl) f_sorted bt_sorted (pa_cons (pe_slice sl_tup (pv 8) (po_none) (po_some (pe_int))) pa_nil)) pa_nil))) pa_nil)) pa_nil)))))))))))))
/-! ### check_winds -/
def t_check_winds (K : Frg) (C : Addr) : TS :=
  tFor (iList K (tVar 1)) (gTup K 2 (gCons (gName 2) (gCons (gName 3) (gNil)))) (tDrop (tMeth C "check_wind" (spOf (R_check_wind K C)) [] E0 (tVar 0) (tCons (tVar 3) tNil)))
theorem b_check_winds {P : Program} {w : World} {K : Frg} {mg : Str → Option Value} {base : Heap} {C : Addr} (m_check_wind : C8.Met P w K mg base 1 C "check_wind" (spOf (R_check_wind K C)) [])
    {cdv : Value} {A : Around} {outer : List Env} {s : Shared} {H : Hp} {E : XK} {fad : Addr} (hr : Room 1 (A.deeper (envOfC "check_winds" (defScope s_check_winds) s.heap.objs.size fad cdv))) :
    PSs (cxOf CX0 P w K mg base N_check_winds "check_winds" (defScope s_check_winds) fad cdv A outer s H E).nox (defBody s_check_winds) (t_check_winds K C) := by
  exact pss_one (ps_for PassesOwn.never rfl (pi_list (pv 1)) (pg_tup rfl (pgs_cons (pg_name (i := 2) sc_check_winds.nd rfl (.inl rfl)) (pgs_cons (pg_name (i := 3) sc_check_winds.nd rfl (.inl rfl)) (pgs_nil)))) (pss_one (ps_expr (C8.pe_mt (pl := _) m_check_wind hr (by decide) (pv 0) (pa_cons (pv 3) pa_nil)))))
/-! ### check_changes -/
def t_check_changes (K : Frg) (C : Addr) : TS :=
  tSeq (tAsg (tLc (iList K (tVar 0)) (gTup K 2 (gCons (gName 2) (gCons (gName 3) (gNil)))) (tYes) (tVar 2) [2, 3]) (gName 1)) (tSeq (tIfS (tOr (tNot (tTest (tChain rLe rLe (tC (.int 1)) (tCB (rLen2 K) (tCons (tVar 1) tNil)) (tC (.int 40))))) (tOr (tTest (tOp rNe (tOp (rIxL K) (tVar 1) (tC (.int 0))) (tC (.int 0)))) (tTest (tOp rGt (tOp (rIxL K) (tVar 1) (tUn (rU fun i => .int (-i)) (tC (.int 1)))) (tC (.int 100000)))))) (tNever) (tNext)) (tIfS (tB (tCB (rAny K) (tCons (tLc (iZip K (tCons (tVar 1) (tCons (tSl (rSlL K) (tVar 1) (tPart (tC (.int 1))) (tNoPart)) tNil))) (gTup K 2 (gCons (gName 2) (gCons (gName 4) (gNil)))) (tYes) (tOp rLe (tVar 4) (tVar 2)) [2, 4]) tNil))) (tNever) (tNext)))
theorem b_check_changes {P : Program} {w : World} {K : Frg} {mg : Str → Option Value} {base : Heap} {C : Addr} {tk_MOST_CHANGES : _} {tk_MOST_MINUTE : _} (f_len : mg "len" = none)
    (f_zip : mg "zip" = none)
    (f_any : mg "any" = none)
    (k_MOST_CHANGES : mg "MOST_CHANGES" = some (.int 40 tk_MOST_CHANGES))
    (k_MOST_MINUTE : mg "MOST_MINUTE" = some (.int 100000 tk_MOST_MINUTE))
    {cdv : Value} {A : Around} {outer : List Env} {s : Shared} {H : Hp} {E : XK} {fad : Addr} (hr : Room 0 (A.deeper (envOfC "check_changes" (defScope s_check_changes) s.heap.objs.size fad cdv))) :
    PSs (cxOf CX0 P w K mg base N_check_changes "check_changes" (defScope s_check_changes) fad cdv A outer s H E).nox (defBody s_check_changes) (t_check_changes K C) := by
  exact pss_cons (ps_setLc (i := 1) (own := [("minute", 2), ("_", 3)]) (g := gTup K 2 (gCons (gName 2) (gCons (gName 3) (gNil)))) (tt := tYes) rfl sc_check_changes.nd rfl rfl (sw_true rfl rfl rfl (by decide +kernel)) (pi_list (pv 0)) (blkOk_by (N := N_check_changes) (sc := defScope s_check_changes) (by decide +kernel)) (fun _ _ _ _ _ => pg_tup rfl (pgs_cons (pg_name (i := 2) sc_check_changes.nd rfl (.inl rfl)) (pgs_cons (pg_name (i := 3) sc_check_changes.nd rfl (.inl rfl)) (pgs_nil)))) (fun _ _ _ _ _ => pts_nil) (fun _ _ _ _ _ => pv 2))
    (pss_cons (ps_if ((pw_or (pt_not (pt_chain op_le op_le (pe_int) (pe_callB call_len_seq (by rfl) f_len bt_len (pa_cons (pv 1) pa_nil)) (C8.pe_gc (v := .int 40) (by rfl) ⟨_, k_MOST_CHANGES, _, rfl⟩))) (pw_or (pt_cmpR op_ne (pe_ix ix_list (pv 1) (pe_int) (fun _ _ => rfl)) (pe_int) (nomark _)) (pw_or1 (pt_cmpR op_gt (pe_ix ix_list (pv 1) (pe_un un_neg (pe_int)) (fun _ _ => rfl)) (C8.pe_gc (v := .int 100000) (by rfl) ⟨_, k_MOST_MINUTE, _, rfl⟩) (nomark _))))).pt) (pss_one (ps_never)) (pss_nil))
    (pss_one (ps_if (pt_val (pe_callB (cr_any rfl) (by rfl) f_any bt_any (pa_cons (pe_lc (own := [("minute", 2), ("later", 4)]) (g := gTup K 2 (gCons (gName 2) (gCons (gName 4) (gNil)))) (tt := tYes) rfl sc_check_changes.nd (pi_zip (by rfl) f_zip (pa_cons (pv 1) (pa_cons (pe_slice sl_list (pv 1) (po_some (pe_int)) (po_none)) pa_nil))) (blkOk_by (N := N_check_changes) (sc := defScope s_check_changes) (by decide +kernel)) (fun _ _ _ _ _ => pg_tup rfl (pgs_cons (pg_name (i := 2) sc_check_changes.nd rfl (.inl rfl)) (pgs_cons (pg_name (i := 4) sc_check_changes.nd rfl (.inl rfl)) (pgs_nil)))) (fun _ _ _ _ _ => pts_nil) (fun _ _ _ _ _ => pe_cmpR op_le (pv 4) (pv 2) (nomark _))) pa_nil))) (pss_one (ps_never)) (pss_nil))))
/-! ### blowing -/
def t_blowing (K : Frg) (C : Addr) : TS :=
  tRet (tOp (rIxL K) (tLc (iList K (tVar 0)) (gTup K 2 (gCons (gName 2) (gCons (gName 3) (gNil)))) (tTest (tOp rLe (tVar 2) (tVar 1))) (tVar 3) [2, 3]) (tUn (rU fun i => .int (-i)) (tC (.int 1))))
theorem b_blowing {P : Program} {w : World} {K : Frg} {mg : Str → Option Value} {base : Heap} {C : Addr} 
    {cdv : Value} {A : Around} {outer : List Env} {s : Shared} {H : Hp} {E : XK} {fad : Addr} (hr : Room 0 (A.deeper (envOfC "blowing" (defScope s_blowing) s.heap.objs.size fad cdv))) :
    PSs (cxOf CX0 P w K mg base N_blowing "blowing" (defScope s_blowing) fad cdv A outer s H E).nox (defBody s_blowing) (t_blowing K C) := by
  exact pss_one (ps_ret (pe_ix ix_list (pe_lc (own := [("start", 2), ("wind", 3)]) (g := gTup K 2 (gCons (gName 2) (gCons (gName 3) (gNil)))) (tt := tTest (tOp rLe (tVar 2) (tVar 1))) rfl sc_blowing.nd (pi_list (pv 0)) (blkOk_by (N := N_blowing) (sc := defScope s_blowing) (by decide +kernel)) (fun _ _ _ _ _ => pg_tup rfl (pgs_cons (pg_name (i := 2) sc_blowing.nd rfl (.inl rfl)) (pgs_cons (pg_name (i := 3) sc_blowing.nd rfl (.inl rfl)) (pgs_nil)))) (fun _ _ _ _ _ => pts_one (pt_cmpR op_le (pv 2) (pv 1) (nomark _))) (fun _ _ _ _ _ => pv 3)) (pe_un un_neg (pe_int)) (fun _ _ => rfl)))
/-! ### chances -/
def t_chances (K : Frg) (C : Addr) : TS :=
  tRet (tOp (rCat) (tLst (tCons (tVar 1) tNil)) (tLc (iList K (tVar 0)) (gTup K 2 (gCons (gName 2) (gCons (gName 3) (gNil)))) (tTest (tOp rGt (tVar 2) (tVar 1))) (tVar 2) [2, 3]))
theorem b_chances {P : Program} {w : World} {K : Frg} {mg : Str → Option Value} {base : Heap} {C : Addr} 
    {cdv : Value} {A : Around} {outer : List Env} {s : Shared} {H : Hp} {E : XK} {fad : Addr} (hr : Room 0 (A.deeper (envOfC "chances" (defScope s_chances) s.heap.objs.size fad cdv))) :
    PSs (cxOf CX0 P w K mg base N_chances "chances" (defScope s_chances) fad cdv A outer s H E).nox (defBody s_chances) (t_chances K C) := by
  exact pss_one (ps_ret (pe_op op_cat (pe_lst (pa_cons (pv 1) pa_nil)) (pe_lc (own := [("start", 2), ("_", 3)]) (g := gTup K 2 (gCons (gName 2) (gCons (gName 3) (gNil)))) (tt := tTest (tOp rGt (tVar 2) (tVar 1))) rfl sc_chances.nd (pi_list (pv 0)) (blkOk_by (N := N_chances) (sc := defScope s_chances) (by decide +kernel)) (fun _ _ _ _ _ => pg_tup rfl (pgs_cons (pg_name (i := 2) sc_chances.nd rfl (.inl rfl)) (pgs_cons (pg_name (i := 3) sc_chances.nd rfl (.inl rfl)) (pgs_nil)))) (fun _ _ _ _ _ => pts_one (pt_cmpR op_gt (pv 2) (pv 1) (nomark _))) (fun _ _ _ _ _ => pv 2))))
/-! ### least_numbers -/
def t_least_numbers (K : Frg) (C : Addr) : TS :=
  tRet (tCB (rTupOf2 K) (tCons (tLc (iTup K (tFld K (tVar 0) "links")) (gName 1) (tYes) (tCB (rTupOf2 K) (tCons (tLc (iTup K (tOp (rIxT K) (tVar 1) (tC (.int 3)))) (gName 2) (tYes) (tIf (tB (tIsN (tVar 2))) (tC .non) (tOp (rIxT K) (tVar 2) (tC (.int 0)))) [2]) tNil)) [1]) tNil))
theorem b_least_numbers {P : Program} {w : World} {K : Frg} {mg : Str → Option Value} {base : Heap} {C : Addr} (f_tuple : mg "tuple" = none)
    {cdv : Value} {A : Around} {outer : List Env} {s : Shared} {H : Hp} {E : XK} {fad : Addr} (hr : Room 0 (A.deeper (envOfC "least_numbers" (defScope s_least_numbers) s.heap.objs.size fad cdv))) :
    PSs (cxOf CX0 P w K mg base N_least_numbers "least_numbers" (defScope s_least_numbers) fad cdv A outer s H E).nox (defBody s_least_numbers) (t_least_numbers K C) := by
  exact pss_one (ps_ret (pe_callTy call_tupleF (by rfl) f_tuple bt_tuple (pa_cons (pe_lc (own := [("link", 1)]) (g := gName 1) (tt := tYes) rfl sc_least_numbers.nd (pi_tup (pe_fld (pv 0) (by rfl))) (blkOk_by (N := N_least_numbers) (sc := defScope s_least_numbers) (by decide +kernel)) (fun _ _ _ _ _ => pg_name (i := 1) sc_least_numbers.nd rfl (.inl rfl)) (fun _ _ _ _ _ => pts_nil) (fun _ _ _ _ _ => pe_callTy call_tupleF (by rfl) f_tuple bt_tuple (pa_cons (pe_lc (own := [("pair", 2)]) (g := gName 2) (tt := tYes) rfl sc_least_numbers.nd (pi_tup (pe_ix ix_tup (pv 1) (pe_int) (fun _ _ => rfl))) (blkOk_by (N := N_least_numbers) (by kernel_rfl)) (fun _ _ _ _ _ => pg_name (i := 2) sc_least_numbers.nd rfl (.inl rfl)) (fun _ _ _ _ _ => pts_nil) (fun _ _ _ _ _ => pe_ifExp (pt_cmp (pc_isN (pv 2))) (pe_non) (pe_ix ix_tup (pv 2) (pe_int) (fun _ _ => rfl)))) pa_nil))) pa_nil)))
/-! ### check_rows -/
def t_check_rows (K : Frg) (C : Addr) : TS :=
  tFor (iList K (tVar 1)) (gTup K 2 (gCons (gName 2) (gCons (gName 3) (gNil)))) (tDrop (tMeth C "check_place" (spOf (R_check_place K C)) [] E0 (tVar 0) (tCons (tVar 2) tNil)))
theorem b_check_rows {P : Program} {w : World} {K : Frg} {mg : Str → Option Value} {base : Heap} {C : Addr} (m_check_place : C8.Met P w K mg base 1 C "check_place" (spOf (R_check_place K C)) [])
    {cdv : Value} {A : Around} {outer : List Env} {s : Shared} {H : Hp} {E : XK} {fad : Addr} (hr : Room 1 (A.deeper (envOfC "check_rows" (defScope s_check_rows) s.heap.objs.size fad cdv))) :
    PSs (cxOf CX0 P w K mg base N_check_rows "check_rows" (defScope s_check_rows) fad cdv A outer s H E).nox (defBody s_check_rows) (t_check_rows K C) := by
  exact pss_one (ps_for PassesOwn.never rfl (pi_list (pv 1)) (pg_tup rfl (pgs_cons (pg_name (i := 2) sc_check_rows.nd rfl (.inl rfl)) (pgs_cons (pg_name (i := 3) sc_check_rows.nd rfl (.inl rfl)) (pgs_nil)))) (pss_one (ps_expr (C8.pe_mt (pl := _) m_check_place hr (by decide) (pv 0) (pa_cons (pv 2) pa_nil)))))
/-! ### least_minutes -/
def t_least_minutes (K : Frg) (C : Addr) : TS :=
  tSeq (tAsg (tDNewK) (gName 1)) (tSeq (tFor (iList K (tVar 0)) (gTup K 2 (gCons (gName 2) (gCons (gName 3) (gNil)))) (sDPut (tVar 1) (tVar 2) (tCB (rMin2) (tCons (tVar 3) (tCons (tDGet2 (tVar 1) (tVar 2) (tVar 3)) tNil))))) (tRet (tVar 1)))
theorem b_least_minutes {P : Program} {w : World} {K : Frg} {mg : Str → Option Value} {base : Heap} {C : Addr} (f_min : mg "min" = none)
    {cdv : Value} {A : Around} {outer : List Env} {s : Shared} {H : Hp} {E : XK} {fad : Addr} (hr : Room 0 (A.deeper (envOfC "least_minutes" (defScope s_least_minutes) s.heap.objs.size fad cdv))) :
    PSs (cxOf CX0 P w K mg base N_least_minutes "least_minutes" (defScope s_least_minutes) fad cdv A outer s H E).nox (defBody s_least_minutes) (t_least_minutes K C) := by
  have hu1 : (A.deeper (envOfC "least_minutes" (defScope s_least_minutes) s.heap.objs.size fad cdv)).units + 1 < cLine := by have := hr.units; omega
  have hu3 : (A.deeper (envOfC "least_minutes" (defScope s_least_minutes) s.heap.objs.size fad cdv)).units + 1 + 1 < cLine := by have := hr.units; omega
  exact pss_cons (ps_set (i := 1) sc_least_minutes.nd rfl (.inl rfl) (pe_dnewK))
    (pss_cons (ps_for PassesOwn.never rfl (pi_list (pv 0)) (pg_tup rfl (pgs_cons (pg_name (i := 2) sc_least_minutes.nd rfl (.inl rfl)) (pgs_cons (pg_name (i := 3) sc_least_minutes.nd rfl (.inl rfl)) (pgs_nil)))) (pss_one (ps_dput hu1 (pv 1) (pv 2) (pe_callB (call_min2 rfl) (by rfl) f_min bt_min (pa_cons (pv 3) (pa_cons (pe_dget2 hu1 (pv 1) (pv 2) (pv 3) ⟨rfl, rfl, rfl, rfl⟩) pa_nil))) (by rfl))))
    (pss_one (ps_ret (pv 1))))
/-! ### caught -/
def t_caught (K : Frg) (C : Addr) : TS :=
  tSeq (tAsg (tLst (tNil)) (gName 4)) (tSeq (tFor (iList K (tCall (spOf (R_chances K C)) [] E0 (tCons (tVar 1) (tCons (tVar 3) tNil)))) (gName 5) (tSeq (tAsg (tOp (rIxT K) (tVar 2) (tBT K (rTIx K) (tFld K (tVar 0) "winds") (tCons (tCall (spOf (R_blowing K C)) [] E0 (tCons (tVar 1) (tCons (tVar 5) tNil))) tNil))) (gName 6)) (tIfS (tB (tNotN (tVar 6))) (tDrop (tBM K "list" rAppend (tVar 4) (tCons (tOp (rAddI) (tVar 5) (tVar 6)) tNil))) (tNext)))) (tRet (tCKw (rMinDf K) (tCons (tVar 4) tNil) (tCons (tC .non) tNil))))
theorem b_caught {P : Program} {w : World} {K : Frg} {mg : Str → Option Value} {base : Heap} {C : Addr} (f_min : mg "min" = none)
    (c_chances : C8.Cal P w K mg base 1 "chances" (spOf (R_chances K C)) [])
    (c_blowing : C8.Cal P w K mg base 1 "blowing" (spOf (R_blowing K C)) [])
    {cdv : Value} {A : Around} {outer : List Env} {s : Shared} {H : Hp} {E : XK} {fad : Addr} (hr : Room 1 (A.deeper (envOfC "caught" (defScope s_caught) s.heap.objs.size fad cdv))) :
    PSs (cxOf CX0 P w K mg base N_caught "caught" (defScope s_caught) fad cdv A outer s H E).nox (defBody s_caught) (t_caught K C) := by
  have hu1 : (A.deeper (envOfC "caught" (defScope s_caught) s.heap.objs.size fad cdv)).units + 1 < cLine := by have := hr.units; omega
  have hu3 : (A.deeper (envOfC "caught" (defScope s_caught) s.heap.objs.size fad cdv)).units + 1 + 1 < cLine := by have := hr.units; omega
  exact pss_cons (ps_set (i := 4) sc_caught.nd rfl (.inl rfl) (pe_lst (pa_nil)))
    (pss_cons (ps_for PassesOwn.never rfl (pi_list (C8.pe_c c_chances hr (by decide) (by rfl) (pa_cons (pv 1) (pa_cons (pv 3) pa_nil)))) (pg_name (i := 5) sc_caught.nd rfl (.inl rfl)) (pss_cons (ps_set (i := 6) sc_caught.nd rfl (.inl rfl) (pe_ix ix_tup (pv 2) (pe_bt PySem.F.slot_tuple_index PySem.F.type_tuple_index mt_tup_index (pe_fld (pv 0) (by rfl)) (pa_cons (C8.pe_c c_blowing hr (by decide) (by rfl) (pa_cons (pv 1) (pa_cons (pv 5) pa_nil))) pa_nil)) (fun _ _ => rfl)))
    (pss_one (ps_if (pt_cmp (pc_notN (pv 6))) (pss_one (ps_expr (pe_bm PySem.F.plainAttrs_list PySem.F.slot_list_append PySem.F.type_list_append mt_append (pv 4) (pa_cons (pe_op op_add (pv 5) (pv 6)) pa_nil)))) (pss_nil)))))
    (pss_one (ps_ret (pe_callBK (cr_minDf rfl hu1) (by rfl) f_min bt_min (pa_cons (pv 4) pa_nil) (pk_cons (pe_non) pk_nil)))))
/-! ### spread -/
def t_spread (K : Frg) (C : Addr) : TS :=
  tSeq (tAsg (tCall (spOf (R_least_minutes K C)) [] E0 (tCons (tVar 3) tNil)) (gName 5)) (tSeq (tAsg (tDNewK) (gName 6)) (tSeq (tFor (iItems (tFrz (tCall (spOf (R_least_minutes K C)) [] E0 (tCons (tVar 2) tNil)))) (gTup K 2 (gCons (gName 7) (gCons (gName 8) (gNil)))) (tIfS (tOr (tB (tDNotIn (tVar 7) (tVar 5))) (tTest (tOp rLt (tVar 8) (tDGet (tVar 5) (tVar 7))))) (sDPut (tVar 6) (tVar 7) (tVar 8)) (tNext))) (tSeq (tAsg (tDNewK) (gName 9)) (tSeq (tWhile (tTr K (tVar 6)) (tSeq (tAsg (tCB (rMinO K (Int × Str)) (tCons (tLockE (tLc (iItems (tVar 6)) (gTup K 2 (gCons (gName 7) (gCons (gName 8) (gNil)))) (tYes) (tTup (tCons (tVar 8) (tCons (tVar 7) tNil))) [7, 8])) tNil)) (gTup K 2 (gCons (gName 8) (gCons (gName 7) (gNil))))) (tSeq (tDrop (tDPop1 (tVar 6) (tVar 7))) (tSeq (sDPut (tVar 9) (tVar 7) (tVar 8)) (tFor (RZ.iZipA K (tCons (tFld K (tVar 0) "links") (tCons (tVar 4) tNil))) (gTup K 2 (gCons (gName 10) (gCons (gName 11) (gNil)))) (tSeq (tAsg (tIf (tAnd (tTest (tOp rEq (tOp (rIxT K) (tVar 10) (tC (.int 1))) (tVar 7))) (tB (tDNotIn (tOp (rIxT K) (tVar 10) (tC (.int 2))) (tVar 9)))) (tCall (spOf (R_caught K C)) [] E0 (tCons (tVar 0) (tCons (tVar 1) (tCons (tVar 11) (tCons (tVar 8) tNil))))) (tC .non)) (gName 12)) (tIfS (tAnd (tB (tNotN (tVar 12))) (tOr (tB (tDNotIn (tOp (rIxT K) (tVar 10) (tC (.int 2))) (tVar 5))) (tTest (tOp rLt (tVar 12) (tDGet (tVar 5) (tOp (rIxT K) (tVar 10) (tC (.int 2)))))))) (sDPut (tVar 6) (tOp (rIxT K) (tVar 10) (tC (.int 2))) (tCB (rMin2) (tCons (tVar 12) (tCons (tDGet2 (tVar 6) (tOp (rIxT K) (tVar 10) (tC (.int 2))) (tVar 12)) tNil)))) (tNext)))))))) (tRet (tVar 9))))))
theorem b_spread {P : Program} {w : World} {K : Frg} {mg : Str → Option Value} {base : Heap} {C : Addr} (f_min : mg "min" = none)
    (f_zip : mg "zip" = none)
    (c_least_minutes : C8.Cal P w K mg base 1 "least_minutes" (spOf (R_least_minutes K C)) [])
    (c_caught : C8.Cal P w K mg base 2 "caught" (spOf (R_caught K C)) [])
    {cdv : Value} {A : Around} {outer : List Env} {s : Shared} {H : Hp} {E : XK} {fad : Addr} (hr : Room 2 (A.deeper (envOfC "spread" (defScope s_spread) s.heap.objs.size fad cdv))) :
    PSs (cxOf CX0 P w K mg base N_spread "spread" (defScope s_spread) fad cdv A outer s H E).nox (defBody s_spread) (t_spread K C) := by
  have hu1 : (A.deeper (envOfC "spread" (defScope s_spread) s.heap.objs.size fad cdv)).units + 1 < cLine := by have := hr.units; omega
  have hu3 : (A.deeper (envOfC "spread" (defScope s_spread) s.heap.objs.size fad cdv)).units + 1 + 1 < cLine := by have := hr.units; omega
  exact pss_cons (ps_set (i := 5) sc_spread.nd rfl (.inl rfl) (C8.pe_c c_least_minutes hr (by decide) (by rfl) (pa_cons (pv 3) pa_nil)))
    (pss_cons (ps_set (i := 6) sc_spread.nd rfl (.inl rfl) (pe_dnewK))
    (pss_cons (ps_for PassesOwn.never rfl (pi_items (pe_frz (C8.pe_c c_least_minutes hr (by decide) (by rfl) (pa_cons (pv 2) pa_nil)))) (pg_tup rfl (pgs_cons (pg_name (i := 7) sc_spread.nd rfl (.inl rfl)) (pgs_cons (pg_name (i := 8) sc_spread.nd rfl (.inl rfl)) (pgs_nil)))) (pss_one (ps_if ((pw_or (pt_cmp (pc_dnotin hu1 (pv 7) (pv 5))) (pw_or1 (pt_cmpR op_lt (pv 8) (pe_dget hu1 (pv 5) (pv 7) (fun _ _ => rfl)) (nomark _)))).pt) (pss_one (ps_dput hu1 (pv 6) (pv 7) (pv 8) (by rfl))) (pss_nil))))
    (pss_cons (ps_set (i := 9) sc_spread.nd rfl (.inl rfl) (pe_dnewK))
    (pss_cons (ps_while PassesOwn.never (pt_truth (pv 6) (fun _ => rfl)) (pss_cons (ps_asg (pe_callB (cr_minO (Int × Str) rfl (hu3)) (by rfl) f_min bt_min (pa_cons (pe_lock (pe_lc (own := [("place", 7), ("minute", 8)]) (g := gTup K 2 (gCons (gName 7) (gCons (gName 8) (gNil)))) (tt := tYes) rfl sc_spread.nd (pi_items (pv 6)) (blkOk_by (N := N_spread) (sc := defScope s_spread) (by decide +kernel)) (fun _ _ _ _ _ => pg_tup rfl (pgs_cons (pg_name (i := 7) sc_spread.nd rfl (.inl rfl)) (pgs_cons (pg_name (i := 8) sc_spread.nd rfl (.inl rfl)) (pgs_nil)))) (fun _ _ _ _ _ => pts_nil) (fun _ _ _ _ _ => pe_tup (pa_cons (pv 8) (pa_cons (pv 7) pa_nil))))) pa_nil)) (pg_tup rfl (pgs_cons (pg_name (i := 8) sc_spread.nd rfl (.inl rfl)) (pgs_cons (pg_name (i := 7) sc_spread.nd rfl (.inl rfl)) (pgs_nil)))))
    (pss_cons (ps_expr (pe_dpop1 (pv 6) (pv 7) ⟨rfl, rfl, rfl, rfl⟩))
    (pss_cons (ps_dput hu1 (pv 9) (pv 7) (pv 8) (by rfl))
    (pss_one (ps_for PassesOwn.never rfl (RZ.pi_zipA (by rfl) f_zip (pa_cons (pe_fld (pv 0) (by rfl)) (pa_cons (pv 4) pa_nil))) (pg_tup rfl (pgs_cons (pg_name (i := 10) sc_spread.nd rfl (.inl rfl)) (pgs_cons (pg_name (i := 11) sc_spread.nd rfl (.inl rfl)) (pgs_nil)))) (pss_cons (ps_set (i := 12) sc_spread.nd rfl (.inl rfl) (pe_ifExp ((pw_and (pt_cmpR op_eq (pe_ix ix_tup (pv 10) (pe_int) (fun _ _ => rfl)) (pv 7) (nomark _)) (pw_and1 (pt_cmp (pc_dnotin hu1 (pe_ix ix_tup (pv 10) (pe_int) (fun _ _ => rfl)) (pv 9))))).pt) (C8.pe_c c_caught hr (by decide) (by rfl) (pa_cons (pv 0) (pa_cons (pv 1) (pa_cons (pv 11) (pa_cons (pv 8) pa_nil))))) (pe_non)))
    (pss_one (ps_if ((pw_and (pt_cmp (pc_notN (pv 12))) (pw_and1 ((pw_or (pt_cmp (pc_dnotin hu1 (pe_ix ix_tup (pv 10) (pe_int) (fun _ _ => rfl)) (pv 5))) (pw_or1 (pt_cmpR op_lt (pv 12) (pe_dget hu1 (pv 5) (pe_ix ix_tup (pv 10) (pe_int) (fun _ _ => rfl)) (fun _ _ => rfl)) (nomark _)))).pt))).pt) (pss_one (ps_dput hu1 (pv 6) (pe_ix ix_tup (pv 10) (pe_int) (fun _ _ => rfl)) (pe_callB (call_min2 rfl) (by rfl) f_min bt_min (pa_cons (pv 12) (pa_cons (pe_dget2 hu1 (pv 6) (pe_ix ix_tup (pv 10) (pe_int) (fun _ _ => rfl)) (pv 12) ⟨rfl, rfl, rfl, rfl⟩) pa_nil))) (by rfl))) (pss_nil))))))))))
    (pss_one (ps_ret (pv 9)))))))
/-! ### check_asked -/
def t_check_asked (K : Frg) (C : Addr) : TS :=
  tSeq (tDrop (tCall (spOf (R_check_winds K C)) [] E0 (tCons (tVar 0) (tCons (tVar 1) tNil)))) (tSeq (tFor (iTup K (tTup (tCons (tVar 2) (tCons (tVar 3) (tCons (tVar 4) tNil))))) (gName 5) (tDrop (tCall (spOf (R_check_rows K C)) [] E0 (tCons (tVar 0) (tCons (tVar 5) tNil))))) (tDrop (tCall (spOf (R_check_changes K C)) [] E0 (tCons (tVar 1) tNil))))
theorem b_check_asked {P : Program} {w : World} {K : Frg} {mg : Str → Option Value} {base : Heap} {C : Addr} (c_check_winds : C8.Cal P w K mg base 2 "check_winds" (spOf (R_check_winds K C)) [])
    (c_check_rows : C8.Cal P w K mg base 2 "check_rows" (spOf (R_check_rows K C)) [])
    (c_check_changes : C8.Cal P w K mg base 1 "check_changes" (spOf (R_check_changes K C)) [])
    {cdv : Value} {A : Around} {outer : List Env} {s : Shared} {H : Hp} {E : XK} {fad : Addr} (hr : Room 2 (A.deeper (envOfC "check_asked" (defScope s_check_asked) s.heap.objs.size fad cdv))) :
    PSs (cxOf CX0 P w K mg base N_check_asked "check_asked" (defScope s_check_asked) fad cdv A outer s H E).nox (defBody s_check_asked) (t_check_asked K C) := by
  exact pss_cons (ps_expr (C8.pe_c c_check_winds hr (by decide) (by rfl) (pa_cons (pv 0) (pa_cons (pv 1) pa_nil))))
    (pss_cons (ps_for PassesOwn.never rfl (pi_tup (pe_tup (pa_cons (pv 2) (pa_cons (pv 3) (pa_cons (pv 4) pa_nil))))) (pg_name (i := 5) sc_check_asked.nd rfl (.inl rfl)) (pss_one (ps_expr (C8.pe_c c_check_rows hr (by decide) (by rfl) (pa_cons (pv 0) (pa_cons (pv 5) pa_nil))))))
    (pss_one (ps_expr (C8.pe_c c_check_changes hr (by decide) (by rfl) (pa_cons (pv 1) pa_nil)))))
/-! ### first_arrivals -/
def t_first_arrivals (K : Frg) (C : Addr) : TS :=
  tSeq (tAsg (tDNewK) (gName 4)) (tSeq (tAsg (tDNewK) (gName 5)) (tSeq (tIfS (tOr (tB (tDNotIn (tVar 2) (tVar 1))) (tTest (tOp rLt (tVar 3) (tDGet (tVar 1) (tVar 2))))) (tSeq (sDPut (tVar 4) (tVar 2) (tVar 3)) (sDPut (tVar 5) (tVar 2) (tC .non))) (tNext)) (tSeq (tAsg (tDNewK) (gName 6)) (tSeq (tWhile (tTr K (tVar 4)) (tSeq (tAsg (tCB (rMinO K (Int × Str)) (tCons (tLockE (tLc (iItems (tVar 4)) (gTup K 2 (gCons (gName 7) (gCons (gName 8) (gNil)))) (tYes) (tTup (tCons (tVar 8) (tCons (tVar 7) tNil))) [7, 8])) tNil)) (gTup K 2 (gCons (gName 8) (gCons (gName 7) (gNil))))) (tSeq (tDrop (tDPop1 (tVar 4) (tVar 7))) (tSeq (sDPut (tVar 6) (tVar 7) (tVar 8)) (tFor (iList K (tMeth C "walks_from" (spOf (R_walks_from K C)) [] E0 (tVar 0) (tCons (tVar 7) tNil))) (gTup K 2 (gCons (gName 9) (gCons (gName 10) (gNil)))) (tSeq (tAsg (tOp (rAddI) (tVar 8) (tVar 10)) (gName 11)) (tSeq (tAsg (tOrV (tDNotIn (tVar 9) (tVar 1)) (tOp rLt (tVar 11) (tDGet (tVar 1) (tVar 9)))) (gName 12)) (tIfS (tAnd (tB (tDNotIn (tVar 9) (tVar 6))) (tAnd (tB (tVar 12)) (tTest (tOp rLt (tVar 11) (tDGet2 (tVar 4) (tVar 9) (tOp (rAddI) (tVar 11) (tC (.int 1)))))))) (tSeq (sDPut (tVar 4) (tVar 9) (tVar 11)) (sDPut (tVar 5) (tVar 9) (tVar 7))) (tNext))))))))) (tRet (tTup (tCons (tVar 6) (tCons (tVar 5) tNil))))))))
theorem b_first_arrivals {P : Program} {w : World} {K : Frg} {mg : Str → Option Value} {base : Heap} {C : Addr} (f_min : mg "min" = none)
    (m_walks_from : C8.Met P w K mg base 2 C "walks_from" (spOf (R_walks_from K C)) [])
    {cdv : Value} {A : Around} {outer : List Env} {s : Shared} {H : Hp} {E : XK} {fad : Addr} (hr : Room 2 (A.deeper (envOfC "first_arrivals" (defScope s_first_arrivals) s.heap.objs.size fad cdv))) :
    PSs (cxOf CX0 P w K mg base N_first_arrivals "first_arrivals" (defScope s_first_arrivals) fad cdv A outer s H E).nox (defBody s_first_arrivals) (t_first_arrivals K C) := by
  have hu1 : (A.deeper (envOfC "first_arrivals" (defScope s_first_arrivals) s.heap.objs.size fad cdv)).units + 1 < cLine := by have := hr.units; omega
  have hu3 : (A.deeper (envOfC "first_arrivals" (defScope s_first_arrivals) s.heap.objs.size fad cdv)).units + 1 + 1 < cLine := by have := hr.units; omega
  exact pss_cons (ps_set (i := 4) sc_first_arrivals.nd rfl (.inl rfl) (pe_dnewK))
    (pss_cons (ps_set (i := 5) sc_first_arrivals.nd rfl (.inl rfl) (pe_dnewK))
    (pss_cons (ps_if ((pw_or (pt_cmp (pc_dnotin hu1 (pv 2) (pv 1))) (pw_or1 (pt_cmpR op_lt (pv 3) (pe_dget hu1 (pv 1) (pv 2) (fun _ _ => rfl)) (nomark _)))).pt) (pss_cons (ps_dput hu1 (pv 4) (pv 2) (pv 3) (by rfl))
    (pss_one (ps_dput hu1 (pv 5) (pv 2) (pe_non) (by rfl)))) (pss_nil))
    (pss_cons (ps_set (i := 6) sc_first_arrivals.nd rfl (.inl rfl) (pe_dnewK))
    (pss_cons (ps_while PassesOwn.never (pt_truth (pv 4) (fun _ => rfl)) (pss_cons (ps_asg (pe_callB (cr_minO (Int × Str) rfl (hu3)) (by rfl) f_min bt_min (pa_cons (pe_lock (pe_lc (own := [("here", 7), ("now", 8)]) (g := gTup K 2 (gCons (gName 7) (gCons (gName 8) (gNil)))) (tt := tYes) rfl sc_first_arrivals.nd (pi_items (pv 4)) (blkOk_by (N := N_first_arrivals) (sc := defScope s_first_arrivals) (by decide +kernel)) (fun _ _ _ _ _ => pg_tup rfl (pgs_cons (pg_name (i := 7) sc_first_arrivals.nd rfl (.inl rfl)) (pgs_cons (pg_name (i := 8) sc_first_arrivals.nd rfl (.inl rfl)) (pgs_nil)))) (fun _ _ _ _ _ => pts_nil) (fun _ _ _ _ _ => pe_tup (pa_cons (pv 8) (pa_cons (pv 7) pa_nil))))) pa_nil)) (pg_tup rfl (pgs_cons (pg_name (i := 8) sc_first_arrivals.nd rfl (.inl rfl)) (pgs_cons (pg_name (i := 7) sc_first_arrivals.nd rfl (.inl rfl)) (pgs_nil)))))
    (pss_cons (ps_expr (pe_dpop1 (pv 4) (pv 7) ⟨rfl, rfl, rfl, rfl⟩))
    (pss_cons (ps_dput hu1 (pv 6) (pv 7) (pv 8) (by rfl))
    (pss_one (ps_for PassesOwn.never rfl (pi_list (C8.pe_mt (pl := _) m_walks_from hr (by decide) (pv 0) (pa_cons (pv 7) pa_nil))) (pg_tup rfl (pgs_cons (pg_name (i := 9) sc_first_arrivals.nd rfl (.inl rfl)) (pgs_cons (pg_name (i := 10) sc_first_arrivals.nd rfl (.inl rfl)) (pgs_nil)))) (pss_cons (ps_set (i := 11) sc_first_arrivals.nd rfl (.inl rfl) (pe_op op_add (pv 8) (pv 10)))
    (pss_cons (ps_set (i := 12) sc_first_arrivals.nd rfl (.inl rfl) (pe_or (pe_cmp (pc_dnotin hu1 (pv 9) (pv 1))) (pe_one (pe_cmpR op_lt (pv 11) (pe_dget hu1 (pv 1) (pv 9) (fun _ _ => rfl)) (nomark _)))))
    (pss_one (ps_if ((pw_and (pt_cmp (pc_dnotin hu1 (pv 9) (pv 6))) (pw_and (pt_val (pv 12)) (pw_and1 (pt_cmpR op_lt (pv 11) (pe_dget2 hu1 (pv 4) (pv 9) (pe_op op_add (pv 11) (pe_int)) ⟨rfl, rfl, rfl, rfl⟩) (nomark _))))).pt) (pss_cons (ps_dput hu1 (pv 4) (pv 9) (pv 11) (by rfl))
    (pss_one (ps_dput hu1 (pv 5) (pv 9) (pv 7) (by rfl)))) (pss_nil)))))))))))
    (pss_one (ps_ret (pe_tup (pa_cons (pv 6) (pa_cons (pv 5) pa_nil)))))))))
/-! ### safe_walk -/
def t_safe_walk (K : Frg) (C : Addr) : TS :=
  tSeq (tDrop (tCall (spOf (R_check_asked K C)) [] E0 (tCons (tVar 0) (tCons (tVar 1) (tCons (tVar 2) (tCons (tVar 3) (tCons (tLst (tCons (tTup (tCons (tVar 4) (tCons (tVar 5) tNil))) tNil)) tNil))))))) (tSeq (tIfS (tTest (tOp rLt (tVar 5) (tC (.int 0)))) (tNever) (tNext)) (tSeq (tAsg (tCall (spOf (R_spread K C)) [] E0 (tCons (tVar 0) (tCons (tVar 1) (tCons (tVar 2) (tCons (tVar 3) (tCons (tCall (spOf (R_least_numbers K C)) [] E0 (tCons (tVar 0) tNil)) tNil)))))) (gName 6)) (tSeq (tAsg (tCall (spOf (R_first_arrivals K C)) [] E0 (tCons (tVar 0) (tCons (tVar 6) (tCons (tVar 4) (tCons (tVar 5) tNil))))) (gTup K 2 (gCons (gName 7) (gCons (gName 8) (gNil))))) (tSeq (tAsg (tLc (iEnumT K (tCons (tFld K (tVar 0) "places") tNil)) (gTup K 2 (gCons (gName 12) (gCons (gName 13) (gNil)))) (tAnd (tB (tDIn (tVar 13) (tVar 7))) (tB (tDNotIn (tVar 13) (tVar 6)))) (tTup (tCons (tDGet (tVar 7) (tVar 13)) (tCons (tVar 12) tNil))) [12, 13]) (gName 9)) (tSeq (tIfS (tNot (tTr K (tVar 9))) (tRet (tC .non)) (tNext)) (tSeq (tAsg (tOp (rIxT K) (tFld K (tVar 0) "places") (tOp (rIxT K) (tCB (rMinO K (Int × Int)) (tCons (tVar 9) tNil)) (tC (.int 1)))) (gName 10)) (tSeq (tAsg (tLst (tNil)) (gName 11)) (tSeq (tWhile (tB (tNotN (tVar 10))) (tSeq (tDrop (tBM K "list" rAppend (tVar 11) (tCons (tTup (tCons (tVar 10) (tCons (tDGet (tVar 7) (tVar 10)) tNil))) tNil))) (tAsg (tDGet (tVar 8) (tVar 10)) (gName 10)))) (tRet (tRevL K (tVar 11)))))))))))
theorem b_safe_walk {P : Program} {w : World} {K : Frg} {mg : Str → Option Value} {base : Heap} {C : Addr} (f_enumerate : mg "enumerate" = none)
    (f_min : mg "min" = none)
    (c_check_asked : C8.Cal P w K mg base 3 "check_asked" (spOf (R_check_asked K C)) [])
    (c_least_numbers : C8.Cal P w K mg base 1 "least_numbers" (spOf (R_least_numbers K C)) [])
    (c_spread : C8.Cal P w K mg base 3 "spread" (spOf (R_spread K C)) [])
    (c_first_arrivals : C8.Cal P w K mg base 3 "first_arrivals" (spOf (R_first_arrivals K C)) [])
    {cdv : Value} {A : Around} {outer : List Env} {s : Shared} {H : Hp} {E : XK} {fad : Addr} (hr : Room 3 (A.deeper (envOfC "safe_walk" (defScope s_safe_walk) s.heap.objs.size fad cdv))) :
    PSs (cxOf CX0 P w K mg base N_safe_walk "safe_walk" (defScope s_safe_walk) fad cdv A outer s H E).nox (defBody s_safe_walk) (t_safe_walk K C) := by
  have hu1 : (A.deeper (envOfC "safe_walk" (defScope s_safe_walk) s.heap.objs.size fad cdv)).units + 1 < cLine := by have := hr.units; omega
  have hu3 : (A.deeper (envOfC "safe_walk" (defScope s_safe_walk) s.heap.objs.size fad cdv)).units + 1 + 1 < cLine := by have := hr.units; omega
  exact pss_cons (ps_expr (C8.pe_c c_check_asked hr (by decide) (by rfl) (pa_cons (pv 0) (pa_cons (pv 1) (pa_cons (pv 2) (pa_cons (pv 3) (pa_cons (pe_lst (pa_cons (pe_tup (pa_cons (pv 4) (pa_cons (pv 5) pa_nil))) pa_nil)) pa_nil)))))))
    (pss_cons (ps_if (pt_cmpR op_lt (pv 5) (pe_int) (nomark _)) (pss_one (ps_never)) (pss_nil))
    (pss_cons (ps_set (i := 6) sc_safe_walk.nd rfl (.inr rfl) (C8.pe_c c_spread hr (by decide) (by rfl) (pa_cons (pv 0) (pa_cons (pv 1) (pa_cons (pv 2) (pa_cons (pv 3) (pa_cons (C8.pe_c c_least_numbers hr (by decide) (by rfl) (pa_cons (pv 0) pa_nil)) pa_nil)))))))
    (pss_cons (ps_asg (C8.pe_c c_first_arrivals hr (by decide) (by rfl) (pa_cons (pv 0) (pa_cons (pv 6) (pa_cons (pv 4) (pa_cons (pv 5) pa_nil))))) (pg_tup rfl (pgs_cons (pg_name (i := 7) sc_safe_walk.nd rfl (.inr rfl)) (pgs_cons (pg_name (i := 8) sc_safe_walk.nd rfl (.inl rfl)) (pgs_nil)))))
    (pss_cons (ps_setLc (i := 9) (own := [("at", 12), ("other", 13)]) (g := gTup K 2 (gCons (gName 12) (gCons (gName 13) (gNil)))) (tt := tAnd (tB (tDIn (tVar 13) (tVar 7))) (tB (tDNotIn (tVar 13) (tVar 6)))) rfl sc_safe_walk.nd rfl rfl (sw_true rfl rfl rfl (by decide +kernel)) (pi_enumT (by rfl) f_enumerate (pa_cons (pe_fld (pv 0) (by rfl)) pa_nil)) (blkOk_by (N := N_safe_walk) (sc := defScope s_safe_walk) (by decide +kernel)) (fun _ _ _ _ _ => pg_tup rfl (pgs_cons (pg_name (i := 12) sc_safe_walk.nd rfl (.inl rfl)) (pgs_cons (pg_name (i := 13) sc_safe_walk.nd rfl (.inl rfl)) (pgs_nil)))) (fun _ _ _ _ _ => pts_one ((pw_and (pt_cmp (pc_din hu1 (pv 13) (pv 7))) (pw_and1 (pt_cmp (pc_dnotin hu1 (pv 13) (pv 6))))).pt)) (fun _ _ _ _ _ => pe_tup (pa_cons (pe_dget hu1 (pv 7) (pv 13) (fun _ _ => rfl)) (pa_cons (pv 12) pa_nil))))
    (pss_cons (ps_if (pt_not (pt_truth (pv 9) (fun _ => rfl))) (pss_one (ps_ret (pe_non))) (pss_nil))
    (pss_cons (ps_set (i := 10) sc_safe_walk.nd rfl (.inl rfl) (pe_ix ix_tup (pe_fld (pv 0) (by rfl)) (pe_ix ix_tup (pe_callB (cr_minO (Int × Int) rfl (hu3)) (by rfl) f_min bt_min (pa_cons (pv 9) pa_nil)) (pe_int) (fun _ _ => rfl)) (fun _ _ => rfl)))
    (pss_cons (ps_set (i := 11) sc_safe_walk.nd rfl (.inl rfl) (pe_lst (pa_nil)))
    (pss_cons (ps_while PassesOwn.never (pt_cmp (pc_notN (pv 10))) (pss_cons (ps_expr (pe_bm PySem.F.plainAttrs_list PySem.F.slot_list_append PySem.F.type_list_append mt_append (pv 11) (pa_cons (pe_tup (pa_cons (pv 10) (pa_cons (pe_dget hu1 (pv 7) (pv 10) (fun _ _ => rfl)) pa_nil))) pa_nil)))
    (pss_one (ps_set (i := 10) sc_safe_walk.nd rfl (.inl rfl) (pe_dget hu1 (pv 8) (pv 10) (fun _ _ => rfl))))))
    (pss_one (ps_ret (pe_revL (pv 11))))))))))))
/-! ### is_safe_walk -/
def t_is_safe_walk (K : Frg) (C : Addr) : TS :=
  tSeq (tDrop (tCall (spOf (R_check_asked K C)) [] E0 (tCons (tVar 0) (tCons (tVar 1) (tCons (tVar 2) (tCons (tVar 3) (tCons (tVar 4) tNil))))))) (tSeq (tAsg (tCall (spOf (R_spread K C)) [] E0 (tCons (tVar 0) (tCons (tVar 1) (tCons (tVar 2) (tCons (tVar 3) (tCons (tCall (spOf (R_least_numbers K C)) [] E0 (tCons (tVar 0) tNil)) tNil)))))) (gName 5)) (tSeq (tIfS (tOr (tNot (tTr K (tVar 4))) (tOr (tTest (tOp rLt (tOp (rIxT K) (tOp (rIxL K) (tVar 4) (tC (.int 0))) (tC (.int 1))) (tC (.int 0)))) (tB (tDIn (tOp (rIxT K) (tOp (rIxL K) (tVar 4) (tUn (rU fun i => .int (-i)) (tC (.int 1)))) (tC (.int 0))) (tVar 5))))) (tRet (tC (.bl false))) (tNext)) (tSeq (tIfS (tB (tCB (rAny K) (tCons (tLc (iList K (tVar 4)) (gTup K 2 (gCons (gName 11) (gCons (gName 12) (gNil)))) (tYes) (tAndV (tDIn (tVar 11) (tVar 5)) (tOp rGe (tVar 12) (tDGet (tVar 5) (tVar 11)))) [11, 12]) tNil))) (tRet (tC (.bl false))) (tNext)) (tSeq (tFor (iZip K (tCons (tVar 4) (tCons (tSl (rSlL K) (tVar 4) (tPart (tC (.int 1))) (tNoPart)) tNil))) (gTup K 2 (gCons (gTup K 2 (gCons (gName 6) (gCons (gName 7) (gNil)))) (gCons (gTup K 2 (gCons (gName 8) (gCons (gName 9) (gNil)))) (gNil)))) (tSeq (tAsg (tMeth C "minutes_between" (spOf (R_minutes_between K C)) [] E0 (tVar 0) (tCons (tVar 6) (tCons (tVar 8) tNil))) (gName 10)) (tSeq (tIfS (tOr (tB (tIsN (tVar 10))) (tTest (tOp rLt (tVar 9) (tOp (rAddI) (tVar 7) (tVar 10))))) (tRet (tC (.bl false))) (tNext)) (tIfS (tAnd (tB (tDIn (tVar 6) (tVar 5))) (tTest (tOp rGe (tOp (rSubI) (tVar 9) (tVar 10)) (tDGet (tVar 5) (tVar 6))))) (tRet (tC (.bl false))) (tNext))))) (tRet (tC (.bl true)))))))
theorem b_is_safe_walk {P : Program} {w : World} {K : Frg} {mg : Str → Option Value} {base : Heap} {C : Addr} (f_any : mg "any" = none)
    (f_zip : mg "zip" = none)
    (c_check_asked : C8.Cal P w K mg base 3 "check_asked" (spOf (R_check_asked K C)) [])
    (c_least_numbers : C8.Cal P w K mg base 1 "least_numbers" (spOf (R_least_numbers K C)) [])
    (c_spread : C8.Cal P w K mg base 3 "spread" (spOf (R_spread K C)) [])
    (m_minutes_between : C8.Met P w K mg base 3 C "minutes_between" (spOf (R_minutes_between K C)) [])
    {cdv : Value} {A : Around} {outer : List Env} {s : Shared} {H : Hp} {E : XK} {fad : Addr} (hr : Room 3 (A.deeper (envOfC "is_safe_walk" (defScope s_is_safe_walk) s.heap.objs.size fad cdv))) :
    PSs (cxOf CX0 P w K mg base N_is_safe_walk "is_safe_walk" (defScope s_is_safe_walk) fad cdv A outer s H E).nox (defBody s_is_safe_walk) (t_is_safe_walk K C) := by
  have hu1 : (A.deeper (envOfC "is_safe_walk" (defScope s_is_safe_walk) s.heap.objs.size fad cdv)).units + 1 < cLine := by have := hr.units; omega
  have hu3 : (A.deeper (envOfC "is_safe_walk" (defScope s_is_safe_walk) s.heap.objs.size fad cdv)).units + 1 + 1 < cLine := by have := hr.units; omega
  exact pss_cons (ps_expr (C8.pe_c c_check_asked hr (by decide) (by rfl) (pa_cons (pv 0) (pa_cons (pv 1) (pa_cons (pv 2) (pa_cons (pv 3) (pa_cons (pv 4) pa_nil)))))))
    (pss_cons (ps_set (i := 5) sc_is_safe_walk.nd rfl (.inr rfl) (C8.pe_c c_spread hr (by decide) (by rfl) (pa_cons (pv 0) (pa_cons (pv 1) (pa_cons (pv 2) (pa_cons (pv 3) (pa_cons (C8.pe_c c_least_numbers hr (by decide) (by rfl) (pa_cons (pv 0) pa_nil)) pa_nil)))))))
    (pss_cons (ps_if ((pw_or (pt_not (pt_truth (pv 4) (fun _ => rfl))) (pw_or (pt_cmpR op_lt (pe_ix ix_tup (pe_ix ix_list (pv 4) (pe_int) (fun _ _ => rfl)) (pe_int) (fun _ _ => rfl)) (pe_int) (nomark _)) (pw_or1 (pt_cmp (pc_din hu1 (pe_ix ix_tup (pe_ix ix_list (pv 4) (pe_un un_neg (pe_int)) (fun _ _ => rfl)) (pe_int) (fun _ _ => rfl)) (pv 5)))))).pt) (pss_one (ps_ret (pe_bl))) (pss_nil))
    (pss_cons (ps_if (pt_val (pe_callB (cr_any rfl) (by rfl) f_any bt_any (pa_cons (pe_lc (own := [("place", 11), ("minute", 12)]) (g := gTup K 2 (gCons (gName 11) (gCons (gName 12) (gNil)))) (tt := tYes) rfl sc_is_safe_walk.nd (pi_list (pv 4)) (blkOk_by (N := N_is_safe_walk) (sc := defScope s_is_safe_walk) (by decide +kernel)) (fun _ _ _ _ _ => pg_tup rfl (pgs_cons (pg_name (i := 11) sc_is_safe_walk.nd rfl (.inl rfl)) (pgs_cons (pg_name (i := 12) sc_is_safe_walk.nd rfl (.inl rfl)) (pgs_nil)))) (fun _ _ _ _ _ => pts_nil) (fun _ _ _ _ _ => pe_and (pe_cmp (pc_din hu1 (pv 11) (pv 5))) (pe_one (pe_cmpR op_ge (pv 12) (pe_dget hu1 (pv 5) (pv 11) (fun _ _ => rfl)) (nomark _))))) pa_nil))) (pss_one (ps_ret (pe_bl))) (pss_nil))
    (pss_cons (ps_for PassesOwn.never rfl (pi_zip (by rfl) f_zip (pa_cons (pv 4) (pa_cons (pe_slice sl_list (pv 4) (po_some (pe_int)) (po_none)) pa_nil))) (pg_tup rfl (pgs_cons (pg_tup rfl (pgs_cons (pg_name (i := 6) sc_is_safe_walk.nd rfl (.inl rfl)) (pgs_cons (pg_name (i := 7) sc_is_safe_walk.nd rfl (.inl rfl)) (pgs_nil)))) (pgs_cons (pg_tup rfl (pgs_cons (pg_name (i := 8) sc_is_safe_walk.nd rfl (.inl rfl)) (pgs_cons (pg_name (i := 9) sc_is_safe_walk.nd rfl (.inl rfl)) (pgs_nil)))) (pgs_nil)))) (pss_cons (ps_set (i := 10) sc_is_safe_walk.nd rfl (.inl rfl) (C8.pe_mt (pl := _) m_minutes_between hr (by decide) (pv 0) (pa_cons (pv 6) (pa_cons (pv 8) pa_nil))))
    (pss_cons (ps_if ((pw_or (pt_cmp (pc_isN (pv 10))) (pw_or1 (pt_cmpR op_lt (pv 9) (pe_op op_add (pv 7) (pv 10)) (nomark _)))).pt) (pss_one (ps_ret (pe_bl))) (pss_nil))
    (pss_one (ps_if ((pw_and (pt_cmp (pc_din hu1 (pv 6) (pv 5))) (pw_and1 (pt_cmpR op_ge (pe_op op_sub (pv 9) (pv 10)) (pe_dget hu1 (pv 5) (pv 6) (fun _ _ => rfl)) (nomark _)))).pt) (pss_one (ps_ret (pe_bl))) (pss_nil))))))
    (pss_one (ps_ret (pe_bl)))))))
/-! ### refuges -/
def t_refuges (K : Frg) (C : Addr) : TS :=
  tSeq (tDrop (tCall (spOf (R_check_asked K C)) [] E0 (tCons (tVar 0) (tCons (tVar 1) (tCons (tVar 2) (tCons (tVar 3) (tCons (tLst (tNil)) tNil))))))) (tSeq (tIfS (tTest (tOp rLt (tVar 4) (tC (.int 0)))) (tNever) (tNext)) (tRet (tLc (iTup K (tFld K (tVar 0) "places")) (gName 5) (tB (tNotN (tCall (spOf (R_safe_walk K C)) [] E0 (tCons (tVar 0) (tCons (tVar 1) (tCons (tVar 2) (tCons (tVar 3) (tCons (tVar 5) (tCons (tVar 4) tNil))))))))) (tVar 5) [5])))
theorem b_refuges {P : Program} {w : World} {K : Frg} {mg : Str → Option Value} {base : Heap} {C : Addr} (c_check_asked : C8.Cal P w K mg base 3 "check_asked" (spOf (R_check_asked K C)) [])
    (c_safe_walk : C8.Cal P w K mg base 4 "safe_walk" (spOf (R_safe_walk K C)) [])
    {cdv : Value} {A : Around} {outer : List Env} {s : Shared} {H : Hp} {E : XK} {fad : Addr} (hr : Room 4 (A.deeper (envOfC "refuges" (defScope s_refuges) s.heap.objs.size fad cdv))) :
    PSs (cxOf CX0 P w K mg base N_refuges "refuges" (defScope s_refuges) fad cdv A outer s H E).nox (defBody s_refuges) (t_refuges K C) := by
  exact pss_cons (ps_expr (C8.pe_c c_check_asked hr (by decide) (by rfl) (pa_cons (pv 0) (pa_cons (pv 1) (pa_cons (pv 2) (pa_cons (pv 3) (pa_cons (pe_lst (pa_nil)) pa_nil)))))))
    (pss_cons (ps_if (pt_cmpR op_lt (pv 4) (pe_int) (nomark _)) (pss_one (ps_never)) (pss_nil))
    (pss_one (ps_ret (pe_lc (own := [("place", 5)]) (g := gName 5) (tt := tB (tNotN (tCall (spOf (R_safe_walk K C)) [] E0 (tCons (tVar 0) (tCons (tVar 1) (tCons (tVar 2) (tCons (tVar 3) (tCons (tVar 5) (tCons (tVar 4) tNil))))))))) rfl sc_refuges.nd (pi_tup (pe_fld (pv 0) (by rfl))) (blkOk_by (N := N_refuges) (sc := defScope s_refuges) (by decide +kernel)) (fun _ _ _ _ _ => pg_name (i := 5) sc_refuges.nd rfl (.inl rfl)) (fun _ _ _ _ _ => pts_one (pt_cmp (pc_notN (C8.pe_c c_safe_walk hr (by decide) (by rfl) (pa_cons (pv 0) (pa_cons (pv 1) (pa_cons (pv 2) (pa_cons (pv 3) (pa_cons (pv 5) (pa_cons (pv 4) pa_nil)))))))))) (fun _ _ _ _ _ => pv 5)))))
/-! ### _law_row -/
def t_Lrow (K : Frg) (C : Addr) : TS :=
  tSeq (tAsg (tLst (tNil)) (gName 2)) (tSeq (tAsg (tCB (rAbs) (tCons (tVar 0) tNil)) (gName 3)) (tSeq (tAsg (tOp (rModI) (tCB (rInt1) (tCons (tOp (rAddI) (tOp (rMulI) (tVar 3) (tC (.int 48271))) (tC (.int 69621))) tNil)) (tC (.int 2147483647))) (gName 4)) (tSeq (tFor (iRng1 (tCons (tVar 1) tNil)) (gName 5) (tSeq (tAsg (tOp (rModI) (tCB (rInt1) (tCons (tOp (rAddI) (tOp (rMulI) (tVar 4) (tC (.int 16807))) (tOp (rMulI) (tC (.int 271)) (tOp (rAddI) (tVar 5) (tC (.int 3))))) tNil)) (tC (.int 2147483629))) (gName 4)) (tIfS (tTest (tOp rGe (tCB (rAbs) (tCons (tVar 0) tNil)) (tOp (rPowI) (tC (.int 10)) (tC (.int 18))))) (tSeq (tDrop (tBM K "list" rAppend (tVar 2) (tCons (tOp (rModI) (tCB (rInt1) (tCons (tVar 3) tNil)) (tC (.int 1009))) tNil))) (tAsg (tOp (rDivI) (tVar 3) (tC (.int 1009))) (gName 3))) (tDrop (tBM K "list" rAppend (tVar 2) (tCons (tOp (rModI) (tCB (rInt1) (tCons (tOp (rDivI) (tVar 4) (tC (.int 7))) tNil)) (tC (.int 1009))) tNil)))))) (tRet (tVar 2)))))
theorem b_Lrow {P : Program} {w : World} {K : Frg} {mg : Str → Option Value} {base : Heap} {C : Addr} (f_abs : mg "abs" = none)
    (f_int : mg "int" = none)
    (f_range : mg "range" = none)
    {cdv : Value} {A : Around} {outer : List Env} {s : Shared} {H : Hp} {E : XK} {fad : Addr} (hr : Room 0 (A.deeper (envOfC "_law_row" (defScope s_Lrow) s.heap.objs.size fad cdv))) :
    PSs (cxOf CX0 P w K mg base N_Lrow "_law_row" (defScope s_Lrow) fad cdv A outer s H E).nox (defBody s_Lrow) (t_Lrow K C) := by
  exact pss_cons (ps_set (i := 2) sc_Lrow.nd rfl (.inl rfl) (pe_lst (pa_nil)))
    (pss_cons (ps_set (i := 3) sc_Lrow.nd rfl (.inl rfl) (pe_callB call_abs (by rfl) f_abs bt_abs (pa_cons (pv 0) pa_nil)))
    (pss_cons (ps_set (i := 4) sc_Lrow.nd rfl (.inl rfl) (pe_op op_mod (pe_callTy call_int1 (by rfl) f_int bt_int (pa_cons (pe_op op_add (pe_op op_mul (pv 3) (pe_int)) (pe_int)) pa_nil)) (pe_int)))
    (pss_cons (ps_for PassesOwn.never rfl (pi_range1 (by rfl) f_range (pa_cons (pv 1) pa_nil)) (pg_name (i := 5) sc_Lrow.nd rfl (.inl rfl)) (pss_cons (ps_set (i := 4) sc_Lrow.nd rfl (.inl rfl) (pe_op op_mod (pe_callTy call_int1 (by rfl) f_int bt_int (pa_cons (pe_op op_add (pe_op op_mul (pv 4) (pe_int)) (pe_op op_mul (pe_int) (pe_op op_add (pv 5) (pe_int)))) pa_nil)) (pe_int)))
    (pss_one (ps_if (pt_cmpR op_ge (pe_callB call_abs (by rfl) f_abs bt_abs (pa_cons (pv 0) pa_nil)) (pe_op op_pow (pe_int) (pe_int)) (nomark _)) (pss_cons (ps_expr (pe_bm PySem.F.plainAttrs_list PySem.F.slot_list_append PySem.F.type_list_append mt_append (pv 2) (pa_cons (pe_op op_mod (pe_callTy call_int1 (by rfl) f_int bt_int (pa_cons (pv 3) pa_nil)) (pe_int)) pa_nil)))
    (pss_one (ps_set (i := 3) sc_Lrow.nd rfl (.inl rfl) (pe_op op_fdiv (pv 3) (pe_int))))) (pss_one (ps_expr (pe_bm PySem.F.plainAttrs_list PySem.F.slot_list_append PySem.F.type_list_append mt_append (pv 2) (pa_cons (pe_op op_mod (pe_callTy call_int1 (by rfl) f_int bt_int (pa_cons (pe_op op_fdiv (pv 4) (pe_int)) pa_nil)) (pe_int)) pa_nil))))))))
    (pss_one (ps_ret (pv 2))))))
/-! ### _law_numbers -/
def t_Lnumbers (K : Frg) (C : Addr) : TS :=
  tSeq (tAsg (tSl (rSlL K) (tVar 0) (tNoPart) (tPart (tC (.int 63)))) (gName 2)) (tSeq (tAsg (tOp (rAddI) (tC (.int 1)) (tOp (rDivI) (tVar 1) (tCB (Evl.rMax2) (tCons (tC (.int 1)) (tCons (tCB (rLen2 K) (tCons (tVar 2) tNil)) tNil))))) (gName 3)) (tSeq (tAsg (tLst (tNil)) (gName 4)) (tSeq (tFor (iList K (tVar 2)) (gName 5) (tFor (iList K (tCall (spOf (R_Lrow K C)) [] E0 (tCons (tVar 5) (tCons (tVar 3) tNil)))) (gName 6) (tDrop (tBM K "list" rAppend (tVar 4) (tCons (tVar 6) tNil))))) (tSeq (tWhile (tTest (tOp rLt (tCB (rLen2 K) (tCons (tVar 4) tNil)) (tVar 1))) (tDrop (tBM K "list" rAppend (tVar 4) (tCons (tC (.int 0)) tNil)))) (tRet (tSl (rSlL K) (tVar 4) (tNoPart) (tPart (tVar 1))))))))
theorem b_Lnumbers {P : Program} {w : World} {K : Frg} {mg : Str → Option Value} {base : Heap} {C : Addr} (f_len : mg "len" = none)
    (f_max : mg "max" = none)
    (c_Lrow : C8.Cal P w K mg base 1 "_law_row" (spOf (R_Lrow K C)) [])
    {cdv : Value} {A : Around} {outer : List Env} {s : Shared} {H : Hp} {E : XK} {fad : Addr} (hr : Room 1 (A.deeper (envOfC "_law_numbers" (defScope s_Lnumbers) s.heap.objs.size fad cdv))) :
    PSs (cxOf CX0 P w K mg base N_Lnumbers "_law_numbers" (defScope s_Lnumbers) fad cdv A outer s H E).nox (defBody s_Lnumbers) (t_Lnumbers K C) := by
  exact pss_cons (ps_set (i := 2) sc_Lnumbers.nd rfl (.inl rfl) (pe_slice sl_list (pv 0) (po_none) (po_some (pe_int))))
    (pss_cons (ps_set (i := 3) sc_Lnumbers.nd rfl (.inl rfl) (pe_op op_add (pe_int) (pe_op op_fdiv (pv 1) (pe_callB (call_max2 rfl) (by rfl) f_max bt_max (pa_cons (pe_int) (pa_cons (pe_callB call_len_seq (by rfl) f_len bt_len (pa_cons (pv 2) pa_nil)) pa_nil))))))
    (pss_cons (ps_set (i := 4) sc_Lnumbers.nd rfl (.inl rfl) (pe_lst (pa_nil)))
    (pss_cons (ps_for PassesOwn.never rfl (pi_list (pv 2)) (pg_name (i := 5) sc_Lnumbers.nd rfl (.inl rfl)) (pss_one (ps_for PassesOwn.never rfl (pi_list (C8.pe_c c_Lrow hr (by decide) (by rfl) (pa_cons (pv 5) (pa_cons (pv 3) pa_nil)))) (pg_name (i := 6) sc_Lnumbers.nd rfl (.inl rfl)) (pss_one (ps_expr (pe_bm PySem.F.plainAttrs_list PySem.F.slot_list_append PySem.F.type_list_append mt_append (pv 4) (pa_cons (pv 6) pa_nil)))))))
    (pss_cons (ps_while PassesOwn.never (pt_cmpR op_lt (pe_callB call_len_seq (by rfl) f_len bt_len (pa_cons (pv 4) pa_nil)) (pv 1) (nomark _)) (pss_one (ps_expr (pe_bm PySem.F.plainAttrs_list PySem.F.slot_list_append PySem.F.type_list_append mt_append (pv 4) (pa_cons (pe_int) pa_nil)))))
    (pss_one (ps_ret (pe_slice sl_list (pv 4) (po_none) (po_some (pv 1)))))))))
/-! ### _law_pick -/
def t_Lpick (K : Frg) (C : Addr) : TS :=
  tRet (tOp (rModI) (tCB (rInt1) (tCons (tOp (rIxL K) (tVar 0) (tVar 1)) tNil)) (tVar 2))
theorem b_Lpick {P : Program} {w : World} {K : Frg} {mg : Str → Option Value} {base : Heap} {C : Addr} (f_int : mg "int" = none)
    {cdv : Value} {A : Around} {outer : List Env} {s : Shared} {H : Hp} {E : XK} {fad : Addr} (hr : Room 0 (A.deeper (envOfC "_law_pick" (defScope s_Lpick) s.heap.objs.size fad cdv))) :
    PSs (cxOf CX0 P w K mg base N_Lpick "_law_pick" (defScope s_Lpick) fad cdv A outer s H E).nox (defBody s_Lpick) (t_Lpick K C) := by
  exact pss_one (ps_ret (pe_op op_mod (pe_callTy call_int1 (by rfl) f_int bt_int (pa_cons (pe_ix ix_list (pv 0) (pv 1) (fun _ _ => rfl)) pa_nil)) (pv 2)))
/-! ### _law_names -/
def t_Lnames (K : Frg) (C : Addr) : TS :=
  tSeq (tAsg (tC (.str "abcdefghijklmnopqrstuvwxyz0123456789")) (gName 2)) (tSeq (tAsg (tOp (rModI) (tCB (rInt1) (tCons (tVar 0) tNil)) (tC (.int 10))) (gName 3)) (tSeq (tAsg (tM1 (rJoin K) (tC (.str "")) (tLc (iRng1 (tCons (tVar 3) tNil)) (gName 4) (tYes) (tOp rIxS (tVar 2) (tOp (rModI) (tCB (rInt1) (tCons (tOp (rAddI) (tVar 0) (tOp (rMulI) (tOp (rMulI) (tC (.int 7)) (tVar 4)) (tVar 4))) tNil)) (tC (.int 36)))) [4])) (gName 5)) (tSeq (tAsg (tOp (rModI) (tCB (rInt1) (tCons (tOp (rDivI) (tVar 0) (tC (.int 10))) tNil)) (tOp (rAddI) (tVar 3) (tC (.int 1)))) (gName 6)) (tSeq (tAsg (tLst (tNil)) (gName 7)) (tSeq (tFor (iRng1 (tCons (tVar 1) tNil)) (gName 4) (tSeq (tAsg (tVar 4) (gName 8)) (tSeq (tIfS (tTest (tOp rEq (tOp (rModI) (tCB (rInt1) (tCons (tOp (rDivI) (tVar 0) (tC (.int 100))) tNil)) (tC (.int 2))) (tC (.int 1)))) (tAsg (tOp (rSubI) (tOp (rSubI) (tVar 1) (tC (.int 1))) (tVar 4)) (gName 8)) (tNext)) (tDrop (tBM K "list" rAppend (tVar 7) (tCons (tOp (rAddS) (tOp (rAddS) (tOp (rAddS) (tOp rIxS (tVar 2) (tOp (rModI) (tCB (rInt1) (tCons (tOp (rAddI) (tVar 0) (tOp (rMulI) (tC (.int 3)) (tVar 8))) tNil)) (tC (.int 26)))) (tSl (rSlS) (tVar 5) (tNoPart) (tPart (tVar 6)))) (tOp rIxS (tVar 2) (tOp (rModI) (tCB (rInt1) (tCons (tVar 8) tNil)) (tC (.int 36))))) (tSl (rSlS) (tVar 5) (tPart (tVar 6)) (tNoPart))) tNil)))))) (tRet (tVar 7)))))))
theorem b_Lnames {P : Program} {w : World} {K : Frg} {mg : Str → Option Value} {base : Heap} {C : Addr} (f_int : mg "int" = none)
    (f_range : mg "range" = none)
    {cdv : Value} {A : Around} {outer : List Env} {s : Shared} {H : Hp} {E : XK} {fad : Addr} (hr : Room 0 (A.deeper (envOfC "_law_names" (defScope s_Lnames) s.heap.objs.size fad cdv))) :
    PSs (cxOf CX0 P w K mg base N_Lnames "_law_names" (defScope s_Lnames) fad cdv A outer s H E).nox (defBody s_Lnames) (t_Lnames K C) := by
  exact pss_cons (ps_set (i := 2) sc_Lnames.nd rfl (.inr rfl) (pe_str))
    (pss_cons (ps_set (i := 3) sc_Lnames.nd rfl (.inl rfl) (pe_op op_mod (pe_callTy call_int1 (by rfl) f_int bt_int (pa_cons (pv 0) pa_nil)) (pe_int)))
    (pss_cons (ps_set (i := 5) sc_Lnames.nd rfl (.inl rfl) (pe_join (pe_str) (pe_lc (own := [("_law_k", 4)]) (g := gName 4) (tt := tYes) rfl sc_Lnames.nd (pi_range1 (by rfl) f_range (pa_cons (pv 3) pa_nil)) (blkOk_by (N := N_Lnames) (sc := defScope s_Lnames) (by decide +kernel)) (fun _ _ _ _ _ => pg_name (i := 4) sc_Lnames.nd rfl (.inl rfl)) (fun _ _ _ _ _ => pts_nil) (fun _ _ _ _ _ => pe_ix ix_str (pv 2) (pe_op op_mod (pe_callTy call_int1 (by rfl) f_int bt_int (pa_cons (pe_op op_add (pv 0) (pe_op op_mul (pe_op op_mul (pe_int) (pv 4)) (pv 4))) pa_nil)) (pe_int)) (fun _ _ => rfl)))))
    (pss_cons (ps_set (i := 6) sc_Lnames.nd rfl (.inl rfl) (pe_op op_mod (pe_callTy call_int1 (by rfl) f_int bt_int (pa_cons (pe_op op_fdiv (pv 0) (pe_int)) pa_nil)) (pe_op op_add (pv 3) (pe_int))))
    (pss_cons (ps_set (i := 7) sc_Lnames.nd rfl (.inl rfl) (pe_lst (pa_nil)))
    (pss_cons (ps_for PassesOwn.never rfl (pi_range1 (by rfl) f_range (pa_cons (pv 1) pa_nil)) (pg_name (i := 4) sc_Lnames.nd rfl (.inl rfl)) (pss_cons (ps_set (i := 8) sc_Lnames.nd rfl (.inl rfl) (pv 4))
    (pss_cons (ps_if (pt_cmpR op_eq (pe_op op_mod (pe_callTy call_int1 (by rfl) f_int bt_int (pa_cons (pe_op op_fdiv (pv 0) (pe_int)) pa_nil)) (pe_int)) (pe_int) (nomark _)) (pss_one (ps_set (i := 8) sc_Lnames.nd rfl (.inl rfl) (pe_op op_sub (pe_op op_sub (pv 1) (pe_int)) (pv 4)))) (pss_nil))
    (pss_one (ps_expr (pe_bm PySem.F.plainAttrs_list PySem.F.slot_list_append PySem.F.type_list_append mt_append (pv 7) (pa_cons (pe_op op_add_str (pe_op op_add_str (pe_op op_add_str (pe_ix ix_str (pv 2) (pe_op op_mod (pe_callTy call_int1 (by rfl) f_int bt_int (pa_cons (pe_op op_add (pv 0) (pe_op op_mul (pe_int) (pv 8))) pa_nil)) (pe_int)) (fun _ _ => rfl)) (pe_slice sl_str (pv 5) (po_none) (po_some (pv 6)))) (pe_ix ix_str (pv 2) (pe_op op_mod (pe_callTy call_int1 (by rfl) f_int bt_int (pa_cons (pv 8) pa_nil)) (pe_int)) (fun _ _ => rfl))) (pe_slice sl_str (pv 5) (po_some (pv 6)) (po_none))) pa_nil)))))))
    (pss_one (ps_ret (pv 7))))))))
/-! ### _law_parts -/
def t_Lparts (K : Frg) (C : Addr) : TS :=
  tSeq (tAsg (tCall (spOf (R_Lnames K C)) [] E0 (tCons (tOp (rIxL K) (tVar 0) (tVar 1)) (tCons (tOp (rAddI) (tC (.int 1)) (tOp (rModI) (tCB (rInt1) (tCons (tOp (rIxL K) (tVar 0) (tOp (rAddI) (tVar 1) (tC (.int 1)))) tNil)) (tC (.int 3)))) tNil))) (gName 2)) (tSeq (tAsg (tCall (spOf (R_Lnames K C)) [] E0 (tCons (tOp (rIxL K) (tVar 0) (tOp (rAddI) (tVar 1) (tC (.int 2)))) (tCons (tOp (rAddI) (tC (.int 2)) (tOp (rModI) (tCB (rInt1) (tCons (tOp (rIxL K) (tVar 0) (tOp (rAddI) (tVar 1) (tC (.int 3)))) tNil)) (tC (.int 6)))) tNil))) (gName 3)) (tSeq (tAsg (tCall (spOf (R_Lnames K C)) [] E0 (tCons (tOp (rIxL K) (tVar 0) (tOp (rAddI) (tVar 1) (tC (.int 4)))) (tCons (tC (.int 10)) tNil))) (gName 4)) (tSeq (tAsg (tLst (tNil)) (gName 5)) (tSeq (tFor (iRng1 (tCons (tOp (rModI) (tCB (rInt1) (tCons (tOp (rIxL K) (tVar 0) (tOp (rAddI) (tVar 1) (tC (.int 5)))) tNil)) (tC (.int 11))) tNil)) (gName 6) (tSeq (tAsg (tOp (rAddI) (tOp (rAddI) (tVar 1) (tC (.int 6))) (tOp (rMulI) (tC (.int 8)) (tVar 6))) (gName 7)) (tSeq (tAsg (tOp (rModI) (tCB (rInt1) (tCons (tOp (rIxL K) (tVar 0) (tVar 7)) tNil)) (tCB (rLen2 K) (tCons (tVar 3) tNil))) (gName 8)) (tSeq (tAsg (tOp (rModI) (tCB (rInt1) (tCons (tOp (rAddI) (tOp (rAddI) (tVar 8) (tC (.int 1))) (tOp (rModI) (tCB (rInt1) (tCons (tOp (rIxL K) (tVar 0) (tOp (rAddI) (tVar 7) (tC (.int 1)))) tNil)) (tOp (rSubI) (tCB (rLen2 K) (tCons (tVar 3) tNil)) (tC (.int 1))))) tNil)) (tCB (rLen2 K) (tCons (tVar 3) tNil))) (gName 9)) (tSeq (tAsg (tLst (tNil)) (gName 10)) (tSeq (tFor (iRng1 (tCons (tCB (rLen2 K) (tCons (tVar 2) tNil)) tNil)) (gName 11) (tIfS (tTest (tOp rEq (tOp (rModI) (tCB (rInt1) (tCons (tOp (rIxL K) (tVar 0) (tOp (rAddI) (tOp (rAddI) (tVar 7) (tC (.int 2))) (tVar 11))) tNil)) (tC (.int 4))) (tC (.int 0)))) (tDrop (tBM K "list" rAppend (tVar 10) (tCons (tC .non) tNil))) (tSeq (tAsg (tOp (rAddI) (tC (.int 1)) (tOp (rModI) (tCB (rInt1) (tCons (tOp (rIxL K) (tVar 0) (tOp (rAddI) (tOp (rAddI) (tVar 7) (tC (.int 2))) (tVar 11))) tNil)) (tC (.int 9)))) (gName 12)) (tDrop (tBM K "list" rAppend (tVar 10) (tCons (tTup (tCons (tVar 12) (tCons (tOp (rAddI) (tVar 12) (tOp (rModI) (tCB (rInt1) (tCons (tOp (rIxL K) (tVar 0) (tOp (rAddI) (tOp (rAddI) (tVar 7) (tC (.int 5))) (tVar 11))) tNil)) (tC (.int 7)))) tNil))) tNil)))))) (tDrop (tBM K "list" rAppend (tVar 5) (tCons (tTup (tCons (tOp (rIxL K) (tVar 4) (tVar 6)) (tCons (tOp (rIxL K) (tVar 3) (tVar 8)) (tCons (tOp (rIxL K) (tVar 3) (tVar 9)) (tCons (tCB (rTupOf2 K) (tCons (tVar 10) tNil)) tNil))))) tNil))))))))) (tSeq (tAsg (tLst (tNil)) (gName 13)) (tSeq (tFor (iRng1 (tCons (tOp (rModI) (tCB (rInt1) (tCons (tOp (rIxL K) (tVar 0) (tOp (rAddI) (tVar 1) (tC (.int 88)))) tNil)) (tC (.int 7))) tNil)) (gName 6) (tSeq (tAsg (tOp (rModI) (tCB (rInt1) (tCons (tOp (rIxL K) (tVar 0) (tOp (rAddI) (tOp (rAddI) (tVar 1) (tC (.int 89))) (tOp (rMulI) (tC (.int 3)) (tVar 6)))) tNil)) (tCB (rLen2 K) (tCons (tVar 3) tNil))) (gName 8)) (tSeq (tAsg (tOp (rModI) (tCB (rInt1) (tCons (tOp (rAddI) (tOp (rAddI) (tVar 8) (tC (.int 1))) (tOp (rModI) (tCB (rInt1) (tCons (tOp (rIxL K) (tVar 0) (tOp (rAddI) (tOp (rAddI) (tVar 1) (tC (.int 90))) (tOp (rMulI) (tC (.int 3)) (tVar 6)))) tNil)) (tOp (rSubI) (tCB (rLen2 K) (tCons (tVar 3) tNil)) (tC (.int 1))))) tNil)) (tCB (rLen2 K) (tCons (tVar 3) tNil))) (gName 9)) (tSeq (tAsg (tOp (rCat) (tLc (iList K (tVar 13)) (gName 15) (tYes) (tTup (tCons (tOp (rIxT K) (tVar 15) (tC (.int 0))) (tCons (tOp (rIxT K) (tVar 15) (tC (.int 1))) tNil))) [15]) (tLc (iList K (tVar 13)) (gName 15) (tYes) (tTup (tCons (tOp (rIxT K) (tVar 15) (tC (.int 1))) (tCons (tOp (rIxT K) (tVar 15) (tC (.int 0))) tNil))) [15])) (gName 14)) (tIfS (tTest (tOp (rInO K (Str × Str) true) (tTup (tCons (tOp (rIxL K) (tVar 3) (tVar 8)) (tCons (tOp (rIxL K) (tVar 3) (tVar 9)) tNil))) (tVar 14))) (tDrop (tBM K "list" rAppend (tVar 13) (tCons (tTup (tCons (tOp (rIxL K) (tVar 3) (tVar 8)) (tCons (tOp (rIxL K) (tVar 3) (tVar 9)) (tCons (tOp (rAddI) (tC (.int 1)) (tOp (rModI) (tCB (rInt1) (tCons (tOp (rIxL K) (tVar 0) (tOp (rAddI) (tOp (rAddI) (tVar 1) (tC (.int 91))) (tOp (rMulI) (tC (.int 3)) (tVar 6)))) tNil)) (tC (.int 9)))) tNil)))) tNil))) (tNext)))))) (tRet (tLst (tCons (tCB (rTupOf2 K) (tCons (tVar 2) tNil)) (tCons (tCB (rTupOf2 K) (tCons (tVar 3) tNil)) (tCons (tCB (rTupOf2 K) (tCons (tVar 5) tNil)) (tCons (tCB (rTupOf2 K) (tCons (tVar 13) tNil)) tNil))))))))))))
theorem b_Lparts {P : Program} {w : World} {K : Frg} {mg : Str → Option Value} {base : Heap} {C : Addr} (f_int : mg "int" = none)
    (f_range : mg "range" = none)
    (f_len : mg "len" = none)
    (f_tuple : mg "tuple" = none)
    (c_Lnames : C8.Cal P w K mg base 1 "_law_names" (spOf (R_Lnames K C)) [])
    {cdv : Value} {A : Around} {outer : List Env} {s : Shared} {H : Hp} {E : XK} {fad : Addr} (hr : Room 1 (A.deeper (envOfC "_law_parts" (defScope s_Lparts) s.heap.objs.size fad cdv))) :
    PSs (cxOf CX0 P w K mg base N_Lparts "_law_parts" (defScope s_Lparts) fad cdv A outer s H E).nox (defBody s_Lparts) (t_Lparts K C) := by
  have hu1 : (A.deeper (envOfC "_law_parts" (defScope s_Lparts) s.heap.objs.size fad cdv)).units + 1 < cLine := by have := hr.units; omega
  have hu3 : (A.deeper (envOfC "_law_parts" (defScope s_Lparts) s.heap.objs.size fad cdv)).units + 1 + 1 < cLine := by have := hr.units; omega
  exact pss_cons (ps_set (i := 2) sc_Lparts.nd rfl (.inl rfl) (C8.pe_c c_Lnames hr (by decide) (by rfl) (pa_cons (pe_ix ix_list (pv 0) (pv 1) (fun _ _ => rfl)) (pa_cons (pe_op op_add (pe_int) (pe_op op_mod (pe_callTy call_int1 (by rfl) f_int bt_int (pa_cons (pe_ix ix_list (pv 0) (pe_op op_add (pv 1) (pe_int)) (fun _ _ => rfl)) pa_nil)) (pe_int))) pa_nil))))
    (pss_cons (ps_set (i := 3) sc_Lparts.nd rfl (.inl rfl) (C8.pe_c c_Lnames hr (by decide) (by rfl) (pa_cons (pe_ix ix_list (pv 0) (pe_op op_add (pv 1) (pe_int)) (fun _ _ => rfl)) (pa_cons (pe_op op_add (pe_int) (pe_op op_mod (pe_callTy call_int1 (by rfl) f_int bt_int (pa_cons (pe_ix ix_list (pv 0) (pe_op op_add (pv 1) (pe_int)) (fun _ _ => rfl)) pa_nil)) (pe_int))) pa_nil))))
    (pss_cons (ps_set (i := 4) sc_Lparts.nd rfl (.inl rfl) (C8.pe_c c_Lnames hr (by decide) (by rfl) (pa_cons (pe_ix ix_list (pv 0) (pe_op op_add (pv 1) (pe_int)) (fun _ _ => rfl)) (pa_cons (pe_int) pa_nil))))
    (pss_cons (ps_set (i := 5) sc_Lparts.nd rfl (.inl rfl) (pe_lst (pa_nil)))
    (pss_cons (ps_for PassesOwn.never rfl (pi_range1 (by rfl) f_range (pa_cons (pe_op op_mod (pe_callTy call_int1 (by rfl) f_int bt_int (pa_cons (pe_ix ix_list (pv 0) (pe_op op_add (pv 1) (pe_int)) (fun _ _ => rfl)) pa_nil)) (pe_int)) pa_nil)) (pg_name (i := 6) sc_Lparts.nd rfl (.inl rfl)) (pss_cons (ps_set (i := 7) sc_Lparts.nd rfl (.inl rfl) (pe_op op_add (pe_op op_add (pv 1) (pe_int)) (pe_op op_mul (pe_int) (pv 6))))
    (pss_cons (ps_set (i := 8) sc_Lparts.nd rfl (.inl rfl) (pe_op op_mod (pe_callTy call_int1 (by rfl) f_int bt_int (pa_cons (pe_ix ix_list (pv 0) (pv 7) (fun _ _ => rfl)) pa_nil)) (pe_callB call_len_seq (by rfl) f_len bt_len (pa_cons (pv 3) pa_nil))))
    (pss_cons (ps_set (i := 9) sc_Lparts.nd rfl (.inl rfl) (pe_op op_mod (pe_callTy call_int1 (by rfl) f_int bt_int (pa_cons (pe_op op_add (pe_op op_add (pv 8) (pe_int)) (pe_op op_mod (pe_callTy call_int1 (by rfl) f_int bt_int (pa_cons (pe_ix ix_list (pv 0) (pe_op op_add (pv 7) (pe_int)) (fun _ _ => rfl)) pa_nil)) (pe_op op_sub (pe_callB call_len_seq (by rfl) f_len bt_len (pa_cons (pv 3) pa_nil)) (pe_int)))) pa_nil)) (pe_callB call_len_seq (by rfl) f_len bt_len (pa_cons (pv 3) pa_nil))))
    (pss_cons (ps_set (i := 10) sc_Lparts.nd rfl (.inl rfl) (pe_lst (pa_nil)))
    (pss_cons (ps_for PassesOwn.never rfl (pi_range1 (by rfl) f_range (pa_cons (pe_callB call_len_seq (by rfl) f_len bt_len (pa_cons (pv 2) pa_nil)) pa_nil)) (pg_name (i := 11) sc_Lparts.nd rfl (.inl rfl)) (pss_one (ps_if (pt_cmpR op_eq (pe_op op_mod (pe_callTy call_int1 (by rfl) f_int bt_int (pa_cons (pe_ix ix_list (pv 0) (pe_op op_add (pe_op op_add (pv 7) (pe_int)) (pv 11)) (fun _ _ => rfl)) pa_nil)) (pe_int)) (pe_int) (nomark _)) (pss_one (ps_expr (pe_bm PySem.F.plainAttrs_list PySem.F.slot_list_append PySem.F.type_list_append mt_append (pv 10) (pa_cons (pe_non) pa_nil)))) (pss_cons (ps_set (i := 12) sc_Lparts.nd rfl (.inl rfl) (pe_op op_add (pe_int) (pe_op op_mod (pe_callTy call_int1 (by rfl) f_int bt_int (pa_cons (pe_ix ix_list (pv 0) (pe_op op_add (pe_op op_add (pv 7) (pe_int)) (pv 11)) (fun _ _ => rfl)) pa_nil)) (pe_int))))
    (pss_one (ps_expr (pe_bm PySem.F.plainAttrs_list PySem.F.slot_list_append PySem.F.type_list_append mt_append (pv 10) (pa_cons (pe_tup (pa_cons (pv 12) (pa_cons (pe_op op_add (pv 12) (pe_op op_mod (pe_callTy call_int1 (by rfl) f_int bt_int (pa_cons (pe_ix ix_list (pv 0) (pe_op op_add (pe_op op_add (pv 7) (pe_int)) (pv 11)) (fun _ _ => rfl)) pa_nil)) (pe_int))) pa_nil))) pa_nil))))))))
    (pss_one (ps_expr (pe_bm PySem.F.plainAttrs_list PySem.F.slot_list_append PySem.F.type_list_append mt_append (pv 5) (pa_cons (pe_tup (pa_cons (pe_ix ix_list (pv 4) (pv 6) (fun _ _ => rfl)) (pa_cons (pe_ix ix_list (pv 3) (pv 8) (fun _ _ => rfl)) (pa_cons (pe_ix ix_list (pv 3) (pv 9) (fun _ _ => rfl)) (pa_cons (pe_callTy call_tupleF (by rfl) f_tuple bt_tuple (pa_cons (pv 10) pa_nil)) pa_nil))))) pa_nil))))))))))
    (pss_cons (ps_set (i := 13) sc_Lparts.nd rfl (.inl rfl) (pe_lst (pa_nil)))
    (pss_cons (ps_for PassesOwn.never rfl (pi_range1 (by rfl) f_range (pa_cons (pe_op op_mod (pe_callTy call_int1 (by rfl) f_int bt_int (pa_cons (pe_ix ix_list (pv 0) (pe_op op_add (pv 1) (pe_int)) (fun _ _ => rfl)) pa_nil)) (pe_int)) pa_nil)) (pg_name (i := 6) sc_Lparts.nd rfl (.inl rfl)) (pss_cons (ps_set (i := 8) sc_Lparts.nd rfl (.inl rfl) (pe_op op_mod (pe_callTy call_int1 (by rfl) f_int bt_int (pa_cons (pe_ix ix_list (pv 0) (pe_op op_add (pe_op op_add (pv 1) (pe_int)) (pe_op op_mul (pe_int) (pv 6))) (fun _ _ => rfl)) pa_nil)) (pe_callB call_len_seq (by rfl) f_len bt_len (pa_cons (pv 3) pa_nil))))
    (pss_cons (ps_set (i := 9) sc_Lparts.nd rfl (.inl rfl) (pe_op op_mod (pe_callTy call_int1 (by rfl) f_int bt_int (pa_cons (pe_op op_add (pe_op op_add (pv 8) (pe_int)) (pe_op op_mod (pe_callTy call_int1 (by rfl) f_int bt_int (pa_cons (pe_ix ix_list (pv 0) (pe_op op_add (pe_op op_add (pv 1) (pe_int)) (pe_op op_mul (pe_int) (pv 6))) (fun _ _ => rfl)) pa_nil)) (pe_op op_sub (pe_callB call_len_seq (by rfl) f_len bt_len (pa_cons (pv 3) pa_nil)) (pe_int)))) pa_nil)) (pe_callB call_len_seq (by rfl) f_len bt_len (pa_cons (pv 3) pa_nil))))
    (pss_cons (ps_set (i := 14) sc_Lparts.nd rfl (.inl rfl) (pe_op op_cat (pe_lc (own := [("_law_path", 15)]) (g := gName 15) (tt := tYes) rfl sc_Lparts.nd (pi_list (pv 13)) (blkOk_by (N := N_Lparts) (sc := defScope s_Lparts) (by decide +kernel)) (fun _ _ _ _ _ => pg_name (i := 15) sc_Lparts.nd rfl (.inl rfl)) (fun _ _ _ _ _ => pts_nil) (fun _ _ _ _ _ => pe_tup (pa_cons (pe_ix ix_tup (pv 15) (pe_int) (fun _ _ => rfl)) (pa_cons (pe_ix ix_tup (pv 15) (pe_int) (fun _ _ => rfl)) pa_nil)))) (pe_lc (own := [("_law_path", 15)]) (g := gName 15) (tt := tYes) rfl sc_Lparts.nd (pi_list (pv 13)) (blkOk_by (N := N_Lparts) (sc := defScope s_Lparts) (by decide +kernel)) (fun _ _ _ _ _ => pg_name (i := 15) sc_Lparts.nd rfl (.inl rfl)) (fun _ _ _ _ _ => pts_nil) (fun _ _ _ _ _ => pe_tup (pa_cons (pe_ix ix_tup (pv 15) (pe_int) (fun _ _ => rfl)) (pa_cons (pe_ix ix_tup (pv 15) (pe_int) (fun _ _ => rfl)) pa_nil))))))
    (pss_one (ps_if (pt_cmpR (op_notInO (Str × Str) (hu3)) (pe_tup (pa_cons (pe_ix ix_list (pv 3) (pv 8) (fun _ _ => rfl)) (pa_cons (pe_ix ix_list (pv 3) (pv 9) (fun _ _ => rfl)) pa_nil))) (pv 14) (by rfl)) (pss_one (ps_expr (pe_bm PySem.F.plainAttrs_list PySem.F.slot_list_append PySem.F.type_list_append mt_append (pv 13) (pa_cons (pe_tup (pa_cons (pe_ix ix_list (pv 3) (pv 8) (fun _ _ => rfl)) (pa_cons (pe_ix ix_list (pv 3) (pv 9) (fun _ _ => rfl)) (pa_cons (pe_op op_add (pe_int) (pe_op op_mod (pe_callTy call_int1 (by rfl) f_int bt_int (pa_cons (pe_ix ix_list (pv 0) (pe_op op_add (pe_op op_add (pv 1) (pe_int)) (pe_op op_mul (pe_int) (pv 6))) (fun _ _ => rfl)) pa_nil)) (pe_int))) pa_nil)))) pa_nil)))) (pss_nil)))))))
    (pss_one (ps_ret (pe_lst (pa_cons (pe_callTy call_tupleF (by rfl) f_tuple bt_tuple (pa_cons (pv 2) pa_nil)) (pa_cons (pe_callTy call_tupleF (by rfl) f_tuple bt_tuple (pa_cons (pv 3) pa_nil)) (pa_cons (pe_callTy call_tupleF (by rfl) f_tuple bt_tuple (pa_cons (pv 5) pa_nil)) (pa_cons (pe_callTy call_tupleF (by rfl) f_tuple bt_tuple (pa_cons (pv 13) pa_nil)) pa_nil)))))))))))))
/-! ### _law_weather -/
def t_Lweather (K : Frg) (C : Addr) : TS :=
  tSeq (tAsg (tLst (tCons (tTup (tCons (tC (.int 0)) (tCons (tOp (rIxT K) (tOp (rIxL K) (tVar 2) (tC (.int 0))) (tOp (rModI) (tCB (rInt1) (tCons (tOp (rIxL K) (tVar 0) (tVar 1)) tNil)) (tCB (rLen2 K) (tCons (tOp (rIxL K) (tVar 2) (tC (.int 0))) tNil)))) tNil))) tNil)) (gName 3)) (tSeq (tFor (iRng1 (tCons (tOp (rModI) (tCB (rInt1) (tCons (tOp (rIxL K) (tVar 0) (tOp (rAddI) (tVar 1) (tC (.int 1)))) tNil)) (tC (.int 4))) tNil)) (gName 4) (tDrop (tBM K "list" rAppend (tVar 3) (tCons (tTup (tCons (tOp (rAddI) (tOp (rAddI) (tOp (rIxT K) (tOp (rIxL K) (tVar 3) (tVar 4)) (tC (.int 0))) (tC (.int 1))) (tOp (rModI) (tCB (rInt1) (tCons (tOp (rIxL K) (tVar 0) (tOp (rAddI) (tOp (rAddI) (tVar 1) (tC (.int 2))) (tVar 4))) tNil)) (tC (.int 12)))) (tCons (tOp (rIxT K) (tOp (rIxL K) (tVar 2) (tC (.int 0))) (tOp (rModI) (tCB (rInt1) (tCons (tOp (rIxL K) (tVar 0) (tOp (rAddI) (tOp (rAddI) (tVar 1) (tC (.int 5))) (tVar 4))) tNil)) (tCB (rLen2 K) (tCons (tOp (rIxL K) (tVar 2) (tC (.int 0))) tNil)))) tNil))) tNil)))) (tRet (tVar 3)))
theorem b_Lweather {P : Program} {w : World} {K : Frg} {mg : Str → Option Value} {base : Heap} {C : Addr} (f_int : mg "int" = none)
    (f_len : mg "len" = none)
    (f_range : mg "range" = none)
    {cdv : Value} {A : Around} {outer : List Env} {s : Shared} {H : Hp} {E : XK} {fad : Addr} (hr : Room 0 (A.deeper (envOfC "_law_weather" (defScope s_Lweather) s.heap.objs.size fad cdv))) :
    PSs (cxOf CX0 P w K mg base N_Lweather "_law_weather" (defScope s_Lweather) fad cdv A outer s H E).nox (defBody s_Lweather) (t_Lweather K C) := by
  exact pss_cons (ps_set (i := 3) sc_Lweather.nd rfl (.inl rfl) (pe_lst (pa_cons (pe_tup (pa_cons (pe_int) (pa_cons (pe_ix ix_tup (pe_ix ix_list (pv 2) (pe_int) (fun _ _ => rfl)) (pe_op op_mod (pe_callTy call_int1 (by rfl) f_int bt_int (pa_cons (pe_ix ix_list (pv 0) (pv 1) (fun _ _ => rfl)) pa_nil)) (pe_callB call_len_seq (by rfl) f_len bt_len (pa_cons (pe_ix ix_list (pv 2) (pe_int) (fun _ _ => rfl)) pa_nil))) (fun _ _ => rfl)) pa_nil))) pa_nil)))
    (pss_cons (ps_for PassesOwn.never rfl (pi_range1 (by rfl) f_range (pa_cons (pe_op op_mod (pe_callTy call_int1 (by rfl) f_int bt_int (pa_cons (pe_ix ix_list (pv 0) (pe_op op_add (pv 1) (pe_int)) (fun _ _ => rfl)) pa_nil)) (pe_int)) pa_nil)) (pg_name (i := 4) sc_Lweather.nd rfl (.inl rfl)) (pss_one (ps_expr (pe_bm PySem.F.plainAttrs_list PySem.F.slot_list_append PySem.F.type_list_append mt_append (pv 3) (pa_cons (pe_tup (pa_cons (pe_op op_add (pe_op op_add (pe_ix ix_tup (pe_ix ix_list (pv 3) (pv 4) (fun _ _ => rfl)) (pe_int) (fun _ _ => rfl)) (pe_int)) (pe_op op_mod (pe_callTy call_int1 (by rfl) f_int bt_int (pa_cons (pe_ix ix_list (pv 0) (pe_op op_add (pe_op op_add (pv 1) (pe_int)) (pv 4)) (fun _ _ => rfl)) pa_nil)) (pe_int))) (pa_cons (pe_ix ix_tup (pe_ix ix_list (pv 2) (pe_int) (fun _ _ => rfl)) (pe_op op_mod (pe_callTy call_int1 (by rfl) f_int bt_int (pa_cons (pe_ix ix_list (pv 0) (pe_op op_add (pe_op op_add (pv 1) (pe_int)) (pv 4)) (fun _ _ => rfl)) pa_nil)) (pe_callB call_len_seq (by rfl) f_len bt_len (pa_cons (pe_ix ix_list (pv 2) (pe_int) (fun _ _ => rfl)) pa_nil))) (fun _ _ => rfl)) pa_nil))) pa_nil)))))
    (pss_one (ps_ret (pv 3))))
/-! ### _law_wind -/
def t_Lwind (K : Frg) (C : Addr) : TS :=
  tSeq (tAsg (tOp (rIxT K) (tOp (rIxL K) (tVar 1) (tC (.int 0))) (tC (.int 1))) (gName 3)) (tSeq (tFor (iList K (tVar 1)) (gName 4) (tIfS (tTest (tOp rLe (tOp (rIxT K) (tVar 4) (tC (.int 0))) (tVar 2))) (tAsg (tOp (rIxT K) (tVar 4) (tC (.int 1))) (gName 3)) (tNext))) (tRet (tBT K (rTIx K) (tOp (rIxL K) (tVar 0) (tC (.int 0))) (tCons (tVar 3) tNil))))
theorem b_Lwind {P : Program} {w : World} {K : Frg} {mg : Str → Option Value} {base : Heap} {C : Addr} 
    {cdv : Value} {A : Around} {outer : List Env} {s : Shared} {H : Hp} {E : XK} {fad : Addr} (hr : Room 0 (A.deeper (envOfC "_law_wind" (defScope s_Lwind) s.heap.objs.size fad cdv))) :
    PSs (cxOf CX0 P w K mg base N_Lwind "_law_wind" (defScope s_Lwind) fad cdv A outer s H E).nox (defBody s_Lwind) (t_Lwind K C) := by
  exact pss_cons (ps_set (i := 3) sc_Lwind.nd rfl (.inl rfl) (pe_ix ix_tup (pe_ix ix_list (pv 1) (pe_int) (fun _ _ => rfl)) (pe_int) (fun _ _ => rfl)))
    (pss_cons (ps_for PassesOwn.never rfl (pi_list (pv 1)) (pg_name (i := 4) sc_Lwind.nd rfl (.inl rfl)) (pss_one (ps_if (pt_cmpR op_le (pe_ix ix_tup (pv 4) (pe_int) (fun _ _ => rfl)) (pv 2) (nomark _)) (pss_one (ps_set (i := 3) sc_Lwind.nd rfl (.inl rfl) (pe_ix ix_tup (pv 4) (pe_int) (fun _ _ => rfl)))) (pss_nil))))
    (pss_one (ps_ret (pe_bt PySem.F.slot_tuple_index PySem.F.type_tuple_index mt_tup_index (pe_ix ix_list (pv 0) (pe_int) (fun _ _ => rfl)) (pa_cons (pv 3) pa_nil)))))
/-! ### _law_caught -/
def t_Lcaught (K : Frg) (C : Addr) : TS :=
  tSeq (tAsg (tC .non) (gName 5)) (tSeq (tFor (iList K (tOp (rCat) (tLst (tCons (tVar 3) tNil)) (tLc (iList K (tVar 1)) (gName 8) (tTest (tOp rGt (tOp (rIxT K) (tVar 8) (tC (.int 0))) (tVar 3))) (tOp (rIxT K) (tVar 8) (tC (.int 0))) [8]))) (gName 6) (tSeq (tAsg (tOp (rIxT K) (tOp (rIxT K) (tVar 2) (tC (.int 3))) (tCall (spOf (R_Lwind K C)) [] E0 (tCons (tVar 0) (tCons (tVar 1) (tCons (tVar 6) tNil))))) (gName 7)) (tIfS (tAnd (tB (tNotN (tVar 7))) (tOr (tB (tIsN (tVar 5))) (tTest (tOp rLt (tOp (rAddI) (tVar 6) (tOp (rIxT K) (tVar 7) (tVar 4))) (tVar 5))))) (tAsg (tOp (rAddI) (tVar 6) (tOp (rIxT K) (tVar 7) (tVar 4))) (gName 5)) (tNext)))) (tRet (tVar 5)))
theorem b_Lcaught {P : Program} {w : World} {K : Frg} {mg : Str → Option Value} {base : Heap} {C : Addr} (c_Lwind : C8.Cal P w K mg base 1 "_law_wind" (spOf (R_Lwind K C)) [])
    {cdv : Value} {A : Around} {outer : List Env} {s : Shared} {H : Hp} {E : XK} {fad : Addr} (hr : Room 1 (A.deeper (envOfC "_law_caught" (defScope s_Lcaught) s.heap.objs.size fad cdv))) :
    PSs (cxOf CX0 P w K mg base N_Lcaught "_law_caught" (defScope s_Lcaught) fad cdv A outer s H E).nox (defBody s_Lcaught) (t_Lcaught K C) := by
  exact pss_cons (ps_set (i := 5) sc_Lcaught.nd rfl (.inl rfl) (pe_non))
    (pss_cons (ps_for PassesOwn.never rfl (pi_list (pe_op op_cat (pe_lst (pa_cons (pv 3) pa_nil)) (pe_lc (own := [("_law_row_here", 8)]) (g := gName 8) (tt := tTest (tOp rGt (tOp (rIxT K) (tVar 8) (tC (.int 0))) (tVar 3))) rfl sc_Lcaught.nd (pi_list (pv 1)) (blkOk_by (N := N_Lcaught) (sc := defScope s_Lcaught) (by decide +kernel)) (fun _ _ _ _ _ => pg_name (i := 8) sc_Lcaught.nd rfl (.inl rfl)) (fun _ _ _ _ _ => pts_one (pt_cmpR op_gt (pe_ix ix_tup (pv 8) (pe_int) (fun _ _ => rfl)) (pv 3) (nomark _))) (fun _ _ _ _ _ => pe_ix ix_tup (pv 8) (pe_int) (fun _ _ => rfl))))) (pg_name (i := 6) sc_Lcaught.nd rfl (.inl rfl)) (pss_cons (ps_set (i := 7) sc_Lcaught.nd rfl (.inl rfl) (pe_ix ix_tup (pe_ix ix_tup (pv 2) (pe_int) (fun _ _ => rfl)) (C8.pe_c c_Lwind hr (by decide) (by rfl) (pa_cons (pv 0) (pa_cons (pv 1) (pa_cons (pv 6) pa_nil)))) (fun _ _ => rfl)))
    (pss_one (ps_if ((pw_and (pt_cmp (pc_notN (pv 7))) (pw_and1 ((pw_or (pt_cmp (pc_isN (pv 5))) (pw_or1 (pt_cmpR op_lt (pe_op op_add (pv 6) (pe_ix ix_tup (pv 7) (pv 4) (fun _ _ => rfl))) (pv 5) (nomark _)))).pt))).pt) (pss_one (ps_set (i := 5) sc_Lcaught.nd rfl (.inl rfl) (pe_op op_add (pv 6) (pe_ix ix_tup (pv 7) (pv 4) (fun _ _ => rfl))))) (pss_nil)))))
    (pss_one (ps_ret (pv 5))))
/-! ### _law_fire -/
def t_Lfire (K : Frg) (C : Addr) : TS :=
  tSeq (tAsg (tDNewK) (gName 5)) (tSeq (tFor (iList K (tVar 3)) (gTup K 2 (gCons (gName 6) (gCons (gName 7) (gNil)))) (sDPut (tVar 5) (tVar 6) (tCB (rMin2) (tCons (tVar 7) (tCons (tDGet2 (tVar 5) (tVar 6) (tVar 7)) tNil))))) (tSeq (tAsg (tDNewK) (gName 8)) (tSeq (tFor (iList K (tVar 2)) (gTup K 2 (gCons (gName 6) (gCons (gName 7) (gNil)))) (tIfS (tAnd (tOr (tB (tDNotIn (tVar 6) (tVar 5))) (tTest (tOp rLt (tVar 7) (tDGet (tVar 5) (tVar 6))))) (tOr (tB (tDNotIn (tVar 6) (tVar 8))) (tTest (tOp rLt (tVar 7) (tDGet (tVar 8) (tVar 6)))))) (sDPut (tVar 8) (tVar 6) (tVar 7)) (tNext))) (tSeq (tFor (iRng1 (tCons (tOp (rAddI) (tCB (rLen2 K) (tCons (tOp (rIxL K) (tVar 0) (tC (.int 1))) tNil)) (tC (.int 1))) tNil)) (gName 9) (tFor (iTup K (tOp (rIxL K) (tVar 0) (tC (.int 2)))) (gName 10) (tIfS (tB (tDIn (tOp (rIxT K) (tVar 10) (tC (.int 1))) (tVar 8))) (tSeq (tAsg (tCall (spOf (R_Lcaught K C)) [] E0 (tCons (tVar 0) (tCons (tVar 1) (tCons (tVar 10) (tCons (tDGet (tVar 8) (tOp (rIxT K) (tVar 10) (tC (.int 1)))) (tCons (tVar 4) tNil)))))) (gName 11)) (tIfS (tAnd (tB (tNotN (tVar 11))) (tOr (tB (tDNotIn (tOp (rIxT K) (tVar 10) (tC (.int 2))) (tVar 5))) (tTest (tOp rLt (tVar 11) (tDGet (tVar 5) (tOp (rIxT K) (tVar 10) (tC (.int 2)))))))) (tIfS (tOr (tB (tDNotIn (tOp (rIxT K) (tVar 10) (tC (.int 2))) (tVar 8))) (tTest (tOp rLt (tVar 11) (tDGet (tVar 8) (tOp (rIxT K) (tVar 10) (tC (.int 2))))))) (sDPut (tVar 8) (tOp (rIxT K) (tVar 10) (tC (.int 2))) (tVar 11)) (tNext)) (tNext))) (tNext)))) (tRet (tVar 8))))))
theorem b_Lfire {P : Program} {w : World} {K : Frg} {mg : Str → Option Value} {base : Heap} {C : Addr} (f_min : mg "min" = none)
    (f_len : mg "len" = none)
    (f_range : mg "range" = none)
    (c_Lcaught : C8.Cal P w K mg base 2 "_law_caught" (spOf (R_Lcaught K C)) [])
    {cdv : Value} {A : Around} {outer : List Env} {s : Shared} {H : Hp} {E : XK} {fad : Addr} (hr : Room 2 (A.deeper (envOfC "_law_fire" (defScope s_Lfire) s.heap.objs.size fad cdv))) :
    PSs (cxOf CX0 P w K mg base N_Lfire "_law_fire" (defScope s_Lfire) fad cdv A outer s H E).nox (defBody s_Lfire) (t_Lfire K C) := by
  have hu1 : (A.deeper (envOfC "_law_fire" (defScope s_Lfire) s.heap.objs.size fad cdv)).units + 1 < cLine := by have := hr.units; omega
  have hu3 : (A.deeper (envOfC "_law_fire" (defScope s_Lfire) s.heap.objs.size fad cdv)).units + 1 + 1 < cLine := by have := hr.units; omega
  exact pss_cons (ps_set (i := 5) sc_Lfire.nd rfl (.inl rfl) (pe_dnewK))
    (pss_cons (ps_for PassesOwn.never rfl (pi_list (pv 3)) (pg_tup rfl (pgs_cons (pg_name (i := 6) sc_Lfire.nd rfl (.inl rfl)) (pgs_cons (pg_name (i := 7) sc_Lfire.nd rfl (.inl rfl)) (pgs_nil)))) (pss_one (ps_dput hu1 (pv 5) (pv 6) (pe_callB (call_min2 rfl) (by rfl) f_min bt_min (pa_cons (pv 7) (pa_cons (pe_dget2 hu1 (pv 5) (pv 6) (pv 7) ⟨rfl, rfl, rfl, rfl⟩) pa_nil))) (by rfl))))
    (pss_cons (ps_set (i := 8) sc_Lfire.nd rfl (.inl rfl) (pe_dnewK))
    (pss_cons (ps_for PassesOwn.never rfl (pi_list (pv 2)) (pg_tup rfl (pgs_cons (pg_name (i := 6) sc_Lfire.nd rfl (.inl rfl)) (pgs_cons (pg_name (i := 7) sc_Lfire.nd rfl (.inl rfl)) (pgs_nil)))) (pss_one (ps_if ((pw_and ((pw_or (pt_cmp (pc_dnotin hu1 (pv 6) (pv 5))) (pw_or1 (pt_cmpR op_lt (pv 7) (pe_dget hu1 (pv 5) (pv 6) (fun _ _ => rfl)) (nomark _)))).pt) (pw_and1 ((pw_or (pt_cmp (pc_dnotin hu1 (pv 6) (pv 8))) (pw_or1 (pt_cmpR op_lt (pv 7) (pe_dget hu1 (pv 8) (pv 6) (fun _ _ => rfl)) (nomark _)))).pt))).pt) (pss_one (ps_dput hu1 (pv 8) (pv 6) (pv 7) (by rfl))) (pss_nil))))
    (pss_cons (ps_for PassesOwn.never rfl (pi_range1 (by rfl) f_range (pa_cons (pe_op op_add (pe_callB call_len_seq (by rfl) f_len bt_len (pa_cons (pe_ix ix_list (pv 0) (pe_int) (fun _ _ => rfl)) pa_nil)) (pe_int)) pa_nil)) (pg_name (i := 9) sc_Lfire.nd rfl (.inl rfl)) (pss_one (ps_for PassesOwn.never rfl (pi_tup (pe_ix ix_list (pv 0) (pe_int) (fun _ _ => rfl))) (pg_name (i := 10) sc_Lfire.nd rfl (.inl rfl)) (pss_one (ps_if (pt_cmp (pc_din hu1 (pe_ix ix_tup (pv 10) (pe_int) (fun _ _ => rfl)) (pv 8))) (pss_cons (ps_set (i := 11) sc_Lfire.nd rfl (.inl rfl) (C8.pe_c c_Lcaught hr (by decide) (by rfl) (pa_cons (pv 0) (pa_cons (pv 1) (pa_cons (pv 10) (pa_cons (pe_dget hu1 (pv 8) (pe_ix ix_tup (pv 10) (pe_int) (fun _ _ => rfl)) (fun _ _ => rfl)) (pa_cons (pv 4) pa_nil)))))))
    (pss_one (ps_if ((pw_and (pt_cmp (pc_notN (pv 11))) (pw_and1 ((pw_or (pt_cmp (pc_dnotin hu1 (pe_ix ix_tup (pv 10) (pe_int) (fun _ _ => rfl)) (pv 5))) (pw_or1 (pt_cmpR op_lt (pv 11) (pe_dget hu1 (pv 5) (pe_ix ix_tup (pv 10) (pe_int) (fun _ _ => rfl)) (fun _ _ => rfl)) (nomark _)))).pt))).pt) (pss_one (ps_if ((pw_or (pt_cmp (pc_dnotin hu1 (pe_ix ix_tup (pv 10) (pe_int) (fun _ _ => rfl)) (pv 8))) (pw_or1 (pt_cmpR op_lt (pv 11) (pe_dget hu1 (pv 8) (pe_ix ix_tup (pv 10) (pe_int) (fun _ _ => rfl)) (fun _ _ => rfl)) (nomark _)))).pt) (pss_one (ps_dput hu1 (pv 8) (pe_ix ix_tup (pv 10) (pe_int) (fun _ _ => rfl)) (pv 11) (by rfl))) (pss_nil))) (pss_nil)))) (pss_nil))))))
    (pss_one (ps_ret (pv 8)))))))
/-! ### _law_rows -/
def t_Lrows (K : Frg) (C : Addr) : TS :=
  tRet (tLc (iRng1 (tCons (tVar 2) tNil)) (gName 5) (tYes) (tTup (tCons (tOp (rIxT K) (tOp (rIxL K) (tVar 3) (tC (.int 1))) (tOp (rModI) (tCB (rInt1) (tCons (tOp (rIxL K) (tVar 0) (tOp (rAddI) (tVar 1) (tOp (rMulI) (tC (.int 2)) (tVar 5)))) tNil)) (tCB (rLen2 K) (tCons (tOp (rIxL K) (tVar 3) (tC (.int 1))) tNil)))) (tCons (tOp (rModI) (tCB (rInt1) (tCons (tOp (rIxL K) (tVar 0) (tOp (rAddI) (tOp (rAddI) (tVar 1) (tOp (rMulI) (tC (.int 2)) (tVar 5))) (tC (.int 1)))) tNil)) (tVar 4)) tNil))) [5])
theorem b_Lrows {P : Program} {w : World} {K : Frg} {mg : Str → Option Value} {base : Heap} {C : Addr} (f_range : mg "range" = none)
    (f_int : mg "int" = none)
    (f_len : mg "len" = none)
    {cdv : Value} {A : Around} {outer : List Env} {s : Shared} {H : Hp} {E : XK} {fad : Addr} (hr : Room 0 (A.deeper (envOfC "_law_rows" (defScope s_Lrows) s.heap.objs.size fad cdv))) :
    PSs (cxOf CX0 P w K mg base N_Lrows "_law_rows" (defScope s_Lrows) fad cdv A outer s H E).nox (defBody s_Lrows) (t_Lrows K C) := by
  exact pss_one (ps_ret (pe_lc (own := [("_law_k", 5)]) (g := gName 5) (tt := tYes) rfl sc_Lrows.nd (pi_range1 (by rfl) f_range (pa_cons (pv 2) pa_nil)) (blkOk_by (N := N_Lrows) (sc := defScope s_Lrows) (by decide +kernel)) (fun _ _ _ _ _ => pg_name (i := 5) sc_Lrows.nd rfl (.inl rfl)) (fun _ _ _ _ _ => pts_nil) (fun _ _ _ _ _ => pe_tup (pa_cons (pe_ix ix_tup (pe_ix ix_list (pv 3) (pe_int) (fun _ _ => rfl)) (pe_op op_mod (pe_callTy call_int1 (by rfl) f_int bt_int (pa_cons (pe_ix ix_list (pv 0) (pe_op op_add (pv 1) (pe_op op_mul (pe_int) (pv 5))) (fun _ _ => rfl)) pa_nil)) (pe_callB call_len_seq (by rfl) f_len bt_len (pa_cons (pe_ix ix_list (pv 3) (pe_int) (fun _ _ => rfl)) pa_nil))) (fun _ _ => rfl)) (pa_cons (pe_op op_mod (pe_callTy call_int1 (by rfl) f_int bt_int (pa_cons (pe_ix ix_list (pv 0) (pe_op op_add (pe_op op_add (pv 1) (pe_op op_mul (pe_int) (pv 5))) (pe_int)) (fun _ _ => rfl)) pa_nil)) (pv 4)) pa_nil)))))
/-! ### _law_land -/
def t_Lland (K : Frg) (C : Addr) : TS :=
  tRet (tMakeK C 0 4 (sp_init K C) (fun us ws => us ++ ws) E0 tNil (tCons (tCB (rLstOf K) (tCons (tOp (rIxL K) (tVar 0) (tC (.int 0))) tNil)) (tCons (tCB (rLstOf K) (tCons (tOp (rIxL K) (tVar 0) (tC (.int 1))) tNil)) (tCons (tCB (rLstOf K) (tCons (tOp (rIxL K) (tVar 0) (tC (.int 2))) tNil)) (tCons (tCB (rLstOf K) (tCons (tOp (rIxL K) (tVar 0) (tC (.int 3))) tNil)) (tNil))))))
theorem b_Lland {P : Program} {w : World} {K : Frg} {mg : Str → Option Value} {base : Heap} {C : Addr} (f_list : mg "list" = none)
    (mL : MakeL P w K mg base 4 C (sp_init K C))
    {cdv : Value} {A : Around} {outer : List Env} {s : Shared} {H : Hp} {E : XK} {fad : Addr} (hr : Room 5 (A.deeper (envOfC "_law_land" (defScope s_Lland) s.heap.objs.size fad cdv))) :
    PSs (cxOf CX0 P w K mg base N_Lland "_law_land" (defScope s_Lland) fad cdv A outer s H E).nox (defBody s_Lland) (t_Lland K C) := by
  exact pss_one (ps_ret (pe_landC mL hr (by decide) (by rfl) (pk_cons (pe_callTy call_list_of (by rfl) f_list bt_list (pa_cons (pe_ix ix_list (pv 0) (pe_int) (fun _ _ => rfl)) pa_nil)) (pk_cons (pe_callTy call_list_of (by rfl) f_list bt_list (pa_cons (pe_ix ix_list (pv 0) (pe_int) (fun _ _ => rfl)) pa_nil)) (pk_cons (pe_callTy call_list_of (by rfl) f_list bt_list (pa_cons (pe_ix ix_list (pv 0) (pe_int) (fun _ _ => rfl)) pa_nil)) (pk_cons (pe_callTy call_list_of (by rfl) f_list bt_list (pa_cons (pe_ix ix_list (pv 0) (pe_int) (fun _ _ => rfl)) pa_nil)) (pk_nil)))))))
/-! ### _law_case -/
def t_Lcase (K : Frg) (C : Addr) : TS :=
  tSeq (tAsg (tCall (spOf (R_Lparts K C)) [] E0 (tCons (tVar 0) (tCons (tC (.int 0)) tNil))) (gName 1)) (tSeq (tAsg (tCall (spOf (R_Lweather K C)) [] E0 (tCons (tVar 0) (tCons (tC (.int 110)) (tCons (tVar 1) tNil)))) (gName 2)) (tSeq (tAsg (tCall (spOf (R_Lrows K C)) [] E0 (tCons (tVar 0) (tCons (tC (.int 120)) (tCons (tCall (spOf (R_Lpick K C)) [] E0 (tCons (tVar 0) (tCons (tC (.int 119)) (tCons (tC (.int 4)) tNil)))) (tCons (tVar 1) (tCons (tC (.int 12)) tNil)))))) (gName 3)) (tSeq (tIfS (tAnd (tTest (tOp rEq (tCB (rLen2 K) (tCons (tVar 3) tNil)) (tC (.int 0)))) (tTest (tOp rGt (tCall (spOf (R_Lpick K C)) [] E0 (tCons (tVar 0) (tCons (tC (.int 118)) (tCons (tC (.int 4)) tNil)))) (tC (.int 0))))) (tAsg (tCall (spOf (R_Lrows K C)) [] E0 (tCons (tVar 0) (tCons (tC (.int 120)) (tCons (tC (.int 1)) (tCons (tVar 1) (tCons (tC (.int 4)) tNil)))))) (gName 3)) (tNext)) (tSeq (tAsg (tCall (spOf (R_Lrows K C)) [] E0 (tCons (tVar 0) (tCons (tC (.int 128)) (tCons (tCall (spOf (R_Lpick K C)) [] E0 (tCons (tVar 0) (tCons (tC (.int 127)) (tCons (tC (.int 4)) tNil)))) (tCons (tVar 1) (tCons (tC (.int 30)) tNil)))))) (gName 4)) (tRet (tTup (tCons (tVar 1) (tCons (tVar 2) (tCons (tVar 3) (tCons (tVar 4) tNil))))))))))
theorem b_Lcase {P : Program} {w : World} {K : Frg} {mg : Str → Option Value} {base : Heap} {C : Addr} (f_len : mg "len" = none)
    (c_Lparts : C8.Cal P w K mg base 2 "_law_parts" (spOf (R_Lparts K C)) [])
    (c_Lweather : C8.Cal P w K mg base 1 "_law_weather" (spOf (R_Lweather K C)) [])
    (c_Lpick : C8.Cal P w K mg base 1 "_law_pick" (spOf (R_Lpick K C)) [])
    (c_Lrows : C8.Cal P w K mg base 1 "_law_rows" (spOf (R_Lrows K C)) [])
    {cdv : Value} {A : Around} {outer : List Env} {s : Shared} {H : Hp} {E : XK} {fad : Addr} (hr : Room 2 (A.deeper (envOfC "_law_case" (defScope s_Lcase) s.heap.objs.size fad cdv))) :
    PSs (cxOf CX0 P w K mg base N_Lcase "_law_case" (defScope s_Lcase) fad cdv A outer s H E).nox (defBody s_Lcase) (t_Lcase K C) := by
  exact pss_cons (ps_set (i := 1) sc_Lcase.nd rfl (.inl rfl) (C8.pe_c c_Lparts hr (by decide) (by rfl) (pa_cons (pv 0) (pa_cons (pe_int) pa_nil))))
    (pss_cons (ps_set (i := 2) sc_Lcase.nd rfl (.inl rfl) (C8.pe_c c_Lweather hr (by decide) (by rfl) (pa_cons (pv 0) (pa_cons (pe_int) (pa_cons (pv 1) pa_nil)))))
    (pss_cons (ps_set (i := 3) sc_Lcase.nd rfl (.inl rfl) (C8.pe_c c_Lrows hr (by decide) (by rfl) (pa_cons (pv 0) (pa_cons (pe_int) (pa_cons (C8.pe_c c_Lpick hr (by decide) (by rfl) (pa_cons (pv 0) (pa_cons (pe_int) (pa_cons (pe_int) pa_nil)))) (pa_cons (pv 1) (pa_cons (pe_int) pa_nil)))))))
    (pss_cons (ps_if ((pw_and (pt_cmpR op_eq (pe_callB call_len_seq (by rfl) f_len bt_len (pa_cons (pv 3) pa_nil)) (pe_int) (nomark _)) (pw_and1 (pt_cmpR op_gt (C8.pe_c c_Lpick hr (by decide) (by rfl) (pa_cons (pv 0) (pa_cons (pe_int) (pa_cons (pe_int) pa_nil)))) (pe_int) (nomark _)))).pt) (pss_one (ps_set (i := 3) sc_Lcase.nd rfl (.inl rfl) (C8.pe_c c_Lrows hr (by decide) (by rfl) (pa_cons (pv 0) (pa_cons (pe_int) (pa_cons (pe_int) (pa_cons (pv 1) (pa_cons (pe_int) pa_nil)))))))) (pss_nil))
    (pss_cons (ps_set (i := 4) sc_Lcase.nd rfl (.inl rfl) (C8.pe_c c_Lrows hr (by decide) (by rfl) (pa_cons (pv 0) (pa_cons (pe_int) (pa_cons (C8.pe_c c_Lpick hr (by decide) (by rfl) (pa_cons (pv 0) (pa_cons (pe_int) (pa_cons (pe_int) pa_nil)))) (pa_cons (pv 1) (pa_cons (pe_int) pa_nil)))))))
    (pss_one (ps_ret (pe_tup (pa_cons (pv 1) (pa_cons (pv 2) (pa_cons (pv 3) (pa_cons (pv 4) pa_nil)))))))))))
/-! ### _law_numbers_of -/
def t_Lnumbers_of (K : Frg) (C : Addr) : TS :=
  tSeq (tAsg (tLst (tNil)) (gName 3)) (tSeq (tFor (iRng1 (tCons (tCB (rLen2 K) (tCons (tOp (rIxL K) (tVar 2) (tC (.int 2))) tNil)) tNil)) (gName 4) (tSeq (tAsg (tLst (tNil)) (gName 5)) (tSeq (tFor (iRng1 (tCons (tCB (rLen2 K) (tCons (tOp (rIxL K) (tVar 2) (tC (.int 0))) tNil)) tNil)) (gName 6) (tSeq (tAsg (tOp (rIxT K) (tOp (rIxT K) (tOp (rIxT K) (tOp (rIxL K) (tVar 2) (tC (.int 2))) (tVar 4)) (tC (.int 3))) (tVar 6)) (gName 7)) (tIfS (tB (tIsN (tVar 7))) (tDrop (tBM K "list" rAppend (tVar 5) (tCons (tC .non) tNil))) (tSeq (tAsg (tOp (rAddI) (tOp (rIxT K) (tVar 7) (tC (.int 0))) (tCall (spOf (R_Lpick K C)) [] E0 (tCons (tVar 0) (tCons (tOp (rAddI) (tOp (rAddI) (tVar 1) (tOp (rMulI) (tC (.int 3)) (tVar 4))) (tVar 6)) (tCons (tOp (rAddI) (tOp (rSubI) (tOp (rIxT K) (tVar 7) (tC (.int 1))) (tOp (rIxT K) (tVar 7) (tC (.int 0)))) (tC (.int 1))) tNil))))) (gName 8)) (tDrop (tBM K "list" rAppend (tVar 5) (tCons (tTup (tCons (tVar 8) (tCons (tVar 8) tNil))) tNil))))))) (tDrop (tBM K "list" rAppend (tVar 3) (tCons (tOp (rCatT K) (tSl (rSlT K) (tOp (rIxT K) (tOp (rIxL K) (tVar 2) (tC (.int 2))) (tVar 4)) (tNoPart) (tPart (tC (.int 3)))) (tTup (tCons (tCB (rTupOf2 K) (tCons (tVar 5) tNil)) tNil))) tNil)))))) (tRet (tLst (tCons (tOp (rIxL K) (tVar 2) (tC (.int 0))) (tCons (tOp (rIxL K) (tVar 2) (tC (.int 1))) (tCons (tCB (rTupOf2 K) (tCons (tVar 3) tNil)) (tCons (tOp (rIxL K) (tVar 2) (tC (.int 3))) tNil)))))))
theorem b_Lnumbers_of {P : Program} {w : World} {K : Frg} {mg : Str → Option Value} {base : Heap} {C : Addr} (f_len : mg "len" = none)
    (f_range : mg "range" = none)
    (f_tuple : mg "tuple" = none)
    (c_Lpick : C8.Cal P w K mg base 1 "_law_pick" (spOf (R_Lpick K C)) [])
    {cdv : Value} {A : Around} {outer : List Env} {s : Shared} {H : Hp} {E : XK} {fad : Addr} (hr : Room 1 (A.deeper (envOfC "_law_numbers_of" (defScope s_Lnumbers_of) s.heap.objs.size fad cdv))) :
    PSs (cxOf CX0 P w K mg base N_Lnumbers_of "_law_numbers_of" (defScope s_Lnumbers_of) fad cdv A outer s H E).nox (defBody s_Lnumbers_of) (t_Lnumbers_of K C) := by
  exact pss_cons (ps_set (i := 3) sc_Lnumbers_of.nd rfl (.inl rfl) (pe_lst (pa_nil)))
    (pss_cons (ps_for PassesOwn.never rfl (pi_range1 (by rfl) f_range (pa_cons (pe_callB call_len_seq (by rfl) f_len bt_len (pa_cons (pe_ix ix_list (pv 2) (pe_int) (fun _ _ => rfl)) pa_nil)) pa_nil)) (pg_name (i := 4) sc_Lnumbers_of.nd rfl (.inl rfl)) (pss_cons (ps_set (i := 5) sc_Lnumbers_of.nd rfl (.inl rfl) (pe_lst (pa_nil)))
    (pss_cons (ps_for PassesOwn.never rfl (pi_range1 (by rfl) f_range (pa_cons (pe_callB call_len_seq (by rfl) f_len bt_len (pa_cons (pe_ix ix_list (pv 2) (pe_int) (fun _ _ => rfl)) pa_nil)) pa_nil)) (pg_name (i := 6) sc_Lnumbers_of.nd rfl (.inl rfl)) (pss_cons (ps_set (i := 7) sc_Lnumbers_of.nd rfl (.inl rfl) (pe_ix ix_tup (pe_ix ix_tup (pe_ix ix_tup (pe_ix ix_list (pv 2) (pe_int) (fun _ _ => rfl)) (pv 4) (fun _ _ => rfl)) (pe_int) (fun _ _ => rfl)) (pv 6) (fun _ _ => rfl)))
    (pss_one (ps_if (pt_cmp (pc_isN (pv 7))) (pss_one (ps_expr (pe_bm PySem.F.plainAttrs_list PySem.F.slot_list_append PySem.F.type_list_append mt_append (pv 5) (pa_cons (pe_non) pa_nil)))) (pss_cons (ps_set (i := 8) sc_Lnumbers_of.nd rfl (.inl rfl) (pe_op op_add (pe_ix ix_tup (pv 7) (pe_int) (fun _ _ => rfl)) (C8.pe_c c_Lpick hr (by decide) (by rfl) (pa_cons (pv 0) (pa_cons (pe_op op_add (pe_op op_add (pv 1) (pe_op op_mul (pe_int) (pv 4))) (pv 6)) (pa_cons (pe_op op_add (pe_op op_sub (pe_ix ix_tup (pv 7) (pe_int) (fun _ _ => rfl)) (pe_ix ix_tup (pv 7) (pe_int) (fun _ _ => rfl))) (pe_int)) pa_nil))))))
    (pss_one (ps_expr (pe_bm PySem.F.plainAttrs_list PySem.F.slot_list_append PySem.F.type_list_append mt_append (pv 5) (pa_cons (pe_tup (pa_cons (pv 8) (pa_cons (pv 8) pa_nil))) pa_nil)))))))))
    (pss_one (ps_expr (pe_bm PySem.F.plainAttrs_list PySem.F.slot_list_append PySem.F.type_list_append mt_append (pv 3) (pa_cons (pe_op op_catT (pe_slice sl_tup (pe_ix ix_tup (pe_ix ix_list (pv 2) (pe_int) (fun _ _ => rfl)) (pv 4) (fun _ _ => rfl)) (po_none) (po_some (pe_int))) (pe_tup (pa_cons (pe_callTy call_tupleF (by rfl) f_tuple bt_tuple (pa_cons (pv 5) pa_nil)) pa_nil))) pa_nil)))))))
    (pss_one (ps_ret (pe_lst (pa_cons (pe_ix ix_list (pv 2) (pe_int) (fun _ _ => rfl)) (pa_cons (pe_ix ix_list (pv 2) (pe_int) (fun _ _ => rfl)) (pa_cons (pe_callTy call_tupleF (by rfl) f_tuple bt_tuple (pa_cons (pv 3) pa_nil)) (pa_cons (pe_ix ix_list (pv 2) (pe_int) (fun _ _ => rfl)) pa_nil))))))))
/-! ### _law_walks -/
def t_Lwalks (K : Frg) (C : Addr) : TS :=
  tSeq (tAsg (tLst (tNil)) (gName 2)) (tSeq (tFor (iTup K (tOp (rIxL K) (tVar 0) (tC (.int 3)))) (gTup K 3 (gCons (gName 3) (gCons (gName 4) (gCons (gName 5) (gNil))))) (tSeq (tIfS (tTest (tOp rEq (tVar 3) (tVar 1))) (tDrop (tBM K "list" rAppend (tVar 2) (tCons (tTup (tCons (tVar 4) (tCons (tVar 5) tNil))) tNil))) (tNext)) (tIfS (tTest (tOp rEq (tVar 4) (tVar 1))) (tDrop (tBM K "list" rAppend (tVar 2) (tCons (tTup (tCons (tVar 3) (tCons (tVar 5) tNil))) tNil))) (tNext)))) (tRet (tVar 2)))
theorem b_Lwalks {P : Program} {w : World} {K : Frg} {mg : Str → Option Value} {base : Heap} {C : Addr} 
    {cdv : Value} {A : Around} {outer : List Env} {s : Shared} {H : Hp} {E : XK} {fad : Addr} (hr : Room 0 (A.deeper (envOfC "_law_walks" (defScope s_Lwalks) s.heap.objs.size fad cdv))) :
    PSs (cxOf CX0 P w K mg base N_Lwalks "_law_walks" (defScope s_Lwalks) fad cdv A outer s H E).nox (defBody s_Lwalks) (t_Lwalks K C) := by
  exact pss_cons (ps_set (i := 2) sc_Lwalks.nd rfl (.inl rfl) (pe_lst (pa_nil)))
    (pss_cons (ps_for PassesOwn.never rfl (pi_tup (pe_ix ix_list (pv 0) (pe_int) (fun _ _ => rfl))) (pg_tup rfl (pgs_cons (pg_name (i := 3) sc_Lwalks.nd rfl (.inl rfl)) (pgs_cons (pg_name (i := 4) sc_Lwalks.nd rfl (.inl rfl)) (pgs_cons (pg_name (i := 5) sc_Lwalks.nd rfl (.inl rfl)) (pgs_nil))))) (pss_cons (ps_if (pt_cmpR op_eq (pv 3) (pv 1) (nomark _)) (pss_one (ps_expr (pe_bm PySem.F.plainAttrs_list PySem.F.slot_list_append PySem.F.type_list_append mt_append (pv 2) (pa_cons (pe_tup (pa_cons (pv 4) (pa_cons (pv 5) pa_nil))) pa_nil)))) (pss_nil))
    (pss_one (ps_if (pt_cmpR op_eq (pv 4) (pv 1) (nomark _)) (pss_one (ps_expr (pe_bm PySem.F.plainAttrs_list PySem.F.slot_list_append PySem.F.type_list_append mt_append (pv 2) (pa_cons (pe_tup (pa_cons (pv 3) (pa_cons (pv 5) pa_nil))) pa_nil)))) (pss_nil)))))
    (pss_one (ps_ret (pv 2))))
/-! ### _law_is_safe -/
def t_Lis_safe (K : Frg) (C : Addr) : TS :=
  tSeq (tIfS (tOr (tTest (tOp rEq (tCB (rLen2 K) (tCons (tVar 2) tNil)) (tC (.int 0)))) (tB (tDIn (tOp (rIxT K) (tOp (rIxL K) (tVar 2) (tOp (rSubI) (tCB (rLen2 K) (tCons (tVar 2) tNil)) (tC (.int 1)))) (tC (.int 0))) (tVar 1)))) (tRet (tC (.bl false))) (tNext)) (tSeq (tFor (iRng1 (tCons (tCB (rLen2 K) (tCons (tVar 2) tNil)) tNil)) (gName 3) (tSeq (tAsg (tOp (rIxL K) (tVar 2) (tVar 3)) (gTup K 2 (gCons (gName 4) (gCons (gName 5) (gNil))))) (tSeq (tIfS (tOr (tTest (tOp rLt (tVar 5) (tC (.int 0)))) (tAnd (tB (tDIn (tVar 4) (tVar 1))) (tTest (tOp rGe (tVar 5) (tDGet (tVar 1) (tVar 4)))))) (tRet (tC (.bl false))) (tNext)) (tIfS (tTest (tOp rLt (tOp (rAddI) (tVar 3) (tC (.int 1))) (tCB (rLen2 K) (tCons (tVar 2) tNil)))) (tSeq (tAsg (tLc (iList K (tCall (spOf (R_Lwalks K C)) [] E0 (tCons (tVar 0) (tCons (tVar 4) tNil)))) (gTup K 2 (gCons (gName 7) (gCons (gName 8) (gNil)))) (tTest (tOp rEq (tVar 7) (tOp (rIxT K) (tOp (rIxL K) (tVar 2) (tOp (rAddI) (tVar 3) (tC (.int 1)))) (tC (.int 0))))) (tVar 8) [7, 8]) (gName 6)) (tSeq (tIfS (tOr (tTest (tOp rEq (tCB (rLen2 K) (tCons (tVar 6) tNil)) (tC (.int 0)))) (tTest (tOp rLt (tOp (rSubI) (tOp (rIxT K) (tOp (rIxL K) (tVar 2) (tOp (rAddI) (tVar 3) (tC (.int 1)))) (tC (.int 1))) (tOp (rIxL K) (tVar 6) (tC (.int 0)))) (tVar 5)))) (tRet (tC (.bl false))) (tNext)) (tIfS (tAnd (tB (tDIn (tVar 4) (tVar 1))) (tTest (tOp rGe (tOp (rSubI) (tOp (rIxT K) (tOp (rIxL K) (tVar 2) (tOp (rAddI) (tVar 3) (tC (.int 1)))) (tC (.int 1))) (tOp (rIxL K) (tVar 6) (tC (.int 0)))) (tDGet (tVar 1) (tVar 4))))) (tRet (tC (.bl false))) (tNext)))) (tNext))))) (tRet (tC (.bl true))))
theorem b_Lis_safe {P : Program} {w : World} {K : Frg} {mg : Str → Option Value} {base : Heap} {C : Addr} (f_len : mg "len" = none)
    (f_range : mg "range" = none)
    (c_Lwalks : C8.Cal P w K mg base 1 "_law_walks" (spOf (R_Lwalks K C)) [])
    {cdv : Value} {A : Around} {outer : List Env} {s : Shared} {H : Hp} {E : XK} {fad : Addr} (hr : Room 1 (A.deeper (envOfC "_law_is_safe" (defScope s_Lis_safe) s.heap.objs.size fad cdv))) :
    PSs (cxOf CX0 P w K mg base N_Lis_safe "_law_is_safe" (defScope s_Lis_safe) fad cdv A outer s H E).nox (defBody s_Lis_safe) (t_Lis_safe K C) := by
  have hu1 : (A.deeper (envOfC "_law_is_safe" (defScope s_Lis_safe) s.heap.objs.size fad cdv)).units + 1 < cLine := by have := hr.units; omega
  have hu3 : (A.deeper (envOfC "_law_is_safe" (defScope s_Lis_safe) s.heap.objs.size fad cdv)).units + 1 + 1 < cLine := by have := hr.units; omega
  exact pss_cons (ps_if ((pw_or (pt_cmpR op_eq (pe_callB call_len_seq (by rfl) f_len bt_len (pa_cons (pv 2) pa_nil)) (pe_int) (nomark _)) (pw_or1 (pt_cmp (pc_din hu1 (pe_ix ix_tup (pe_ix ix_list (pv 2) (pe_op op_sub (pe_callB call_len_seq (by rfl) f_len bt_len (pa_cons (pv 2) pa_nil)) (pe_int)) (fun _ _ => rfl)) (pe_int) (fun _ _ => rfl)) (pv 1))))).pt) (pss_one (ps_ret (pe_bl))) (pss_nil))
    (pss_cons (ps_for PassesOwn.never rfl (pi_range1 (by rfl) f_range (pa_cons (pe_callB call_len_seq (by rfl) f_len bt_len (pa_cons (pv 2) pa_nil)) pa_nil)) (pg_name (i := 3) sc_Lis_safe.nd rfl (.inr rfl)) (pss_cons (ps_asg (pe_ix ix_list (pv 2) (pv 3) (fun _ _ => rfl)) (pg_tup rfl (pgs_cons (pg_name (i := 4) sc_Lis_safe.nd rfl (.inl rfl)) (pgs_cons (pg_name (i := 5) sc_Lis_safe.nd rfl (.inl rfl)) (pgs_nil)))))
    (pss_cons (ps_if ((pw_or (pt_cmpR op_lt (pv 5) (pe_int) (nomark _)) (pw_or1 ((pw_and (pt_cmp (pc_din hu1 (pv 4) (pv 1))) (pw_and1 (pt_cmpR op_ge (pv 5) (pe_dget hu1 (pv 1) (pv 4) (fun _ _ => rfl)) (nomark _)))).pt))).pt) (pss_one (ps_ret (pe_bl))) (pss_nil))
    (pss_one (ps_if (pt_cmpR op_lt (pe_op op_add (pv 3) (pe_int)) (pe_callB call_len_seq (by rfl) f_len bt_len (pa_cons (pv 2) pa_nil)) (nomark _)) (pss_cons (ps_setLc (i := 6) (own := [("_law_other", 7), ("_law_minutes", 8)]) (g := gTup K 2 (gCons (gName 7) (gCons (gName 8) (gNil)))) (tt := tTest (tOp rEq (tVar 7) (tOp (rIxT K) (tOp (rIxL K) (tVar 2) (tOp (rAddI) (tVar 3) (tC (.int 1)))) (tC (.int 0))))) rfl sc_Lis_safe.nd rfl rfl (sw_true rfl rfl rfl (by decide +kernel)) (pi_list (C8.pe_c c_Lwalks hr (by decide) (by rfl) (pa_cons (pv 0) (pa_cons (pv 4) pa_nil)))) (blkOk_by (N := N_Lis_safe) (sc := defScope s_Lis_safe) (by decide +kernel)) (fun _ _ _ _ _ => pg_tup rfl (pgs_cons (pg_name (i := 7) sc_Lis_safe.nd rfl (.inl rfl)) (pgs_cons (pg_name (i := 8) sc_Lis_safe.nd rfl (.inl rfl)) (pgs_nil)))) (fun _ _ _ _ _ => pts_one (pt_cmpR op_eq (pv 7) (pe_ix ix_tup (pe_ix ix_list (pv 2) (pe_op op_add (pv 3) (pe_int)) (fun _ _ => rfl)) (pe_int) (fun _ _ => rfl)) (nomark _))) (fun _ _ _ _ _ => pv 8))
    (pss_cons (ps_if ((pw_or (pt_cmpR op_eq (pe_callB call_len_seq (by rfl) f_len bt_len (pa_cons (pv 6) pa_nil)) (pe_int) (nomark _)) (pw_or1 (pt_cmpR op_lt (pe_op op_sub (pe_ix ix_tup (pe_ix ix_list (pv 2) (pe_op op_add (pv 3) (pe_int)) (fun _ _ => rfl)) (pe_int) (fun _ _ => rfl)) (pe_ix ix_list (pv 6) (pe_int) (fun _ _ => rfl))) (pv 5) (nomark _)))).pt) (pss_one (ps_ret (pe_bl))) (pss_nil))
    (pss_one (ps_if ((pw_and (pt_cmp (pc_din hu1 (pv 4) (pv 1))) (pw_and1 (pt_cmpR op_ge (pe_op op_sub (pe_ix ix_tup (pe_ix ix_list (pv 2) (pe_op op_add (pv 3) (pe_int)) (fun _ _ => rfl)) (pe_int) (fun _ _ => rfl)) (pe_ix ix_list (pv 6) (pe_int) (fun _ _ => rfl))) (pe_dget hu1 (pv 1) (pv 4) (fun _ _ => rfl)) (nomark _)))).pt) (pss_one (ps_ret (pe_bl))) (pss_nil))))) (pss_nil))))))
    (pss_one (ps_ret (pe_bl))))
/-! ### _law_drawn_walk -/
def t_Ldrawn_walk (K : Frg) (C : Addr) : TS :=
  tSeq (tAsg (tOp (rIxT K) (tOp (rIxL K) (tVar 0) (tC (.int 1))) (tCall (spOf (R_Lpick K C)) [] E0 (tCons (tVar 1) (tCons (tVar 2) (tCons (tCB (rLen2 K) (tCons (tOp (rIxL K) (tVar 0) (tC (.int 1))) tNil)) tNil))))) (gName 3)) (tSeq (tAsg (tCall (spOf (R_Lpick K C)) [] E0 (tCons (tVar 1) (tCons (tOp (rAddI) (tVar 2) (tC (.int 1))) (tCons (tC (.int 12)) tNil)))) (gName 4)) (tSeq (tAsg (tLst (tCons (tTup (tCons (tVar 3) (tCons (tVar 4) tNil))) tNil)) (gName 5)) (tSeq (tFor (iRng1 (tCons (tCall (spOf (R_Lpick K C)) [] E0 (tCons (tVar 1) (tCons (tOp (rAddI) (tVar 2) (tC (.int 2))) (tCons (tC (.int 4)) tNil)))) tNil)) (gName 6) (tSeq (tAsg (tCall (spOf (R_Lwalks K C)) [] E0 (tCons (tVar 0) (tCons (tVar 3) tNil))) (gName 7)) (tIfS (tTest (tOp rGt (tCB (rLen2 K) (tCons (tVar 7) tNil)) (tC (.int 0)))) (tSeq (tAsg (tOp (rIxL K) (tVar 7) (tCall (spOf (R_Lpick K C)) [] E0 (tCons (tVar 1) (tCons (tOp (rAddI) (tOp (rAddI) (tVar 2) (tC (.int 3))) (tOp (rMulI) (tC (.int 2)) (tVar 6))) (tCons (tCB (rLen2 K) (tCons (tVar 7) tNil)) tNil))))) (gTup K 2 (gCons (gName 3) (gCons (gName 8) (gNil))))) (tSeq (tAsg (tOp (rAddI) (tOp (rAddI) (tVar 4) (tVar 8)) (tOp (rIxL K) (tLst (tCons (tC (.int 0)) (tCons (tC (.int 0)) (tCons (tC (.int 1)) (tCons (tC (.int 3)) tNil))))) (tCall (spOf (R_Lpick K C)) [] E0 (tCons (tVar 1) (tCons (tOp (rAddI) (tOp (rAddI) (tVar 2) (tC (.int 4))) (tOp (rMulI) (tC (.int 2)) (tVar 6))) (tCons (tC (.int 4)) tNil)))))) (gName 4)) (tDrop (tBM K "list" rAppend (tVar 5) (tCons (tTup (tCons (tVar 3) (tCons (tVar 4) tNil))) tNil))))) (tNext)))) (tRet (tVar 5)))))
theorem b_Ldrawn_walk {P : Program} {w : World} {K : Frg} {mg : Str → Option Value} {base : Heap} {C : Addr} (f_len : mg "len" = none)
    (f_range : mg "range" = none)
    (c_Lpick : C8.Cal P w K mg base 1 "_law_pick" (spOf (R_Lpick K C)) [])
    (c_Lwalks : C8.Cal P w K mg base 1 "_law_walks" (spOf (R_Lwalks K C)) [])
    {cdv : Value} {A : Around} {outer : List Env} {s : Shared} {H : Hp} {E : XK} {fad : Addr} (hr : Room 1 (A.deeper (envOfC "_law_drawn_walk" (defScope s_Ldrawn_walk) s.heap.objs.size fad cdv))) :
    PSs (cxOf CX0 P w K mg base N_Ldrawn_walk "_law_drawn_walk" (defScope s_Ldrawn_walk) fad cdv A outer s H E).nox (defBody s_Ldrawn_walk) (t_Ldrawn_walk K C) := by
  exact pss_cons (ps_set (i := 3) sc_Ldrawn_walk.nd rfl (.inl rfl) (pe_ix ix_tup (pe_ix ix_list (pv 0) (pe_int) (fun _ _ => rfl)) (C8.pe_c c_Lpick hr (by decide) (by rfl) (pa_cons (pv 1) (pa_cons (pv 2) (pa_cons (pe_callB call_len_seq (by rfl) f_len bt_len (pa_cons (pe_ix ix_list (pv 0) (pe_int) (fun _ _ => rfl)) pa_nil)) pa_nil)))) (fun _ _ => rfl)))
    (pss_cons (ps_set (i := 4) sc_Ldrawn_walk.nd rfl (.inl rfl) (C8.pe_c c_Lpick hr (by decide) (by rfl) (pa_cons (pv 1) (pa_cons (pe_op op_add (pv 2) (pe_int)) (pa_cons (pe_int) pa_nil)))))
    (pss_cons (ps_set (i := 5) sc_Ldrawn_walk.nd rfl (.inl rfl) (pe_lst (pa_cons (pe_tup (pa_cons (pv 3) (pa_cons (pv 4) pa_nil))) pa_nil)))
    (pss_cons (ps_for PassesOwn.never rfl (pi_range1 (by rfl) f_range (pa_cons (C8.pe_c c_Lpick hr (by decide) (by rfl) (pa_cons (pv 1) (pa_cons (pe_op op_add (pv 2) (pe_int)) (pa_cons (pe_int) pa_nil)))) pa_nil)) (pg_name (i := 6) sc_Ldrawn_walk.nd rfl (.inl rfl)) (pss_cons (ps_set (i := 7) sc_Ldrawn_walk.nd rfl (.inl rfl) (C8.pe_c c_Lwalks hr (by decide) (by rfl) (pa_cons (pv 0) (pa_cons (pv 3) pa_nil))))
    (pss_one (ps_if (pt_cmpR op_gt (pe_callB call_len_seq (by rfl) f_len bt_len (pa_cons (pv 7) pa_nil)) (pe_int) (nomark _)) (pss_cons (ps_asg (pe_ix ix_list (pv 7) (C8.pe_c c_Lpick hr (by decide) (by rfl) (pa_cons (pv 1) (pa_cons (pe_op op_add (pe_op op_add (pv 2) (pe_int)) (pe_op op_mul (pe_int) (pv 6))) (pa_cons (pe_callB call_len_seq (by rfl) f_len bt_len (pa_cons (pv 7) pa_nil)) pa_nil)))) (fun _ _ => rfl)) (pg_tup rfl (pgs_cons (pg_name (i := 3) sc_Ldrawn_walk.nd rfl (.inl rfl)) (pgs_cons (pg_name (i := 8) sc_Ldrawn_walk.nd rfl (.inl rfl)) (pgs_nil)))))
    (pss_cons (ps_set (i := 4) sc_Ldrawn_walk.nd rfl (.inl rfl) (pe_op op_add (pe_op op_add (pv 4) (pv 8)) (pe_ix ix_list (pe_lst (pa_cons (pe_int) (pa_cons (pe_int) (pa_cons (pe_int) (pa_cons (pe_int) pa_nil))))) (C8.pe_c c_Lpick hr (by decide) (by rfl) (pa_cons (pv 1) (pa_cons (pe_op op_add (pe_op op_add (pv 2) (pe_int)) (pe_op op_mul (pe_int) (pv 6))) (pa_cons (pe_int) pa_nil)))) (fun _ _ => rfl))))
    (pss_one (ps_expr (pe_bm PySem.F.plainAttrs_list PySem.F.slot_list_append PySem.F.type_list_append mt_append (pv 5) (pa_cons (pe_tup (pa_cons (pv 3) (pa_cons (pv 4) pa_nil))) pa_nil)))))) (pss_nil)))))
    (pss_one (ps_ret (pv 5))))))
/-! ### law -/
def t_law (K : Frg) (C : Addr) : TS :=
  tSeq (tAsg (tCall (spOf (R_Lnumbers K C)) [] E0 (tCons (tVar 0) (tCons (tC (.int 200)) tNil))) (gName 1)) (tSeq (tAsg (tCall (spOf (R_Lcase K C)) [] E0 (tCons (tVar 1) tNil)) (gTup K 4 (gCons (gName 2) (gCons (gName 3) (gCons (gName 4) (gCons (gName 5) (gNil))))))) (tSeq (tAsg (tCall (spOf (R_Lland K C)) [] E0 (tCons (tVar 2) tNil)) (gName 6)) (tSeq (tAsg (tCall (spOf (R_Lfire K C)) [] E0 (tCons (tCall (spOf (R_Lnumbers_of K C)) [] E0 (tCons (tVar 1) (tCons (tC (.int 150)) (tCons (tVar 2) tNil)))) (tCons (tVar 3) (tCons (tVar 4) (tCons (tVar 5) (tCons (tC (.int 0)) tNil)))))) (gName 7)) (tSeq (tAsg (tOp (rIxT K) (tOp (rIxL K) (tVar 2) (tC (.int 1))) (tCall (spOf (R_Lpick K C)) [] E0 (tCons (tVar 1) (tCons (tC (.int 140)) (tCons (tCB (rLen2 K) (tCons (tOp (rIxL K) (tVar 2) (tC (.int 1))) tNil)) tNil))))) (gName 8)) (tSeq (tAsg (tCall (spOf (R_safe_walk K C)) [] E0 (tCons (tVar 6) (tCons (tVar 3) (tCons (tVar 4) (tCons (tVar 5) (tCons (tVar 8) (tCons (tCall (spOf (R_Lpick K C)) [] E0 (tCons (tVar 1) (tCons (tC (.int 141)) (tCons (tC (.int 30)) tNil)))) tNil))))))) (gName 9)) (tSeq (tIfS (tAnd (tB (tNotN (tVar 9))) (tNot (tB (tCall (spOf (R_Lis_safe K C)) [] E0 (tCons (tVar 2) (tCons (tVar 7) (tCons (tVar 9) tNil))))))) (tRet (tC (.bl false))) (tNext)) (tSeq (tAsg (tCall (spOf (R_Ldrawn_walk K C)) [] E0 (tCons (tVar 2) (tCons (tVar 1) (tCons (tC (.int 185)) tNil)))) (gName 10)) (tSeq (tIfS (tNot (tB (tCall (spOf (R_is_safe_walk K C)) [] E0 (tCons (tVar 6) (tCons (tVar 3) (tCons (tVar 4) (tCons (tVar 5) (tCons (tVar 10) tNil)))))))) (tRet (tC (.bl true))) (tNext)) (tRet (tAndV (tCall (spOf (R_Lis_safe K C)) [] E0 (tCons (tVar 2) (tCons (tVar 7) (tCons (tVar 10) tNil)))) (tOp (rIn K false) (tOp (rIxT K) (tOp (rIxL K) (tVar 10) (tC (.int 0))) (tC (.int 0))) (tCall (spOf (R_refuges K C)) [] E0 (tCons (tVar 6) (tCons (tVar 3) (tCons (tVar 4) (tCons (tVar 5) (tCons (tOp (rIxT K) (tOp (rIxL K) (tVar 10) (tC (.int 0))) (tC (.int 1))) tNil)))))))))))))))))
theorem b_law {P : Program} {w : World} {K : Frg} {mg : Str → Option Value} {base : Heap} {C : Addr} (f_len : mg "len" = none)
    (c_Lnumbers : C8.Cal P w K mg base 2 "_law_numbers" (spOf (R_Lnumbers K C)) [])
    (c_Lcase : C8.Cal P w K mg base 3 "_law_case" (spOf (R_Lcase K C)) [])
    (c_Lland : C8.Cal P w K mg base 6 "_law_land" (spOf (R_Lland K C)) [])
    (c_Lnumbers_of : C8.Cal P w K mg base 2 "_law_numbers_of" (spOf (R_Lnumbers_of K C)) [])
    (c_Lfire : C8.Cal P w K mg base 3 "_law_fire" (spOf (R_Lfire K C)) [])
    (c_Lpick : C8.Cal P w K mg base 1 "_law_pick" (spOf (R_Lpick K C)) [])
    (c_safe_walk : C8.Cal P w K mg base 4 "safe_walk" (spOf (R_safe_walk K C)) [])
    (c_Lis_safe : C8.Cal P w K mg base 2 "_law_is_safe" (spOf (R_Lis_safe K C)) [])
    (c_Ldrawn_walk : C8.Cal P w K mg base 2 "_law_drawn_walk" (spOf (R_Ldrawn_walk K C)) [])
    (c_is_safe_walk : C8.Cal P w K mg base 4 "is_safe_walk" (spOf (R_is_safe_walk K C)) [])
    (c_refuges : C8.Cal P w K mg base 5 "refuges" (spOf (R_refuges K C)) [])
    {cdv : Value} {A : Around} {outer : List Env} {s : Shared} {H : Hp} {E : XK} {fad : Addr} (hr : Room 6 (A.deeper (envOfC "law" (defScope s_law) s.heap.objs.size fad cdv))) :
    PSs (cxOf CX0 P w K mg base N_law "law" (defScope s_law) fad cdv A outer s H E).nox (defBody s_law) (t_law K C) := by
  exact pss_cons (ps_set (i := 1) sc_law.nd rfl (.inl rfl) (C8.pe_c c_Lnumbers hr (by decide) (by rfl) (pa_cons (pv 0) (pa_cons (pe_int) pa_nil))))
    (pss_cons (ps_asg (C8.pe_c c_Lcase hr (by decide) (by rfl) (pa_cons (pv 1) pa_nil)) (pg_tup rfl (pgs_cons (pg_name (i := 2) sc_law.nd rfl (.inl rfl)) (pgs_cons (pg_name (i := 3) sc_law.nd rfl (.inl rfl)) (pgs_cons (pg_name (i := 4) sc_law.nd rfl (.inl rfl)) (pgs_cons (pg_name (i := 5) sc_law.nd rfl (.inl rfl)) (pgs_nil)))))))
    (pss_cons (ps_set (i := 6) sc_law.nd rfl (.inl rfl) (C8.pe_c c_Lland hr (by decide) (by rfl) (pa_cons (pv 2) pa_nil)))
    (pss_cons (ps_set (i := 7) sc_law.nd rfl (.inl rfl) (C8.pe_c c_Lfire hr (by decide) (by rfl) (pa_cons (C8.pe_c c_Lnumbers_of hr (by decide) (by rfl) (pa_cons (pv 1) (pa_cons (pe_int) (pa_cons (pv 2) pa_nil)))) (pa_cons (pv 3) (pa_cons (pv 4) (pa_cons (pv 5) (pa_cons (pe_int) pa_nil)))))))
    (pss_cons (ps_set (i := 8) sc_law.nd rfl (.inl rfl) (pe_ix ix_tup (pe_ix ix_list (pv 2) (pe_int) (fun _ _ => rfl)) (C8.pe_c c_Lpick hr (by decide) (by rfl) (pa_cons (pv 1) (pa_cons (pe_int) (pa_cons (pe_callB call_len_seq (by rfl) f_len bt_len (pa_cons (pe_ix ix_list (pv 2) (pe_int) (fun _ _ => rfl)) pa_nil)) pa_nil)))) (fun _ _ => rfl)))
    (pss_cons (ps_set (i := 9) sc_law.nd rfl (.inl rfl) (C8.pe_c c_safe_walk hr (by decide) (by rfl) (pa_cons (pv 6) (pa_cons (pv 3) (pa_cons (pv 4) (pa_cons (pv 5) (pa_cons (pv 8) (pa_cons (C8.pe_c c_Lpick hr (by decide) (by rfl) (pa_cons (pv 1) (pa_cons (pe_int) (pa_cons (pe_int) pa_nil)))) pa_nil))))))))
    (pss_cons (ps_if ((pw_and (pt_cmp (pc_notN (pv 9))) (pw_and1 (pt_not (pt_val (C8.pe_c c_Lis_safe hr (by decide) (by rfl) (pa_cons (pv 2) (pa_cons (pv 7) (pa_cons (pv 9) pa_nil)))))))).pt) (pss_one (ps_ret (pe_bl))) (pss_nil))
    (pss_cons (ps_set (i := 10) sc_law.nd rfl (.inl rfl) (C8.pe_c c_Ldrawn_walk hr (by decide) (by rfl) (pa_cons (pv 2) (pa_cons (pv 1) (pa_cons (pe_int) pa_nil)))))
    (pss_cons (ps_if (pt_not (pt_val (C8.pe_c c_is_safe_walk hr (by decide) (by rfl) (pa_cons (pv 6) (pa_cons (pv 3) (pa_cons (pv 4) (pa_cons (pv 5) (pa_cons (pv 10) pa_nil)))))))) (pss_one (ps_ret (pe_bl))) (pss_nil))
    (pss_one (ps_ret (pe_and (C8.pe_c c_Lis_safe hr (by decide) (by rfl) (pa_cons (pv 2) (pa_cons (pv 7) (pa_cons (pv 10) pa_nil)))) (pe_one (pe_cmpR op_in_seq (pe_ix ix_tup (pe_ix ix_list (pv 10) (pe_int) (fun _ _ => rfl)) (pe_int) (fun _ _ => rfl)) (C8.pe_c c_refuges hr (by decide) (by rfl) (pa_cons (pv 6) (pa_cons (pv 3) (pa_cons (pv 4) (pa_cons (pv 5) (pa_cons (pe_ix ix_tup (pe_ix ix_list (pv 10) (pe_int) (fun _ _ => rfl)) (pe_int) (fun _ _ => rfl)) pa_nil)))))) (by rfl))))))))))))))
end Ef
/-! ==== EfU -/
set_option Elab.async false
set_option linter.all false
set_option maxRecDepth 100000
set_option maxHeartbeats 4000000
/-! Words for the walks: fields, calls, loops that change what they do not walk. -/
namespace Ef
open PySem L2 Evl
abbrev endQ (Q : VK) : Ends := { nx := fun _ H' => Q .non H', rt := Q }
/-- a def's body does what its promise says -/
def PureOk (R : RR) (t : TS) (N : List Str) : Prop := ∀ (vs : List V) (H : Hp) (P : V → Hp → Prop) (Q : VK), R vs H P → (∀ v H', Ex H H' → P v H' → Q v H') → t (endQ Q) (start N vs) H
section
variable {K : Frg} {C : Addr} {σ : L2.St} {H H' : Hp} {ta tb tc td te : TE} {tr : TA} {v z : V} {d : PyData} {ds : List PyData} {f m : Str} {vs : List V} {D : Ends} {tz : TS} {Pt : Parts}
theorem FldD.up (h : FldD K C H v f d) (e : Ex H H') : FldD K C H' v f d := by
  obtain ⟨a, dx, fs, x, h1, h2, h3, h4, h5⟩ := h
  exact ⟨a, dx, fs, x, h1, e _ _ h2, h3, h4, h5.up e⟩
theorem FldW.up (h : FldW K C H v f d) (e : Ex H H') : FldW K C H' v f d := by
  obtain ⟨a, dx, fs, x, h1, h2, h3, h4, h5, h6⟩ := h
  exact ⟨a, dx, fs, x, h1, e _ _ h2, h3, h4, h5.up e, h6.up e⟩
theorem FldW.dd (h : FldW K C H v f d) : FldD K C H v f d := by
  obtain ⟨a, dx, fs, x, h1, h2, h3, h4, h5, h6⟩ := h
  exact ⟨a, dx, fs, x, h1, h2, h3, h4, h5⟩
theorem LandAt.up (h : LandAt K C H v Pt) (e : Ex H H') : LandAt K C H' v Pt := ⟨h.w.up e, h.p.up e, h.l.up e, h.h.up e⟩
theorem PartsAt.up (h : PartsAt K H v Pt) (e : Ex H H') : PartsAt K H' v Pt := by
  obtain ⟨a, x1, x2, x3, x4, h1, h2, h3, h4, h5, h6, h7⟩ := h
  exact ⟨a, x1, x2, x3, x4, h1, ex_l e h2, h3.up e, h4.up e, h5.up e, h6.up e, h7.up e⟩
theorem PartsAt.dp (h : PartsAt K H v Pt) : Dp K H v (partsD Pt) := by
  obtain ⟨a, x1, x2, x3, x4, rfl, h2, h3, h4, h5, h6, h7⟩ := h
  exact .lst h2 (.cons h4 (.cons h5 (.cons h6 (.cons h7 .nil))))
theorem DicI.up {l : List (Str × Int)} (h : DicI H v l) (e : Ex H H') : DicI H' v l := by
  obtain ⟨a, h1, h2⟩ := h
  exact ⟨a, h1, e _ _ h2⟩
theorem DicS.up {l : List (Str × Option Str)} (h : DicS H v l) (e : Ex H H') : DicS H' v l := by
  obtain ⟨a, h1, h2⟩ := h
  exact ⟨a, h1, e _ _ h2⟩
theorem fld_val (hc : Cls K C) (hn : NoAttr K C f) (hv : Ev ta σ H v) (hf : FldD K C H v f d) : ∃ x, Ev (tFld K ta f) σ H x ∧ Dp K H x d := by
  obtain ⟨a, dx, fs, x, rfl, h2, h3, h4, h5⟩ := hf
  exact ⟨x, ev_fld hv h2 hc hn h4, h5⟩
theorem ed_fld (hc : Cls K C) (hn : NoAttr K C f) (hv : Ev ta σ H v) (hf : FldD K C H v f d) : EvD K (tFld K ta f) σ H d := by
  obtain ⟨x, h1, h2⟩ := fld_val hc hn hv hf
  exact evd_of h1 h2
theorem ev_all {bs : List Bool} (h : EvD K te σ H (.list (bs.map .bool))) : Ev (tCB (rAll K) (tCons te tNil)) σ H (.bl (bs.all id)) := fun H1 a Q q => h H1 a _ fun v H2 e2 hv => by
  obtain ⟨p, xs, rfl, hs, hx⟩ := dp_lst hv
  have ex := of_bls hx
  subst ex
  exact ⟨p, bs, rfl, hs, q H2 e2⟩
theorem ev_any {bs : List Bool} (h : EvD K te σ H (.list (bs.map .bool))) : Ev (tCB (rAny K) (tCons te tNil)) σ H (.bl (bs.any id)) := fun H1 a Q q => h H1 a _ fun v H2 e2 hv => by
  obtain ⟨p, xs, rfl, hs, hx⟩ := dp_lst hv
  have ex := of_bls hx
  subst ex
  exact ⟨p, bs, rfl, hs, q H2 e2⟩
/-! ### calls of own defs -/
theorem ep_own {R : RR} {P : V → Hp → Prop} (h : EvA tr σ H vs) (hr : ∀ H1, Ex H H1 → ∃ P1, R vs H1 P1 ∧ ∀ v H2, Ex H1 H2 → P1 v H2 → P v H2) : EvP (tCall (spOf R) [] E0 tr) σ H P := fun H1 a Q q => h H1 a _ fun H2 e2 => by
  rw [List.append_nil]
  obtain ⟨P1, r, k⟩ := hr H2 (a.trans e2)
  exact ⟨P1, r, fun v H3 e3 p => q v H3 (e2.trans e3) (k v H3 e3 p)⟩
theorem ep_ownA {R : RR} {Pa : List V → Hp → Prop} {P : V → Hp → Prop} (h : EvPA tr σ H Pa) (hr : ∀ vs H1, Ex H H1 → Pa vs H1 → ∃ P1, R vs H1 P1 ∧ ∀ v H2, Ex H1 H2 → P1 v H2 → P v H2) : EvP (tCall (spOf R) [] E0 tr) σ H P := fun H1 a Q q => h H1 a _ fun vs H2 e2 pv => by
  rw [List.append_nil]
  obtain ⟨P1, r, k⟩ := hr vs H2 (a.trans e2) pv
  exact ⟨P1, r, fun v H3 e3 p => q v H3 (e2.trans e3) (k v H3 e3 p)⟩
theorem ev_own {R : RR} (h : EvA tr σ H vs) (hr : ∀ H1, Ex H H1 → R vs H1 (fun v _ => v = z)) : Ev (tCall (spOf R) [] E0 tr) σ H z := (ep_own (P := fun v _ => v = z) h fun H1 e => ⟨_, hr H1 e, fun _ _ _ p => p⟩).toV
theorem ev_ownA {R : RR} {Pa : List V → Hp → Prop} (h : EvPA tr σ H Pa) (hr : ∀ vs H1, Ex H H1 → Pa vs H1 → R vs H1 (fun v _ => v = z)) : Ev (tCall (spOf R) [] E0 tr) σ H z := (ep_ownA (P := fun v _ => v = z) h fun vs H1 e p => ⟨_, hr vs H1 e p, fun _ _ _ p => p⟩).toV
def Obj1 (C : Addr) (H : Hp) (v : V) (m : Str) : Prop := ∃ a dx fs, v = .ref a ∧ H a = some (.ins C dx fs) ∧ fs.lookup m = none
theorem ep_meth {R : RR} {P : V → Hp → Prop} (ho : Ev ta σ H v) (hi : Obj1 C H v m) (h : EvA tr σ H vs) (hr : ∀ H1, Ex H H1 → ∃ P1, R (v :: vs) H1 P1 ∧ ∀ v H2, Ex H1 H2 → P1 v H2 → P v H2) : EvP (tMeth C m (spOf R) [] E0 ta tr) σ H P := fun H1 a Q q => ho H1 a _ fun H2 e2 => by
  obtain ⟨p, dx, fs, rfl, hp, hm⟩ := hi
  refine ⟨p, dx, fs, rfl, (a.trans e2) _ _ hp, hm, h H2 (a.trans e2) _ fun H3 e3 => ?_⟩
  rw [List.append_nil]
  obtain ⟨P1, r, k⟩ := hr H3 ((a.trans e2).trans e3)
  exact ⟨P1, r, fun v H4 e4 p => q v H4 ((e2.trans e3).trans e4) (k v H4 e4 p)⟩
theorem ev_meth {R : RR} (ho : Ev ta σ H v) (hi : Obj1 C H v m) (h : EvA tr σ H vs) (hr : ∀ H1, Ex H H1 → R (v :: vs) H1 (fun v _ => v = z)) : Ev (tMeth C m (spOf R) [] E0 ta tr) σ H z := (ep_meth (P := fun v _ => v = z) ho hi h fun H1 e => ⟨_, hr H1 e, fun _ _ _ p => p⟩).toV
theorem FldD.o1 (h : FldD K C H v f d) : Obj1 C H v "are_ends" := by obtain ⟨a, dx, fs, x, h1, h2, h3, _⟩ := h; exact ⟨a, dx, fs, h1, h2, h3.m1⟩
theorem FldD.o2 (h : FldD K C H v f d) : Obj1 C H v "checked_link" := by obtain ⟨a, dx, fs, x, h1, h2, h3, _⟩ := h; exact ⟨a, dx, fs, h1, h2, h3.m2⟩
theorem FldD.o3 (h : FldD K C H v f d) : Obj1 C H v "checked_path" := by obtain ⟨a, dx, fs, x, h1, h2, h3, _⟩ := h; exact ⟨a, dx, fs, h1, h2, h3.m3⟩
theorem FldD.o4 (h : FldD K C H v f d) : Obj1 C H v "check_place" := by obtain ⟨a, dx, fs, x, h1, h2, h3, _⟩ := h; exact ⟨a, dx, fs, h1, h2, h3.m4⟩
theorem FldD.o5 (h : FldD K C H v f d) : Obj1 C H v "check_wind" := by obtain ⟨a, dx, fs, x, h1, h2, h3, _⟩ := h; exact ⟨a, dx, fs, h1, h2, h3.m5⟩
theorem FldD.o6 (h : FldD K C H v f d) : Obj1 C H v "walks_from" := by obtain ⟨a, dx, fs, x, h1, h2, h3, _⟩ := h; exact ⟨a, dx, fs, h1, h2, h3.m6⟩
theorem FldD.o7 (h : FldD K C H v f d) : Obj1 C H v "minutes_between" := by obtain ⟨a, dx, fs, x, h1, h2, h3, _⟩ := h; exact ⟨a, dx, fs, h1, h2, h3.m7⟩
/-- arguments: values known, then one told otherwise -/
theorem epa_v {P : List V → Hp → Prop} (h : Ev te σ H v) (hr : EvPA tr σ H P) : EvPA (tCons te tr) σ H (fun ws H' => ∃ r, ws = v :: r ∧ P r H') := fun H1 a Q q => h H1 a _ fun H2 e2 => hr H2 (a.trans e2) _ fun vs H3 e3 p => q _ H3 (e2.trans e3) ⟨vs, rfl, p⟩
theorem epa_1 {P : V → Hp → Prop} (h : EvP te σ H P) : EvPA (tCons te tNil) σ H (fun ws H' => ∃ w, ws = [w] ∧ P w H') := fun H1 a Q q => h H1 a _ fun w H2 e2 p => q _ H2 e2 ⟨w, rfl, p⟩
theorem q_req (h : Ev te σ H (.bl true)) (k : ∀ H1, Ex H H1 → tz D σ H1) : tSeq (tDrop (tCall (spOf (R_require K C)) [] E0 (tCons te tNil))) tz D σ H :=
  q_drop (ev_own (ea_cons h ea_nil) fun H1 e => ⟨rfl, rfl⟩) k
theorem s_req (h : Ev te σ H (.bl true)) (k : ∀ H1, Ex H H1 → D.nx σ H1) : tDrop (tCall (spOf (R_require K C)) [] E0 (tCons te tNil)) D σ H :=
  s_drop (ev_own (ea_cons h ea_nil) fun H1 e => ⟨rfl, rfl⟩) k
/-! ### small built-ins -/
variable {i j k l : Int}
theorem ev_chainLe (ha : Ev ta σ H (.int i)) (hb : Ev tb σ H (.int j)) (hc : Ev tc σ H (.int k)) : Ev (tChain rLe rLe ta tb tc) σ H (.bl (decide (i ≤ j) && decide (j ≤ k))) := fun H1 a Q q => ha H1 a _ fun H2 e2 => hb H2 (a.trans e2) _ fun H3 e3 => by
  refine ⟨i, j, rfl, rfl, decide (i ≤ j), rfl, ?_⟩
  by_cases c : i ≤ j
  · rw [if_pos (decide_eq_true c)]
    rw [decide_eq_true c] at q
    exact hc H3 ((a.trans e2).trans e3) _ fun H4 e4 => ⟨j, k, rfl, rfl, q H4 ((e2.trans e3).trans e4)⟩
  · rw [if_neg (by simpa using c)]
    rw [decide_eq_false c] at q
    exact q H3 (e2.trans e3)
theorem ev_chain3Le (ha : Ev ta σ H (.int i)) (hb : Ev tb σ H (.int j)) (hc : Ev tc σ H (.int k)) (hd : Ev td σ H (.int l)) (h1 : i ≤ j) (h2 : j ≤ k) (h3 : k ≤ l) : Ev (tChain3 rLe rLe rLe ta tb tc td) σ H (.bl true) := fun H1 a Q q => ha H1 a _ fun H2 e2 => hb H2 (a.trans e2) _ fun H3 e3 => by
  refine ⟨i, j, rfl, rfl, decide (i ≤ j), rfl, ?_⟩
  rw [if_pos (decide_eq_true h1)]
  refine hc H3 ((a.trans e2).trans e3) _ fun H4 e4 => ⟨j, k, rfl, rfl, decide (j ≤ k), rfl, ?_⟩
  rw [if_pos (decide_eq_true h2)]
  refine hd H4 (((a.trans e2).trans e3).trans e4) _ fun H5 e5 => ⟨k, l, rfl, rfl, ?_⟩
  have z := q H5 (((e2.trans e3).trans e4).trans e5)
  show Q (.bl (decide (k ≤ l))) H5
  rw [decide_eq_true h3]
  exact z
theorem ev_min2 (ha : Ev ta σ H (.int i)) (hb : Ev tb σ H (.int j)) : Ev (tCB rMin2 (tCons ta (tCons tb tNil))) σ H (.int (if j < i then j else i)) := fun H1 e Q q =>
  ha H1 e _ fun H2 e2 => hb H2 (e.trans e2) _ fun H3 e3 => ⟨i, j, rfl, q H3 (e2.trans e3)⟩
theorem ev_int1 (ha : Ev ta σ H (.int i)) : Ev (tCB rInt1 (tCons ta tNil)) σ H (.int i) := fun H1 e Q q => ha H1 e _ fun H2 e2 => .inl ⟨i, rfl, q H2 e2⟩
theorem ev_abs (ha : Ev ta σ H (.int i)) : Ev (tCB rAbs (tCons ta tNil)) σ H (.int (if i < 0 then -i else i)) := fun H1 e Q q => ha H1 e _ fun H2 e2 => ⟨i, rfl, q H2 e2⟩
theorem ev_lenSt {s : Str} (ha : Ev ta σ H (.str s)) (hs : s.length ≤ 100000) : Ev (tCB rLenSt (tCons ta tNil)) σ H (.int s.length) := fun H1 e Q q => ha H1 e _ fun H2 e2 => ⟨s, rfl, sz_of hs, q H2 e2⟩
theorem ev_ixS {s : Str} {c : Nat} (ha : Ev ta σ H (.str s)) (hb : Ev tb σ H (.int i)) (hs : s.length ≤ 100000) (hi : atI s.cps.toList i = some c) : Ev (tOp rIxS ta tb) σ H (.str ⟨#[c]⟩) := ev_op ha hb (rv_ixS hs hi)
theorem ev_inSg {s : Str} {c : Nat} (ha : Ev ta σ H (.str ⟨#[c]⟩)) (hb : Ev tb σ H (.str s)) : Ev (tOp rInSg ta tb) σ H (.bl (decide (c ∈ s.cps.toList))) := ev_op ha hb fun H1 _ Q q => ⟨c, s, rfl, rfl, q H1 (Ex.refl _)⟩
theorem ev_neg (ha : Ev ta σ H (.int i)) : Ev (tUn (rU fun i => .int (-i)) ta) σ H (.int (-i)) := ev_un ha ru_neg
theorem ev_str2 {s t : Str} (ha : Ev ta σ H (.str s)) (hb : Ev tb σ H (.str t)) (hl : s.length + t.length ≤ 100000) : Ev (tOp rAddS ta tb) σ H (.str (s ++ t)) := ev_op ha hb fun H1 _ Q q => ⟨s, t, rfl, rfl, sz_of hl, q H1 (Ex.refl _)⟩
/-- the index of a text in a tuple of texts -/
theorem idx_first {α : Type} [DecidableEq α] : ∀ {l : List α} {s : α} {m : Nat}, m < l.idxOf s → l[m]? ≠ some s
  | [], _, _, h => fun e => by simp at e
  | a :: l, s, 0, h => fun e => by
    have e2 : a = s := Option.some.inj e
    subst e2
    rw [List.idxOf_cons_self] at h
    cases h
  | a :: l, s, m + 1, h => fun e => by
    by_cases c : a = s
    · subst c
      rw [List.idxOf_cons_self] at h
      cases h
    · rw [List.idxOf_cons, show (a == s) = false from beq_eq_false_iff_ne.mpr c] at h
      exact idx_first (Nat.lt_of_succ_lt_succ h) (by simpa using e)
theorem ev_tix {ss : List Str} {s : Str} (ha : EvP ta σ H (fun v H' => Dp K H' v (.tuple (ss.map .str)) ∧ NoDk H' v)) (hb : Ev tb σ H (.str s)) (hm : s ∈ ss) : Ev (tBT K (rTIx K) ta (tCons tb tNil)) σ H (.int ((ss.idxOf s : Nat) : Int)) := fun H1 a Q q => ha H1 a _ fun v H2 e2 hv => by
  obtain ⟨hv, nd⟩ := hv
  obtain ⟨p, xs, rfl, hs, hx⟩ := dp_tup hv
  have ex := of_strs hx
  subst ex
  refine ⟨nd, ⟨p, _, rfl, hs⟩, hb H2 (a.trans e2) _ fun H3 e3 => ⟨p, ss, s, ss.idxOf s, rfl, rfl, ex_t e3 hs, ?_, fun m hm2 => idx_first hm2, q H3 (e2.trans e3)⟩⟩
  have h1 := List.idxOf_lt_length_of_mem hm
  rw [List.getElem?_eq_getElem h1, List.getElem_idxOf h1]
end
end Ef
/-! ==== EfU2 -/
set_option Elab.async false
set_option linter.all false
set_option maxRecDepth 100000
set_option maxHeartbeats 4000000
/-! Loops that change what they do not walk; dicts as maps. -/
namespace Ef
open PySem L2 Evl
/-- the tuples stand -/
def KeepT (H H' : Hp) : Prop := ∀ a xs, Rd H a (.tup xs) → Rd H' a (.tup xs)
theorem KeepT.refl (H : Hp) : KeepT H H := fun _ _ h => h
theorem KeepT.of {H H' : Hp} (e : Ex H H') : KeepT H H' := fun _ _ h => ex_rd e h
theorem KeepT.trans {H H1 H2 : Hp} (a : KeepT H H1) (b : KeepT H1 H2) : KeepT H H2 := fun _ _ h => b _ _ (a _ _ h)
theorem KeepT.upd {H H' : Hp} {p : Addr} {o : HO} (k : KeepT H H') (nt : NoT H' p) : KeepT H (upd H' p o) := fun a xs h => by
  have h1 := k a xs h
  have ne : a ≠ p := fun z => nt xs (z ▸ h1)
  rcases h1 with h1 | ⟨ob, h1⟩
  · exact .inl (by rw [upd_ne ne]; exact h1)
  · exact .inr ⟨ob, by rw [upd_ne ne]; exact h1⟩
section
variable {K : PySem.W.Frag} {H H' : Hp}
mutual
theorem dp_keep (k : KeepT H H') : ∀ (d : PyData) (v : V), noL d = true → Dp K H v d → Dp K H' v d
  | .none, _, _, h => by cases h; exact .non
  | .bool b, _, _, h => by cases h; exact .bl b
  | .int i, _, _, h => by cases h; exact .int i
  | .str x, _, _, h => by cases h; exact .str x
  | .list ds, _, n, h => by cases n
  | .tuple ds, _, n, h => by
    cases h with
    | tup hs ha =>
      refine .tup ?_ (dps_keep k ds _ n ha)
      rcases hs with hs | hs
      · exact .inl (k _ _ hs)
      · exact .inr hs
  | .dict _, _, _, h => by cases h
theorem dps_keep (k : KeepT H H') : ∀ (ds : List PyData) (vs : List V), noLs ds = true → DpAll K H vs ds → DpAll K H' vs ds
  | [], _, _, h => by cases h; exact .nil
  | d :: ds, _, n, h => by
    obtain ⟨n1, n2⟩ := Bool.and_eq_true_iff.mp (show (noL d && noLs ds) = true from n)
    cases h with
    | cons h1 h2 => exact .cons (dp_keep k d _ n1 h1) (dps_keep k ds _ n2 h2)
end
end
section
variable {K : PySem.W.Frag} {σ : L2.St} {H : Hp} {tl td : TE} {g : TG} {tb tz : TS} {D : Ends} {α : Type} {ea : α → PyData} {as : List α} {PP : V → Hp → Prop}
theorem s_forM (hl : EvP tl σ H PP) (hn : ∀ b, noL (ea b) = true)
    (k : ∀ v H2, Ex H H2 → PP v H2 → ∃ a xs, v = .ref a ∧ SqL K H2 a xs ∧ DpAll K H2 xs (as.map ea) ∧ ∃ Pv : Nat → L2.St → Hp → Prop, Pv 0 σ H2 ∧ (∀ i σ' H', Pv i σ' H' → SqL K H' a xs ∧ KeepT H2 H') ∧
      (∀ i b x σ' H' Hb, as[i]? = some b → Pv i σ' H' → Ex H' Hb → Dp K Hb x (ea b) → ∃ σ2, GSet g x σ' Hb σ2 ∧ tb { D with nx := Pv (i + 1), ct := Pv (i + 1), bk := D.nx } σ2 Hb) ∧ (∀ σ' H', Pv as.length σ' H' → D.nx σ' H')) : tFor (iList K tl) g tb D σ H := hl H (Ex.refl _) _ fun v H2 e2 pv => by
  obtain ⟨a, xs, rfl, hs, hd, Pv, h0, hG, hst, hdn⟩ := k v H2 e2 pv
  have hlen : xs.length = as.length := by rw [dps_len hd, List.length_map]
  have w : Walk (Itl K a) as.length (fun H' => SqL K H' a xs ∧ KeepT H2 H') (fun i Ha x Hb => Ha = Hb ∧ ∃ b, as[i]? = some b ∧ Dp K Hb x (ea b)) := by
    rw [← hlen]
    refine walk_list.mono (fun H' e => e.1) fun i Ha x Hb hi e y => ?_
    obtain ⟨rfl, y⟩ := y
    obtain ⟨c, h1, h2⟩ := dps_mem hd y
    exact ⟨rfl, c, h1, dp_keep e.2 _ _ (hn c) h2⟩
  refine ⟨a, rfl, ⟨xs, hs⟩, for_it w Pv h0 (fun i σ' H' _ p => hG i σ' H' p) (fun i x σ' Ha Hb hi p y => ?_) hdn⟩
  obtain ⟨rfl, c, y2, y3⟩ := y
  obtain ⟨σ2, h1, h2⟩ := hst i c x σ' Ha Ha y2 p (Ex.refl _) y3
  exact h1 Ha (Ex.refl _) _ h2
theorem q_forM (hl : EvP tl σ H PP) (hn : ∀ b, noL (ea b) = true)
    (k : ∀ v H2, Ex H H2 → PP v H2 → ∃ a xs, v = .ref a ∧ SqL K H2 a xs ∧ DpAll K H2 xs (as.map ea) ∧ ∃ Pv : Nat → L2.St → Hp → Prop, Pv 0 σ H2 ∧ (∀ i σ' H', Pv i σ' H' → SqL K H' a xs ∧ KeepT H2 H') ∧
      (∀ i b x σ' H' Hb, as[i]? = some b → Pv i σ' H' → Ex H' Hb → Dp K Hb x (ea b) → ∃ σ2, GSet g x σ' Hb σ2 ∧ tb { D with nx := Pv (i + 1), ct := Pv (i + 1), bk := tz D } σ2 Hb) ∧ (∀ σ' H', Pv as.length σ' H' → tz D σ' H')) : tSeq (tFor (iList K tl) g tb) tz D σ H := s_forM (D := { D with nx := tz D }) hl hn k
/-- over the pairs of a dict made on the way (locked for good) -/
theorem q_forI (hl : EvP td σ H PP)
    (k : ∀ v H2, Ex H H2 → PP v H2 → ∃ d l, v = .ref d ∧ H2 d = some (.dK (dk l)) ∧ ∀ od, ∃ Pv : Nat → L2.St → Hp → Prop, Pv 0 σ (upd H2 d (.frz od (.dK (dk l)))) ∧ (∀ i σ' H', Pv i σ' H' → H' d = some (.frz od (.dK (dk l)))) ∧
      (∀ i b x σ' H' Hb, l[i]? = some b → Pv i σ' H' → Ex H' Hb → Dp K Hb x (pairD b) → ∃ σ2, GSet g x σ' Hb σ2 ∧ tb { D with nx := Pv (i + 1), ct := Pv (i + 1), bk := tz D } σ2 Hb) ∧ (∀ σ' H', Pv l.length σ' H' → tz D σ' H')) : tSeq (tFor (iItems (tFrz td)) g tb) tz D σ H := hl H (Ex.refl _) _ fun v H2 e2 pv => by
  obtain ⟨d, l, rfl, hd, k⟩ := k v H2 e2 pv
  refine ⟨d, _, rfl, hd, trivial, fun od => ?_⟩
  obtain ⟨Pv, h0, hG, hst, hdn⟩ := k od
  refine ⟨d, od, dk l, rfl, upd_same, ?_⟩
  have hlen : (dk l).length = l.length := by rw [dk, List.length_map]
  have w := walk_items (d := d) (o := od) (kvs := dk l)
  rw [hlen] at w
  refine for_it (D := { D with nx := tz D }) w Pv h0 (fun i σ' H' _ p => hG i σ' H' p) (fun i x σ' Ha Hb hi p y => ?_) hdn
  obtain ⟨T, x1, x2, rfl, hT, rfl, h1, h2⟩ := y
  have e3 : (dk l)[i]? = (l[i]?).map fun p => ((.inr p.1, .int p.2) : Key × V) := by rw [dk, List.getElem?_map]
  dsimp only at h1 h2
  cases el : l[i]? with
  | none => rw [e3, el] at h1; cases h1
  | some b =>
    rw [e3, el] at h1 h2
    have h1' : V.str b.1 = x1 := Option.some.inj h1
    have h2' : V.int b.2 = x2 := Option.some.inj h2
    subst h1'
    subst h2'
    obtain ⟨σ2, h1, h2⟩ := hst i b _ σ' Ha _ el p (Ex.new hT) (.tup (st_of upd_same) (.cons (.str _) (.cons (.int _) .nil)))
    exact h1 _ (Ex.refl _) _ h2
end
/-! ### dicts as maps -/
section
variable {β : Type} (enc : β → V)
def dkG (l : List (Str × β)) : List (Key × V) := l.map fun p => (.inr p.1, enc p.2)
theorem valV_G (l : List (Str × β)) (p : Str) : valV (dkG enc l) (.inr p) = (lk l p).map enc := by
  induction l with
  | nil => rfl
  | cons a l ih =>
    rw [lk_cons]
    by_cases c : a.1 = p
    · rw [if_pos c]
      exact valV_pos (p := (.inr a.1, enc a.2)) (r := dkG enc l) (by rw [c])
    · rw [if_neg c, ← ih]
      exact valV_neg (p := (.inr a.1, enc a.2)) (r := dkG enc l) (fun z => c (Sum.inr.inj z))
theorem any_G (l : List (Str × β)) (p : Str) : ((dkG enc l).any fun kv => decide (kv.1 = (.inr p : Key))) = (l.any fun q => decide (q.1 = p)) := by
  unfold dkG
  rw [List.any_map]
  congr 1
  funext q
  show decide ((Sum.inr q.1 : Key) = .inr p) = decide (q.1 = p)
  by_cases c : q.1 = p
  · rw [decide_eq_true c, decide_eq_true (by rw [c])]
  · rw [decide_eq_false c, decide_eq_false (fun z => c (Sum.inr.inj z))]
theorem put_G (l : List (Str × β)) (p : Str) (b : β) : putK (dkG enc l) (.inr p) (enc b) = dkG enc (putL l p b) := by
  unfold putK putL
  rw [any_G]
  split
  · unfold dkG
    rw [List.map_map, List.map_map]
    refine List.map_congr_left fun q _ => ?_
    show (if (Sum.inr q.1 : Key) = .inr p then ((Sum.inr q.1 : Key), enc b) else (Sum.inr q.1, enc q.2)) = (Sum.inr (if q.1 = p then (q.1, b) else q).1, enc (if q.1 = p then (q.1, b) else q).2)
    by_cases c : q.1 = p
    · rw [if_pos c, if_pos (by rw [c])]
    · rw [if_neg c, if_neg (fun z => c (Sum.inr.inj z))]
  · unfold dkG
    rw [List.map_append]
    rfl
theorem drop_G (l : List (Str × β)) (p : Str) : dropK (dkG enc l) (.inr p) = dkG enc (dropL l p) := by
  unfold dropK dropL dkG
  rw [List.filter_map]
  congr 1
  refine List.filter_congr fun q _ => ?_
  exact decide_eq_decide.mpr ⟨fun h c => h (by show (Sum.inr q.1 : Key) = .inr p; rw [c]), fun h c => h (Sum.inr.inj c)⟩
end
theorem valV_I (l : List (Str × Int)) (p : Str) : valV (dk l) (.inr p) = (lk l p).map V.int := valV_G V.int l p
theorem put_I (l : List (Str × Int)) (p : Str) (b : Int) : putK (dk l) (.inr p) (.int b) = dk (putL l p b) := put_G V.int l p b
theorem drop_I (l : List (Str × Int)) (p : Str) : dropK (dk l) (.inr p) = dk (dropL l p) := drop_G V.int l p
theorem valV_S (l : List (Str × Option Str)) (p : Str) : valV (dsr l) (.inr p) = (lk l p).map srcV := valV_G srcV l p
theorem put_S (l : List (Str × Option Str)) (p : Str) (b : Option Str) : putK (dsr l) (.inr p) (srcV b) = dsr (putL l p b) := put_G srcV l p b
theorem dk_len (l : List (Str × Int)) : (dk l).length = l.length := List.length_map _
theorem dsr_len (l : List (Str × Option Str)) : (dsr l).length = l.length := List.length_map _
section
variable {K : PySem.W.Frag} {σ : L2.St} {H : Hp} {ta td tx te : TE} {d : Addr} {l : List (Str × Int)} {ls : List (Str × Option Str)} {p : Str} {D : Ends} {tz : TS} {m : Int}
theorem ev_dinI (hk : Ev ta σ H (.str p)) (hd : Ev td σ H (.ref d)) (h : H d = some (.dK (dk l))) : Ev (tDIn ta td) σ H (.bl (lk l p).isSome) := by
  have z := ev_din (k := .inr p) hk hd h
  rw [valV_I, Option.isSome_map] at z
  exact z
theorem ev_dniI (hk : Ev ta σ H (.str p)) (hd : Ev td σ H (.ref d)) (h : H d = some (.dK (dk l))) : Ev (tDNotIn ta td) σ H (.bl (!(lk l p).isSome)) := by
  have z := ev_dni (k := .inr p) hk hd h
  rw [valV_I, Option.isSome_map] at z
  exact z
theorem ev_dgetI (hd : Ev td σ H (.ref d)) (hk : Ev ta σ H (.str p)) (h : H d = some (.dK (dk l))) (hv : lk l p = some m) : Ev (tDGet td ta) σ H (.int m) :=
  ev_dget (k := .inr p) hd hk h (by rw [valV_I, hv]; rfl)
theorem ev_dget2I (hd : Ev td σ H (.ref d)) (hk : Ev ta σ H (.str p)) (hx : Ev tx σ H (.int m)) (h : H d = some (.dK (dk l))) : Ev (tDGet2 td ta tx) σ H (.int ((lk l p).getD m)) := by
  have z := ev_dget2 (k := .inr p) hd hk hx h
  rw [valV_I] at z
  cases e : lk l p with
  | none => rw [e] at z; exact z
  | some b => rw [e] at z; exact z
theorem ev_dgetS {s : Option Str} (hd : Ev td σ H (.ref d)) (hk : Ev ta σ H (.str p)) (h : H d = some (.dK (dsr ls))) (hv : lk ls p = some s) : Ev (tDGet td ta) σ H (srcV s) :=
  ev_dget (k := .inr p) hd hk h (by rw [valV_S, hv]; rfl)
theorem s_dputI (hv : Ev te σ H (.int m)) (hd : Ev td σ H (.ref d)) (hk : Ev ta σ H (.str p)) (h : H d = some (.dK (dk l))) (hl : l.length < 100000) (c : ∀ H1, Ex H H1 → D.nx σ (upd H1 d (.dK (dk (putL l p m))))) : sDPut td ta te D σ H :=
  s_dput (k := .inr p) hv hd hk h (by rw [dk_len]; exact hl) (by rw [put_I]; exact c)
theorem q_dputI (hv : Ev te σ H (.int m)) (hd : Ev td σ H (.ref d)) (hk : Ev ta σ H (.str p)) (h : H d = some (.dK (dk l))) (hl : l.length < 100000) (c : ∀ H1, Ex H H1 → tz D σ (upd H1 d (.dK (dk (putL l p m))))) : tSeq (sDPut td ta te) tz D σ H :=
  s_dputI (D := { D with nx := tz D }) hv hd hk h hl c
theorem s_dputS {b : Option Str} (hv : Ev te σ H (srcV b)) (hd : Ev td σ H (.ref d)) (hk : Ev ta σ H (.str p)) (h : H d = some (.dK (dsr ls))) (hl : ls.length < 100000) (c : ∀ H1, Ex H H1 → D.nx σ (upd H1 d (.dK (dsr (putL ls p b))))) : sDPut td ta te D σ H :=
  s_dput (k := .inr p) hv hd hk h (by rw [dsr_len]; exact hl) (by rw [put_S]; exact c)
theorem q_dpopI (hd : Ev td σ H (.ref d)) (hk : Ev ta σ H (.str p)) (h : H d = some (.dK (dk l))) (hv : lk l p = some m) (c : ∀ H1, Ex H H1 → tz D σ (upd H1 d (.dK (dk (dropL l p))))) : tSeq (tDrop (tDPop1 td ta)) tz D σ H :=
  q_dpop (k := .inr p) hd hk h (by rw [valV_I, hv]; rfl) (by rw [drop_I]; exact c)
/-- min of a list of pairs -/
theorem min_mem {α : Type} [DecidableEq α] [PySem.W.DatumOrd α] : ∀ (xs : List α) (x : α), PySem.W.minOf x xs ∈ x :: xs
  | [], x => List.mem_cons_self
  | y :: ys, x => by
    have h := min_mem ys (if PySem.W.DatumOrd.lt y x = true then y else x)
    show PySem.W.minOf (if PySem.W.DatumOrd.lt y x = true then y else x) ys ∈ _
    rcases List.mem_cons.mp h with z | z
    · rw [z]
      split
      · exact List.mem_cons_of_mem _ List.mem_cons_self
      · exact List.mem_cons_self
    · exact List.mem_cons_of_mem _ (List.mem_cons_of_mem _ z)
theorem min_le {α : Type} [DecidableEq α] [PySem.W.DatumOrd α] : ∀ (xs : List (Int × α)) (x : Int × α), ∀ y ∈ x :: xs, (PySem.W.minOf x xs).1 ≤ y.1
  | [], x, y, h => by
    rcases List.mem_cons.mp h with z | z
    · rw [z]; exact Int.le_refl _
    · cases z
  | z :: zs, x, y, h => by
    have k := min_le zs (if PySem.W.DatumOrd.lt z x = true then z else x)
    show (PySem.W.minOf (if PySem.W.DatumOrd.lt z x = true then z else x) zs).1 ≤ y.1
    have k0 := k _ List.mem_cons_self
    have lt1 : PySem.W.DatumOrd.lt z x = (if z.1 = x.1 then PySem.W.DatumOrd.lt z.2 x.2 else decide (z.1 < x.1)) := rfl
    have le1 : (if PySem.W.DatumOrd.lt z x = true then z else x).1 ≤ x.1 ∧ (if PySem.W.DatumOrd.lt z x = true then z else x).1 ≤ z.1 := by
      rw [lt1]
      by_cases c : z.1 = x.1
      · rw [if_pos c]
        split <;> omega
      · rw [if_neg c]
        by_cases c2 : z.1 < x.1
        · rw [if_pos (decide_eq_true c2)]; omega
        · rw [if_neg (by simpa using c2)]; omega
    rcases List.mem_cons.mp h with e | e
    · rw [e]; omega
    · rcases List.mem_cons.mp e with e | e
      · rw [e]; omega
      · exact k y (List.mem_cons_of_mem _ e)
theorem ep_minO {α : Type} [DecidableEq α] [PySem.W.DatumOrd α] {x : α} {xs : List α} (h : EvD K te σ H (.list ((x :: xs).map PySem.W.Datum.toD))) : EvD K (tCB (rMinO K α) (tCons te tNil)) σ H (PySem.W.Datum.toD (PySem.W.minOf x xs)) := fun H1 a Q q => h H1 a _ fun v H2 e2 hv =>
  ⟨v, x, xs, rfl, hv, fun w hw => q w H2 e2 hw⟩
/-- min(ints, default=None) -/
theorem ev_minDf {ns : List Int} (h : EvD K te σ H (intsD ns)) (hz : Ev tx σ H .non) : Ev (tCKw (rMinDf K) (tCons te tNil) (tCons tx tNil)) σ H (optV (lmin ns)) := fun H1 a Q q => h H1 a _ fun v H2 e2 hv => hz H2 (a.trans e2) _ fun H3 e3 => by
  refine ⟨v, .non, ns, rfl, rfl, hv.up e3, fun e => ?_, fun n ms e => ?_⟩
  · subst e
    exact q H3 (e2.trans e3)
  · subst e
    have z := q H3 (e2.trans e3)
    have e4 : optV (lmin (n :: ms)) = .int (PySem.W.minOf n ms) := by
      show V.int (ms.foldl (fun a y => if y < a then y else a) n) = .int (ms.foldl (fun a y => if decide (y < a) = true then y else a) n)
      congr 2
      funext a y
      by_cases c : y < a
      · rw [if_pos c, if_pos (decide_eq_true c)]
      · rw [if_neg c, if_neg (by simpa using c)]
    rw [e4] at z
    exact z
end
end Ef
/-! ==== EfU3 -/
set_option Elab.async false
set_option linter.all false
set_option maxRecDepth 100000
set_option maxHeartbeats 4000000
/-! A list that is being made. -/
namespace Ef
open PySem L2 Evl
/-- all but p stands -/
def ExB (p : Addr) (H H' : Hp) : Prop := ∀ a o, a ≠ p → H a = some o → H' a = some o
theorem ExB.of {p : Addr} {H H' : Hp} (e : Ex H H') : ExB p H H' := fun a o _ h => e a o h
theorem ExB.upd {p : Addr} {H H' : Hp} {o : HO} (e : Ex H H') : ExB p H (upd H' p o) := fun a u ne h => by
  rw [upd_ne ne]
  exact e a u h
theorem ExB.ex {p : Addr} {H0 H H' : Hp} (b : ExB p H H') (e : Ex H0 H) (hp : H0 p = none) : Ex H0 H' := fun a o h => b a o (ne_of_none h hp) (e a o h)
theorem ExB.trans {p : Addr} {H H1 H2 : Hp} (a : ExB p H H1) (b : ExB p H1 H2) : ExB p H H2 := fun x o ne h => b x o ne (a x o ne h)
theorem ExB.keepT {p : Addr} {H H' : Hp} (b : ExB p H H') (nt : NoT H p) : KeepT H H' := fun a xs h => by
  have ne : a ≠ p := fun z => nt xs (z ▸ h)
  rcases h with h | ⟨o, h⟩
  · exact .inl (b _ _ ne h)
  · exact .inr ⟨o, b _ _ ne h⟩
theorem ExB.sql {p a : Addr} {K : Frg} {H H' : Hp} {xs : List V} (b : ExB p H H') (ne : a ≠ p) (h : SqL K H a xs) : SqL K H' a xs := by
  rcases h with (h | ⟨o, h⟩) | h
  · exact .inl (.inl (b _ _ ne h))
  · exact .inl (.inr ⟨o, b _ _ ne h⟩)
  · exact .inr h
section
variable {α : Type} {eb : α → PyData} {K : Frg} {H0 H H' : Hp} {p : Addr} {l : List α} {b : α} {σ : L2.St} {ta te : TE} {D : Ends} {tz : TS}
/-- the list at p, new since H0, tells l -/
structure Acc (K : Frg) (H0 : Hp) (p : Addr) {α : Type} (eb : α → PyData) (l : List α) (H : Hp) : Prop where
  new : H0 p = none
  ex : Ex H0 H
  at_ : ∃ xs, H p = some (.lst xs) ∧ DpAll K H xs (l.map eb)
theorem Acc.up (A : Acc K H0 p eb l H) (e : Ex H H') : Acc K H0 p eb l H' := by
  obtain ⟨xs, h1, h2⟩ := A.at_
  exact ⟨A.new, A.ex.trans e, xs, e _ _ h1, h2.up e⟩
theorem Acc.back {G : Hp} (A : Acc K H0 p eb l H) (e : Ex G H0) : Acc K G p eb l H := ⟨fresh_back e A.new, e.trans A.ex, A.at_⟩
theorem Acc.dp (A : Acc K H0 p eb l H) : Dp K H (.ref p) (.list (l.map eb)) := by
  obtain ⟨xs, h1, h2⟩ := A.at_
  exact .lst (sq_of h1) h2
theorem Acc.noT (A : Acc K H0 p eb l H) : NoT H p := by
  obtain ⟨xs, h1, h2⟩ := A.at_
  exact noT_lst h1
theorem Acc.newL (A : Acc K H0 p eb l H) : NewL K H0 H (.ref p) (l.map eb) := by
  obtain ⟨xs, h1, h2⟩ := A.at_
  exact ⟨p, xs, rfl, A.new, h1, h2⟩
theorem acc_nil (hp : H0 p = none) (e : Ex H0 H) (h : H p = some (.lst [])) : Acc K H0 p eb [] H := ⟨hp, e, [], h, .nil⟩
/-- other things change -/
theorem Acc.other {q : Addr} (A : Acc K H0 p eb l H) (hn : ∀ b, noL (eb b) = true) (b : ExB q H H') (ne : p ≠ q) (e : Ex H0 H') (nt : NoT H q) : Acc K H0 p eb l H' := by
  obtain ⟨xs, h1, h2⟩ := A.at_
  exact ⟨A.new, e, xs, b _ _ ne h1, dps_keep (b.keepT nt) _ _ (noLs_map hn _) h2⟩
theorem q_acc0 (k : ∀ p H1, H p = none → Ex H H1 → (∀ (α : Type) (eb : α → PyData), Acc K H p eb [] H1) → tz D (σ.set i (some (.ref p))) H1) : tSeq (tAsg (tLst tNil) (gName i)) tz D σ H :=
  q_asgN (K := K) (en_lst (K := K) eda_nil (by decide)) fun p xs H1 hp e hx hd => k p H1 hp e fun α eb => by
    cases hd
    exact acc_nil hp e hx
theorem s_acc (A : Acc K H0 p eb l H) (hn : ∀ b, noL (eb b) = true) (ha : Ev ta σ H (.ref p)) (h : EvD K te σ H (eb b)) (hz : l.length < 100000) (k : ∀ H1, Acc K H0 p eb (l ++ [b]) H1 → ExB p H H1 → D.nx σ H1) : tDrop (tBM K "list" rAppend ta (tCons te tNil)) D σ H := by
  obtain ⟨xs, h1, h2⟩ := A.at_
  refine s_appD (K := K) h1 ha h (by rw [dps_len h2, List.length_map]; exact hz) fun v H1 e hv => k _ ⟨A.new, Ex.mut (A.ex.trans e) A.new, _, upd_same, ?_⟩ (ExB.upd e)
  rw [List.map_append]
  have q3 : H1 p = some (.lst xs) := e _ _ h1
  exact dps_app (dps_updN (noT_lst q3) _ _ (noLs_map hn _) (h2.up e)) (.cons (dp_updN (noT_lst q3) _ _ (hn b) hv) .nil)
theorem q_acc (A : Acc K H0 p eb l H) (hn : ∀ b, noL (eb b) = true) (ha : Ev ta σ H (.ref p)) (h : EvD K te σ H (eb b)) (hz : l.length < 100000) (k : ∀ H1, Acc K H0 p eb (l ++ [b]) H1 → ExB p H H1 → tz D σ H1) : tSeq (tDrop (tBM K "list" rAppend ta (tCons te tNil))) tz D σ H :=
  s_acc (D := { D with nx := tz D }) A hn ha h hz k
end
section
variable {σ : L2.St} {H : Hp} {ta tb te : TE} {t u : TT}
theorem ev_andT (h1 : Ev ta σ H (.bl true)) (h2 : Ev tb σ H (.bl true)) : Ev (tAndV ta tb) σ H (.bl true) := ev_andV (a := true) (b := true) h1 fun _ => h2
theorem et_BT {b c : Bool} (h : Ev te σ H (.bl b)) (e : b = c) : EvT (tB te) σ H c := et_is (et_B h) e
theorem et_testT {b c : Bool} (h : Ev te σ H (.bl b)) (e : b = c) : EvT (tTest te) σ H c := et_is (et_test h) e
theorem et_orF (h1 : EvT t σ H false) (h2 : EvT u σ H false) : EvT (tOr t u) σ H false := et_or (a := false) (b := false) h1 fun _ => h2
theorem et_notT (h1 : EvT t σ H false) : EvT (tNot t) σ H true := et_not (a := false) h1
theorem et_notF (h1 : EvT t σ H true) : EvT (tNot t) σ H false := et_not (a := true) h1
end
theorem take_snoc {α : Type} {as : List α} {i : Nat} {a : α} (h : as[i]? = some a) : as.take (i + 1) = as.take i ++ [a] := by
  rw [List.take_succ, h]
  rfl
theorem get_lt {α : Type} {as : List α} {i : Nat} {a : α} (h : as[i]? = some a) : i < as.length := by
  obtain ⟨w, _⟩ := List.getElem?_eq_some_iff.mp h
  exact w
theorem no_int (i : Int) : noL (.int i) = true := rfl
theorem no_str (i : Str) : noL (.str i) = true := rfl
theorem no_row (r : Str × Int) : noL (rowD r) = true := rfl
theorem no_wrow (r : Int × Str) : noL (wrowD r) = true := rfl
theorem no_pair (r : Str × Int) : noL (pairD r) = true := rfl
theorem no_pairO (b : Option (Int × Int)) : noL (pairO b) = true := by cases b <;> rfl
theorem no_numO (b : Option Int) : noL (numO b) = true := by cases b <;> rfl
theorem no_path (p : Path) : noL (pathD p) = true := rfl
theorem no_link (l : Link) : noL (linkD l) = true := by
  show (true && (true && (true && (noLs (l.times.map pairO) && true)))) = true
  rw [noLs_map no_pairO]
  rfl
end Ef
/-! ==== EfP1 -/
set_option Elab.async false
set_option linter.all false
set_option maxRecDepth 100000
set_option maxHeartbeats 4000000
/-! The methods and the small defs. -/
namespace Ef
open PySem L2 Evl
section
variable {K : Frg} {C : Addr}
theorem p_require : PureOk (R_require K C) (t_require K C) N_require := by
  rintro vs H P Q ⟨rfl, rfl⟩ q
  show t_require K C (endQ Q) [some (.bl true)] H
  exact s_guard (et_is (et_not (et_B (b := true) (ev_var rfl))) rfl) fun H1 e => q _ _ e rfl
theorem p_check_place (T : LTx K C) : PureOk (R_check_place K C) (t_check_place K C) N_check_place := by
  rintro vs H P Q ⟨l, ps, s, rfl, hf, hs, rfl⟩ q
  show t_check_place K C (endQ Q) [some l, some (.str s)] H
  have h := ev_niST (ev_var (σ := [some l, some (.str s)]) (i := 1) (H := H) rfl) (ed_fld T.cl T.np (ev_var (i := 0) rfl) hf)
  rw [decide_eq_true hs] at h
  exact s_guard (et_test h) fun H1 e => q _ _ e rfl
theorem p_check_wind (T : LTx K C) : PureOk (R_check_wind K C) (t_check_wind K C) N_check_wind := by
  rintro vs H P Q ⟨l, ps, s, rfl, hf, hs, rfl⟩ q
  show t_check_wind K C (endQ Q) [some l, some (.str s)] H
  have h := ev_niST (ev_var (σ := [some l, some (.str s)]) (i := 1) (H := H) rfl) (ed_fld T.cl T.nw (ev_var (i := 0) rfl) hf)
  rw [decide_eq_true hs] at h
  exact s_guard (et_test h) fun H1 e => q _ _ e rfl
theorem p_are_ends (T : LTx K C) : PureOk (R_are_ends K C) (t_are_ends K C) N_are_ends := by
  rintro vs H P Q ⟨l, ps, a, b, rfl, hf, ha, hb, ne, rfl⟩ q
  show t_are_ends K C (endQ Q) [some l, some (.str a), some (.str b)] H
  have h1 := ev_inST (ev_var (σ := [some l, some (.str a), some (.str b)]) (i := 1) (H := H) rfl) (ed_fld T.cl T.np (ev_var (i := 0) rfl) hf)
  have h2 := ev_inST (ev_var (σ := [some l, some (.str a), some (.str b)]) (i := 2) (H := H) rfl) (ed_fld T.cl T.np (ev_var (i := 0) rfl) hf)
  have h3 := ev_ne (ev_var (σ := [some l, some (.str a), some (.str b)]) (i := 1) (H := H) rfl) (ev_var (i := 2) rfl) (show scal (.str a) (.str b) = true from rfl)
  rw [decide_eq_true ha] at h1
  rw [decide_eq_true hb] at h2
  rw [decide_eq_false (fun z => ne (V.str.inj z))] at h3
  exact s_ret (ev_andV h1 fun _ => ev_andV h2 fun _ => h3) fun H1 e => q _ _ e rfl
/-- a tuple of four parts told -/
theorem gs_four {σ : L2.St} {H : Hp} {x : V} {d1 d2 d3 d4 : PyData} {i1 i2 i3 i4 : Nat} (hx : Dp K H x (.tuple [d1, d2, d3, d4])) : ∃ v1 v2 v3 v4, Dp K H v1 d1 ∧ Dp K H v2 d2 ∧ Dp K H v3 d3 ∧ Dp K H v4 d4 ∧
    GSet (gTup K 4 (gCons (gName i1) (gCons (gName i2) (gCons (gName i3) (gCons (gName i4) gNil))))) x σ H ((((σ.set i1 (some v1)).set i2 (some v2)).set i3 (some v3)).set i4 (some v4)) := by
  obtain ⟨p, xs, rfl, hs, hd⟩ := dp_tup hx
  cases hd with
  | cons h1 t =>
    cases t with
    | cons h2 t2 =>
      cases t2 with
      | cons h3 t3 =>
        cases t3 with
        | cons h4 t4 =>
          cases t4
          exact ⟨_, _, _, _, h1, h2, h3, h4, fun H1 a Q q => ⟨p, _, rfl, ex_t a hs, rfl, _, _, rfl, _, _, rfl, _, _, rfl, _, _, rfl, rfl, q⟩⟩
theorem p_checked_times : PureOk (R_checked_times K C) (t_checked_times K C) N_checked_times := by
  rintro vs H P Q ⟨v, ts, rfl, hv, hl, hp, rfl⟩ q
  show t_checked_times K C (endQ Q) [some v, some (.int (ts.length : Nat)), none, none] H
  have h1 := ev_eq (ev_lenT (ed_var (σ := [some v, some (.int (ts.length : Nat)), none, none]) (i := 0) (H := H) rfl hv)) (ev_var (i := 1) rfl) (show scal (.int _) (.int (ts.length : Nat)) = true from rfl)
  rw [List.length_map, decide_eq_true rfl] at h1
  refine q_req h1 fun H1 e1 => ?_
  refine q_acc0 (K := K) fun p H2 hp1 e2 acc => ?_
  have hv2 := hv.up e1
  show tSeq _ _ _ [some v, some (.int (ts.length : Nat)), some (.ref p), none] H2
  refine q_for0 (K := K) (ea := pairO) (as := ts) (H0 := H1) (ei_tup0 (K := K) (ev_var (i := 0) rfl) hv2) e2 (fun i σ' H' => ∃ z : Option V, σ' = [some v, some (.int (ts.length : Nat)), some (.ref p), z] ∧ Acc K H1 p pairO (ts.take i) H')
    (fun H3 e3 => ⟨none, rfl, (acc _ pairO).up e3⟩) (fun i σ' H' hP => ?_) (fun i a x σ' H' Hb hi hP eb hx => ?_) (fun σ' H' hP => ?_)
  · obtain ⟨z, _, A⟩ := hP
    exact A.ex
  · obtain ⟨z, rfl, A⟩ := hP
    have A2 := A.up eb
    refine ⟨_, gs_name, ?_⟩
    have hlen : (ts.take i).length < 100000 := by
      rw [List.length_take]
      omega
    cases a with
    | none =>
      have ex := dp_non hx
      subst ex
      have h2 := ev_notN (ev_var (σ := [some v, some (.int (ts.length : Nat)), some (.ref p), some .non]) (i := 3) (H := Hb) rfl)
      refine q_when (et_B h2) (fun z => by simp at z) fun _ H3 e3 => ?_
      exact s_acc (A2.up e3) no_pairO (ev_var (i := 2) rfl) (b := none) (ed_non (ev_var (i := 3) rfl)) hlen fun H4 A4 _ => ⟨_, rfl, by rw [take_snoc hi]; exact A4⟩
    | some pr =>
      obtain ⟨pv1, pv2, pv3⟩ := hp pr (List.mem_of_getElem? hi)
      have hxd : Dp K Hb x (.tuple [.int pr.1, .int pr.2]) := hx
      have h2 := ev_notN (ev_var (σ := [some v, some (.int (ts.length : Nat)), some (.ref p), some x]) (i := 3) (H := Hb) rfl)
      rw [decide_eq_false (fun z => by obtain ⟨_, _, ex, _⟩ := dp_tup hxd; rw [ex] at z; cases z)] at h2
      refine q_when (et_B h2) (fun _ H3 e3 => ?_) (fun z => by cases z)
      have hx3 := hxd.up e3
      have hvar : EvD K (tVar 3) [some v, some (.int (ts.length : Nat)), some (.ref p), some x] H3 (.tuple [.int pr.1, .int pr.2]) := ed_var (i := 3) rfl hx3
      have k1 := ev_eq (ev_lenT hvar) (ev_c (v := .int 2)) (show scal (.int _) (.int 2) = true from rfl)
      have k2 := ev_chain3Le (ev_c (v := .int 1)) (ev_int (ed_ixT hvar (ev_c (v := .int 0)) (atI_of (i := 0) rfl))) (ev_int (ed_ixT hvar (ev_c (v := .int 1)) (atI_of (i := 1) rfl))) (ev_c (v := .int 1000)) pv1 pv2 pv3
      refine q_req (ev_andV k1 fun _ => k2) fun H4 e4 => ?_
      refine s_asgD (K := K) (ed_tup2T (ed_var (i := 3) rfl (hx3.up e4))) fun w H5 e5 hw => ?_
      exact s_acc (((A2.up e3).up e4).up e5) no_pairO (ev_var (i := 2) rfl) (b := some pr) (ed_var (i := 3) rfl hw) hlen fun H6 A6 _ => ⟨_, rfl, by rw [take_snoc hi]; exact A6⟩
  · obtain ⟨z, rfl, A⟩ := hP
    rw [List.take_length] at A
    exact s_retD (ed_tup2 (ed_var (i := 2) rfl A.dp)) fun w H3 e3 hw => q _ _ ((e1.trans A.ex).trans e3) hw
theorem p_checked_link (T : LTx K C) : PureOk (R_checked_link K C) (t_checked_link K C) N_checked_link := by
  rintro vs H P Q ⟨l, k, ps, ws, lnk, rfl, hfp, hfw, hk, gn, m1, m2, ne, hl, hw4, hv, rfl⟩ q
  show t_checked_link K C (endQ Q) [some l, some k, none, none, none, none] H
  have h1 := ev_eq (ev_lenT (ed_var (σ := [some l, some k, none, none, none, none]) (i := 1) (H := H) rfl hk)) (ev_c (v := .int 4)) (show scal (.int _) (.int 4) = true from rfl)
  refine q_req h1 fun H1 e1 => ?_
  refine q_asgG (K := K) (ed_var (i := 1) rfl (hk.up e1)) fun v H2 e2 hv2 => ?_
  obtain ⟨v1, v2, v3, v4, d1, d2, d3, d4, hg⟩ := gs_four (σ := [some l, some k, none, none, none, none]) (i1 := 2) (i2 := 3) (i3 := 4) (i4 := 5) hv2
  refine ⟨_, hg, ?_⟩
  have x1 := dp_str d1
  have x2 := dp_str d2
  have x3 := dp_str d3
  subst x1 x2 x3
  have e12 := e1.trans e2
  show tSeq _ _ _ [some l, some k, some (.str lnk.name), some (.str lnk.one), some (.str lnk.other), some v4] H2
  refine q_req (ev_andT (ev_own (ea_cons (ev_var (i := 2) rfl) ea_nil) fun H3 e3 => ⟨_, rfl, gn, rfl⟩) (ev_meth (ev_var (i := 0) rfl) (hfp.up e12).o1 (ea_cons (ev_var (i := 3) rfl) (ea_cons (ev_var (i := 4) rfl) ea_nil)) fun H3 e3 => ⟨l, ps, _, _, rfl, (hfp.up e12).up e3, m1, m2, ne, rfl⟩)) fun H3 e3 => ?_
  have d4b := d4.up e3
  have hwl := ev_lenT (ed_fld T.cl T.nw (ev_var (σ := [some l, some k, some (.str lnk.name), some (.str lnk.one), some (.str lnk.other), some v4]) (i := 0) (H := H3) rfl) ((hfw.up e12).up e3))
  rw [List.length_map, ← hl] at hwl
  have ht : EvD K (tCall (spOf (R_checked_times K C)) [] E0 (tCons (tVar 5) (tCons (tCB (rLen2 K) (tCons (tFld K (tVar 0) "winds") tNil)) tNil))) [some l, some k, some (.str lnk.name), some (.str lnk.one), some (.str lnk.other), some v4] H3 (.tuple (lnk.times.map pairO)) :=
    EvP.toD (ep_own (ea_cons (ev_var (i := 5) rfl) (ea_cons hwl ea_nil)) fun H4 e4 => ⟨_, ⟨v4, lnk.times, rfl, d4b.up e4, by rw [hl]; omega, hv, rfl⟩, fun _ _ _ p => p⟩)
  exact s_retD (ed_tup (eda_cons (ed_str (ev_var (i := 2) rfl)) (eda_cons (ed_str (ev_var (i := 3) rfl)) (eda_cons (ed_str (ev_var (i := 4) rfl)) (eda_cons ht eda_nil)))) (by simp)) fun w H4 e4 hw => q _ _ ((e12.trans e3).trans e4) hw
theorem p_checked_path : PureOk (R_checked_path K C) (t_checked_path K C) N_checked_path := by
  rintro vs H P Q ⟨l, k, ps, h, rfl, hfp, hk, m1, m2, ne, b1, b2, rfl⟩ q
  show t_checked_path K C (endQ Q) [some l, some k, none, none, none] H
  have h1 := ev_eq (ev_lenT (ed_var (σ := [some l, some k, none, none, none]) (i := 1) (H := H) rfl hk)) (ev_c (v := .int 3)) (show scal (.int _) (.int 3) = true from rfl)
  refine q_req h1 fun H1 e1 => ?_
  refine q_asgG (K := K) (ed_var (i := 1) rfl (hk.up e1)) fun v H2 e2 hv2 => ?_
  obtain ⟨v1, v2, v3, d1, d2, d3, hg⟩ := gs_trip (g1 := gName 2) (g2 := gName 3) (g3 := gName 4) hv2
  refine ⟨_, hg gs_name gs_name gs_name, ?_⟩
  have x1 := dp_str d1
  have x2 := dp_str d2
  have x3 := dp_int d3
  subst x1 x2 x3
  have e12 := e1.trans e2
  show tSeq _ _ _ [some l, some k, some (.str h.1), some (.str h.2.1), some (.int h.2.2)] H2
  have k2 := ev_chainLe (ev_c (σ := [some l, some k, some (.str h.1), some (.str h.2.1), some (.int h.2.2)]) (H := H2) (v := .int 1)) (ev_var (i := 4) rfl) (ev_c (v := .int 1000))
  rw [decide_eq_true b1, decide_eq_true b2] at k2
  refine q_req (ev_andT (ev_meth (ev_var (i := 0) rfl) (hfp.up e12).o1 (ea_cons (ev_var (i := 2) rfl) (ea_cons (ev_var (i := 3) rfl) ea_nil)) fun H3 e3 => ⟨l, ps, _, _, rfl, (hfp.up e12).up e3, m1, m2, ne, rfl⟩) k2) fun H3 e3 => ?_
  exact s_retD (ed_tup (eda_cons (ed_str (ev_var (i := 2) rfl)) (eda_cons (ed_str (ev_var (i := 3) rfl)) (eda_cons (ed_int (ev_var (i := 4) rfl)) eda_nil))) (by simp)) fun w H4 e4 hw => q _ _ ((e12.trans e3).trans e4) hw
theorem p_link_names (T : LTx K C) : PureOk (R_link_names K C) (t_link_names K C) N_link_names := by
  rintro vs H P Q ⟨l, ls, rfl, hf, hl, rfl⟩ q
  show t_link_names K C (endQ Q) [some l, none] H
  refine s_retD (ed_tup2 (EvN.toD (en_map (eb := PyData.str) (ea := linkD) (ei_tup (ed_fld T.cl T.nl (ev_var (i := 0) rfl) hf)) Link.name no_str (by omega) fun a x Hb ha e hx => ⟨_, gs_name, rfl, ?_⟩))) fun w H1 e1 hw => q _ _ e1 hw
  exact ed_ixT (ed_var (d := linkD a) (i := 1) rfl hx) (ev_c (v := .int 0)) (atI_of (i := 0) rfl)
end
end Ef
/-! ==== EfM3 -/
set_option Elab.async false
set_option linter.all false
/-! Plain lemmas on weathers and least rows. -/
namespace Ef
open PySem L2 Evl
theorem atI_last {α : Type} {l : List α} {a : α} (h : l.getLast? = some a) : atI l (-1) = some a := by
  rw [List.getLast?_eq_getElem?] at h
  have hn : l.length - 1 < l.length := get_lt h
  unfold atI ixN
  rw [if_neg (by omega), if_pos (by omega)]
  show l[((-1 : Int) + (l.length : Nat)).toNat]? = some a
  have e : ((-1 : Int) + (l.length : Nat)).toNat = l.length - 1 := by omega
  rw [e]
  exact h
theorem asc_zip : ∀ {W : Wea}, Asc W → ∀ p ∈ (W.map (·.1)).zip ((W.map (·.1)).drop 1), p.1 < p.2
  | [], _, p, h => by cases h
  | [r], _, p, h => by cases h
  | r :: s :: W, ha, p, h => by
    rcases List.mem_cons.mp (show p ∈ (r.1, s.1) :: ((s :: W).map (·.1)).zip (((s :: W).map (·.1)).drop 1) from h) with z | z
    · rw [z]
      exact ha.1 s List.mem_cons_self
    · exact asc_zip ha.2 p z
def blowF (t : Int) (r : Int × Str) : Option Str := if r.1 ≤ t then some r.2 else none
theorem windM_last (t : Int) : ∀ (W : Wea) (d : Str), windM W t d = ((W.filterMap (blowF t)).getLast?).getD d
  | [], d => rfl
  | r :: W, d => by
    rw [windM_cons, windM_last t W, List.filterMap_cons]
    by_cases c : r.1 ≤ t
    · rw [if_pos c, show blowF t r = some r.2 from if_pos c]
      show _ = (r.2 :: W.filterMap (blowF t)).getLast?.getD d
      rw [List.getLast?_cons]
      rfl
    · rw [if_neg c, show blowF t r = none from if_neg c]
theorem blow_last {P : Parts} {W : Wea} (g : GoodW P W) {t : Int} (ht : 0 ≤ t) : (W.filterMap (blowF t)).getLast? = some (wind0 W t) := by
  obtain ⟨d, W', e⟩ := g.z
  have h1 := windM_last t W d
  have ne : W.filterMap (blowF t) ≠ [] := by
    rw [e, List.filterMap_cons]
    have e2 : blowF t (0, d) = some d := if_pos ht
    rw [e2]
    exact List.cons_ne_nil _ _
  have e3 : wind0 W t = windM W t d := by
    unfold wind0
    rw [e]
    rfl
  rw [e3, h1]
  cases q : (W.filterMap (blowF t)).getLast? with
  | none => exact absurd (List.getLast?_eq_none_iff.mp q) ne
  | some x => rfl
theorem wind_mem {P : Parts} {W : Wea} (g : GoodW P W) (t : Int) : wind0 W t ∈ P.winds := by
  obtain ⟨d, W', e⟩ := g.z
  have e3 : wind0 W t = windM W t d := by
    unfold wind0
    rw [e]
    rfl
  rw [e3]
  rcases windM_mem (W := W) (t := t) (d := d) with h | ⟨r, hr, h⟩
  · rw [h]
    exact g.wn (0, d) (by rw [e]; exact List.mem_cons_self)
  · rw [h]
    exact g.wn r hr
theorem chances_fm (W : Wea) (t : Int) : chancesM W t = t :: W.filterMap fun r => if t < r.1 then some r.1 else none := by
  unfold chancesM
  congr 1
  induction W with
  | nil => rfl
  | cons r W ih =>
    rw [List.filter_cons, List.filterMap_cons]
    by_cases c : t < r.1
    · rw [if_pos (decide_eq_true c), if_pos c, List.map_cons, ih]
    · rw [if_neg (by simpa using c), if_neg c, ih]
theorem chances_len (W : Wea) (t : Int) : (chancesM W t).length ≤ W.length + 1 := by
  rw [chances_fm, List.length_cons]
  exact Nat.succ_le_succ (List.length_filterMap_le _ _)
theorem least_nil : LeastOf [] (lk ([] : List (Str × Int))) := ⟨fun p m h => (by cases h), fun p m h => (by cases h)⟩
theorem least_step {B : Rws} {l : List (Str × Int)} (h : LeastOf B (lk l)) (r : Str × Int) : LeastOf (B ++ [r]) (lk (putL l r.1 (if (lk l r.1).getD r.2 < r.2 then (lk l r.1).getD r.2 else r.2))) := by
  have key : (lk l r.1 = none ∧ (if (lk l r.1).getD r.2 < r.2 then (lk l r.1).getD r.2 else r.2) = r.2) ∨ ∃ b, lk l r.1 = some b ∧ (if (lk l r.1).getD r.2 < r.2 then (lk l r.1).getD r.2 else r.2) = if b < r.2 then b else r.2 := by
    cases e : lk l r.1 with
    | none =>
      refine .inl ⟨rfl, ?_⟩
      show (if r.2 < r.2 then r.2 else r.2) = r.2
      split <;> rfl
    | some b => exact .inr ⟨b, rfl, rfl⟩
  generalize (if (lk l r.1).getD r.2 < r.2 then (lk l r.1).getD r.2 else r.2) = c at key
  refine ⟨fun p m e => ?_, fun p m hm => ?_⟩
  · rw [lk_put] at e
    by_cases q : p = r.1
    · rw [if_pos q] at e
      have e2 := Option.some.inj e
      subst e2
      rcases key with ⟨k1, k2⟩ | ⟨b, k1, k2⟩
      · rw [k2, q]
        exact List.mem_append.mpr (.inr List.mem_cons_self)
      · rw [k2]
        by_cases lt : b < r.2
        · rw [if_pos lt, q]
          exact List.mem_append.mpr (.inl (h.mem _ _ k1))
        · rw [if_neg lt, q]
          exact List.mem_append.mpr (.inr List.mem_cons_self)
    · rw [if_neg q] at e
      exact List.mem_append.mpr (.inl (h.mem _ _ e))
  · rw [lk_put]
    by_cases q : p = r.1
    · rw [if_pos q]
      refine ⟨c, rfl, ?_⟩
      rcases List.mem_append.mp hm with z | z
      · obtain ⟨b, h1, h2⟩ := h.le p m z
        rw [q] at h1
        rcases key with ⟨k1, k2⟩ | ⟨b2, k1, k2⟩
        · rw [h1] at k1; cases k1
        · rw [h1] at k1
          cases k1
          rw [k2]
          split <;> omega
      · have e3 : (p, m) = r := by simpa using z
        have e4 : m = r.2 := by rw [← e3]
        rcases key with ⟨k1, k2⟩ | ⟨b2, k1, k2⟩
        · rw [k2]; omega
        · rw [k2]
          split <;> omega
    · rw [if_neg q]
      rcases List.mem_append.mp hm with z | z
      · exact h.le p m z
      · have e3 : (p, m) = r := by simpa using z
        exact absurd (by rw [← e3]) q
end Ef
/-! ==== EfP2 -/
set_option Elab.async false
set_option linter.all false
set_option maxRecDepth 100000
set_option maxHeartbeats 4000000
/-! Names, differences, ways, weathers. -/
namespace Ef
open PySem L2 Evl
theorem dec_str (a b : Str) : decide (V.str a = V.str b) = decide (a = b) := decide_eq_decide.mpr ⟨fun h => V.str.inj h, fun h => by rw [h]⟩
theorem dec_int (a b : Int) : decide (V.int a = V.int b) = decide (a = b) := decide_eq_decide.mpr ⟨fun h => V.int.inj h, fun h => by rw [h]⟩
theorem cut_take {ds : List PyData} {i : Nat} (h : i ≤ ds.length) : cutD ds none (some (i : Int)) = ds.take i := by
  show (ds.drop 0).take (HT.sIx ds.length ds.length (some (i : Int)) - 0) = ds.take i
  rw [HT.sIx_nat, List.drop_zero, Nat.min_eq_left h]
  rfl
theorem cut_drop {ds : List PyData} {i : Nat} (h : i ≤ ds.length) : cutD ds (some (i : Int)) none = ds.drop i := by
  show (ds.drop (HT.sIx ds.length 0 (some (i : Int)))).take (ds.length - HT.sIx ds.length 0 (some (i : Int))) = ds.drop i
  rw [HT.sIx_nat, Nat.min_eq_left h]
  exact List.take_of_length_le (by rw [List.length_drop]; exact Nat.le_refl _)
theorem no_bool (b : Bool) : noL (.bool b) = true := rfl
section
variable {K : Frg} {σ : L2.St} {H : Hp} {ta tb : TE} {ds es : List PyData}
/-- a sum of two new lists -/
theorem en_cat (h1 : EvN K ta σ H ds) (h2 : EvN K tb σ H es) (hl : ds.length + es.length ≤ 100000) : EvN K (tOp rCat ta tb) σ H (ds ++ es) := fun H1 a Q q => h1 H1 a _ fun p xs H2 hp e2 hx hd => h2 H2 (a.trans e2) _ fun p2 ys H3 hp2 e3 hy he => by
  have hd3 := hd.up e3
  refine ⟨p, p2, xs, ys, rfl, rfl, e3 _ _ hx, hy, by rw [dps_len hd3, dps_len he]; exact sz_of hl, fun l hl => ?_⟩
  exact q l _ _ (fresh_back (e2.trans e3) hl) ((e2.trans e3).trans (Ex.new hl)) upd_same (dps_app (hd3.up (Ex.new hl)) (he.up (Ex.new hl)))
end
section
variable {K : Frg} {C : Addr}
theorem p_is_name : PureOk (R_is_name K C) (t_is_name K C) N_is_name := by
  rintro vs H P Q ⟨s, rfl, g, rfl⟩ q
  show t_is_name K C (endQ Q) [some (.str s), none] H
  obtain ⟨c, r, e0, nd⟩ := g.first
  have h2 := g.len2
  have h1 := g.len1
  have k1 := ev_chainLe (ev_c (σ := [some (.str s), none]) (H := H) (v := .int 1)) (ev_lenSt (ev_var (i := 0) rfl) (by omega)) (ev_c (v := .int 12))
  rw [decide_eq_true (show (1 : Int) ≤ (s.length : Nat) by omega), decide_eq_true (show ((s.length : Nat) : Int) ≤ 12 by omega)] at k1
  have k2 := ev_inSg (ev_ixS (ev_var (σ := [some (.str s), none]) (H := H) (i := 0) rfl) (ev_c (v := .int 0)) (by omega) (atI_of (i := 0) (by rw [e0]; rfl))) (ev_c (v := .str "0123456789"))
  rw [decide_eq_false (show ¬ c ∈ ("0123456789" : Str).cps.toList from nd)] at k2
  refine q_guard (et_orF (et_notF (et_test k1)) (et_test k2)) fun H1 e1 => ?_
  have hlen : s.cps.toList.length ≤ 50000 := by
    have z : s.cps.toList.length = s.length := by simp [Str.length]
    omega
  have k3 := ev_all (K := K) (EvN.toD (en_map (eb := PyData.bool) (ei_str (ev_var (σ := [some (.str s), none]) (H := H1) (i := 0) rfl)).it (fun c => decide (c ∈ nameCps)) no_bool (vs := [1]) (g := gName 1) (te := tOp rInSg (tVar 1) (tC (.str "abcdefghijklmnopqrstuvwxyz0123456789"))) hlen fun a x Hb ha e hx => ⟨_, gs_name, rfl, ed_bl (ev_inSg (ev_var (i := 1) (by rw [dp_str hx]; rfl)) ev_c)⟩))
  have k4 : (s.cps.toList.map fun c => decide (c ∈ nameCps)).all id = true := by
    rw [List.all_map]
    exact List.all_eq_true.mpr fun a ha => decide_eq_true (g.chars a ha)
  rw [k4] at k3
  exact s_ret k3 fun H2 e2 => q _ _ (e1.trans e2) rfl
/-- enumerate of a list or a tuple -/
theorem ei_enumX {σ : L2.St} {H : Hp} {ta : TE} {v : V} {α : Type} {ea : α → PyData} {as : List α} (hv : Ev ta σ H v) (hd : Dp K H v (.list (as.map ea)) ∨ Dp K H v (.tuple (as.map ea))) :
    EvIt0 K (iEnumX K (tCons ta tNil)) σ H (fun p : α × Nat => .tuple [.int p.2, ea p.1]) as.zipIdx := fun H1 a R q => by
  rcases hd with hd | hd
  · exact .inl (ei_enum0 hv hd H1 a R q)
  · exact .inr (ei_enumT0 hv hd H1 a R q)
theorem diff_loop {α : Type} {ea : α → PyData} {as : List α} {v : V} {H : Hp} {Q : VK} (hd : Dp K H v (.list (as.map ea)) ∨ Dp K H v (.tuple (as.map ea)))
    (hs : ∀ (i : Nat) a x H1, as[i]? = some a → Ex H H1 → Dp K H1 x (ea a) → Ev (tOp (rInX K) (tVar 2) (tSl (rSlX2 K) (tVar 0) tNoPart (tPart (tVar 1)))) [some v, some (.int (i : Nat)), some x] H1 (.bl false))
    (q : ∀ H', Ex H H' → Q (.bl true) H') : t_are_different K C (endQ Q) [some v, none, none] H := by
  refine q_for0 (K := K) (H0 := H) (ei_enumX (ev_var (i := 0) rfl) hd) (Ex.refl _) (fun i σ' H' => (∃ y z : Option V, σ' = [some v, y, z]) ∧ Ex H H') (fun H1 e1 => ⟨⟨none, none, rfl⟩, e1⟩) (fun i σ' H' p => p.2) (fun i a x σ' H' Hb hi hP eb hx => ?_) fun σ' H' hP => ?_
  · obtain ⟨⟨y, z, rfl⟩, e⟩ := hP
    obtain ⟨b, n⟩ := a
    have hi2 := List.getElem?_zipIdx (l := as) (i := 0) (j := i)
    rw [hi] at hi2
    cases eb2 : as[i]? with
    | none => rw [eb2] at hi2; cases hi2
    | some c =>
      rw [eb2] at hi2
      have e5 := Option.some.inj hi2
      obtain ⟨e6, e7⟩ := Prod.mk.inj e5
      have e8 : n = i := by simpa using e7
      subst e6
      subst e8
      obtain ⟨v1, v2, d1, d2, hg⟩ := gs_pair (g1 := gName 1) (g2 := gName 2) hx
      have x1 := dp_int d1
      subst x1
      refine ⟨_, hg gs_name gs_name, ?_⟩
      exact s_guard (et_test (hs n b v2 Hb eb2 (e.trans eb) d2)) fun H1 e1 => ⟨⟨_, _, rfl⟩, (e.trans eb).trans e1⟩
  · obtain ⟨⟨y, z, rfl⟩, e⟩ := hP
    exact s_ret ev_c fun H1 e1 => q H1 (e.trans e1)
theorem notin_take {α : Type} [DecidableEq α] {as : List α} (hn : as.Nodup) {i : Nat} {a : α} (h : as[i]? = some a) : a ∉ as.take i := fun hm => by
  obtain ⟨j, hj⟩ := List.mem_iff_getElem?.mp hm
  have hj2 := get_lt hj
  rw [List.length_take] at hj2
  rw [List.getElem?_take] at hj
  have hlt := get_lt h
  have jl : j < as.length := by omega
  rw [if_pos (by omega), List.getElem?_eq_getElem jl] at hj
  rw [List.getElem?_eq_getElem hlt] at h
  have e1 : as[j] = as[i] := (Option.some.inj hj).trans (Option.some.inj h).symm
  have e2 := (List.getElem_inj hn).mp e1
  omega
theorem cutV_take {xs : List V} {i : Nat} (h : i ≤ xs.length) : cutV xs none (some (i : Int)) = xs.take i := by
  show (xs.drop 0).take (HT.sIx xs.length xs.length (some (i : Int)) - 0) = xs.take i
  rw [HT.sIx_nat, List.drop_zero, Nat.min_eq_left h]
  rfl
section
variable {σ : L2.St} {H : Hp} {ta te : TE} {tl th : TO} {a : Str} {ss : List Str} {i : Nat}
theorem ev_inXS (ha : Ev ta σ H (.str a)) (hd : EvD K te σ H (strsD ss) ∨ EvD K te σ H (.tuple (ss.map .str))) (h1 : EvO tl σ H none) (h2 : EvO th σ H (some (i : Int))) (hi : i < ss.length) : Ev (tOp (rInX K) ta (tSl (rSlX2 K) te tl th)) σ H (.bl (decide (a ∈ ss.take i))) := fun H1 e Q q => ha H1 e _ fun H2 e2 => by
  have hc : cutV (ss.map V.str) none (some (i : Int)) = (ss.take i).map V.str := by
    rw [cutV_take (by rw [List.length_map]; omega), ← List.map_take]
  rcases hd with hd | hd
  · refine hd H2 (e.trans e2) _ fun v H3 e3 hv => h1 H3 ((e.trans e2).trans e3) _ fun H4 e4 => h2 H4 (((e.trans e2).trans e3).trans e4) _ fun H5 e5 => ?_
    obtain ⟨p, xs, rfl, hs, hx⟩ := dp_lst (hv.up (e4.trans e5))
    have ex := of_strs hx
    subst ex
    refine .inl ⟨p, _, rfl, hs, fun l hl => .inl ⟨l, _, rfl, .inl (sq_of upd_same), rfl, by rw [hc]; exact flat_str _, ?_⟩⟩
    show Q (.bl (inV (.str a) (cutV (ss.map V.str) none (some (i : Int))))) _
    rw [hc, inV_str]
    exact q _ ((((e2.trans e3).trans e4).trans e5).trans (Ex.new hl))
  · refine hd H2 (e.trans e2) _ fun v H3 e3 hv => h1 H3 ((e.trans e2).trans e3) _ fun H4 e4 => h2 H4 (((e.trans e2).trans e3).trans e4) _ fun H5 e5 => ?_
    obtain ⟨p, xs, rfl, hs, hx⟩ := dp_tup (hv.up (e4.trans e5))
    have ex := of_strs hx
    subst ex
    refine .inr ⟨p, _, rfl, hs, ?_, fun l hl => .inl ⟨l, _, rfl, .inr (st_of upd_same), rfl, by rw [hc]; exact flat_str _, ?_⟩⟩
    · rintro ⟨_, z⟩
      rw [HT.sIx_nat, List.length_map] at z
      omega
    · show Q (.bl (inV (.str a) (cutV (ss.map V.str) none (some (i : Int))))) _
      rw [hc, inV_str]
      exact q _ ((((e2.trans e3).trans e4).trans e5).trans (Ex.new hl))
theorem ev_inXP {b : Str × Str} {ps : List (Str × Str)} (ha : EvD K ta σ H (prD b)) (hd : EvD K te σ H (.list (ps.map prD))) (h1 : EvO tl σ H none) (h2 : EvO th σ H (some (i : Int))) (hi : i < ps.length) (hn : b ∉ ps.take i) : Ev (tOp (rInX K) ta (tSl (rSlX2 K) te tl th)) σ H (.bl false) := fun H1 e Q q => ha H1 e _ fun u H2 e2 hu => by
  refine hd H2 (e.trans e2) _ fun v H3 e3 hv => h1 H3 ((e.trans e2).trans e3) _ fun H4 e4 => h2 H4 (((e.trans e2).trans e3).trans e4) _ fun H5 e5 => ?_
  obtain ⟨p, xs, rfl, hs, hx⟩ := dp_lst (hv.up (e4.trans e5))
  refine .inl ⟨p, _, rfl, hs, fun l hl => .inr ⟨b, ps.take i, (hu.up ((e3.trans e4).trans e5)).up (Ex.new hl), .lst (sq_of upd_same) ?_, ?_⟩⟩
  · rw [cutV_take (by rw [dps_len hx, List.length_map]; omega)]
    have z := dps_take i (hx.up (Ex.new (o := .lst (xs.take i)) hl))
    rw [← List.map_take] at z
    exact z
  · simp only [hn, decide_false, if_neg (show ¬ (false = true) by simp)]
    exact q _ ((((e2.trans e3).trans e4).trans e5).trans (Ex.new hl))
end
theorem p_are_different : PureOk (R_are_different K C) (t_are_different K C) N_are_different := by
  rintro vs H P Q ⟨v, rfl, rfl, h⟩ q
  show t_are_different K C (endQ Q) [some v, none, none] H
  have q2 : ∀ H', Ex H H' → Q (.bl true) H' := fun H' e => q _ _ e rfl
  rcases h with ⟨ss, hn, hl, hd⟩ | ⟨ps, hn, hl, hd⟩
  · refine diff_loop (ea := PyData.str) (as := ss) hd (fun i a x H1 hi e hx => ?_) q2
    have ex := dp_str hx
    subst ex
    have z := ev_inXS (K := K) (σ := [some v, some (.int (i : Nat)), some (.str a)]) (H := H1) (te := tVar 0) (tl := tNoPart) (th := tPart (tVar 1)) (ss := ss) (ev_var (i := 2) rfl)
      (hd.imp (fun hd => ed_var (i := 0) rfl (hd.up e)) (fun hd => ed_var (i := 0) rfl (hd.up e))) eo_none (eo_some (ev_var (i := 1) rfl)) (get_lt hi)
    rw [decide_eq_false (notin_take hn hi)] at z
    exact z
  · refine diff_loop (ea := prD) (as := ps) (.inl hd) (fun i a x H1 hi e hx => ?_) q2
    have z := ev_inXP (K := K) (σ := [some v, some (.int (i : Nat)), some x]) (H := H1) (te := tVar 0) (tl := tNoPart) (th := tPart (tVar 1)) (ps := ps) (b := a) (ed_var (i := 2) rfl hx)
      (ed_var (i := 0) rfl (hd.up e)) eo_none (eo_some (ev_var (i := 1) rfl)) (get_lt hi) (notin_take hn hi)
    exact z
theorem no_walk (r : Str × Int) : noL (pairD r) = true := rfl
theorem p_walks_from (T : LTx K C) : PureOk (R_walks_from K C) (t_walks_from K C) N_walks_from := by
  rintro vs H P Q ⟨l, Pt, s, rfl, g, hl, hs, rfl⟩ q
  show t_walks_from K C (endQ Q) [some l, some (.str s), none, none, none, none] H
  refine q_drop (ev_meth (z := .non) (ev_var (i := 0) rfl) hl.p.o4 (ea_cons (ev_var (i := 1) rfl) ea_nil) fun H1 e1 => ⟨l, _, s, rfl, hl.p.up e1, hs, rfl⟩) fun H1 e1 => ?_
  refine q_acc0 (K := K) fun p H2 hp e2 acc => ?_
  obtain ⟨fv, hfv, hfd⟩ := fld_val T.cl T.nh (ev_var (σ := [some l, some (.str s), some (.ref p), none, none, none]) (i := 0) (H := H1) rfl) (hl.h.up e1)
  show tSeq _ _ _ [some l, some (.str s), some (.ref p), none, none, none] H2
  refine q_for0 (K := K) (ea := pathD) (as := Pt.paths) (H0 := H1) (ei_tup0 (K := K) hfv hfd) e2 (fun i σ' H' => ∃ z1 z2 z3 : Option V, σ' = [some l, some (.str s), some (.ref p), z1, z2, z3] ∧ Acc K H1 p pairD ((Pt.paths.take i).filterMap (walkOf s)) H')
    (fun H3 e3 => ⟨none, none, none, rfl, (acc _ pairD).up e3⟩) (fun i σ' H' hP => ?_) (fun i a x σ' H' Hb hi hP eb hx => ?_) (fun σ' H' hP => ?_)
  · obtain ⟨_, _, _, _, A⟩ := hP
    exact A.ex
  · obtain ⟨z1, z2, z3, rfl, A⟩ := hP
    have A2 := A.up eb
    obtain ⟨v1, v2, v3, d1, d2, d3, hg⟩ := gs_trip (g1 := gName 3) (g2 := gName 4) (g3 := gName 5) hx
    have x1 := dp_str d1
    have x2 := dp_str d2
    have x3 := dp_int d3
    subst x1 x2 x3
    refine ⟨_, hg gs_name gs_name gs_name, ?_⟩
    have hlen : ((Pt.paths.take i).filterMap (walkOf s)).length < 100000 := by
      have h1 := List.length_filterMap_le (walkOf s) (Pt.paths.take i)
      have h2 := g.h2
      rw [List.length_take] at h1
      omega
    show tIfS _ _ _ _ [some l, some (.str s), some (.ref p), some (.str a.1), some (.str a.2.1), some (.int a.2.2)] Hb
    have k1 := ev_eq (ev_var (σ := [some l, some (.str s), some (.ref p), some (.str a.1), some (.str a.2.1), some (.int a.2.2)]) (H := Hb) (i := 1) rfl) (ev_var (i := 3) rfl) (show scal (.str s) (.str a.1) = true from rfl)
    rw [dec_str] at k1
    refine s_if (et_test k1) (fun hc H3 e3 => ?_) (fun hc H3 e3 => ?_)
    · refine s_acc (A2.up e3) no_pair (ev_var (i := 2) rfl) (b := (a.2.1, a.2.2)) (ed_tup (eda_cons (ed_str (ev_var (i := 4) rfl)) (eda_cons (ed_int (ev_var (i := 5) rfl)) eda_nil)) (by simp)) hlen fun H4 A4 _ => ⟨_, _, _, rfl, ?_⟩
      rw [fm_take hi]
      have e5 : walkOf s a = some (a.2.1, a.2.2) := if_pos (of_decide_eq_true hc)
      rw [e5]
      exact A4
    · have k2 := ev_eq (ev_var (σ := [some l, some (.str s), some (.ref p), some (.str a.1), some (.str a.2.1), some (.int a.2.2)]) (H := H3) (i := 1) rfl) (ev_var (i := 4) rfl) (show scal (.str s) (.str a.2.1) = true from rfl)
      rw [dec_str] at k2
      refine s_when (et_test k2) (fun hc2 H4 e4 => ?_) (fun hc2 H4 e4 => ?_)
      · refine s_acc ((A2.up e3).up e4) no_pair (ev_var (i := 2) rfl) (b := (a.1, a.2.2)) (ed_tup (eda_cons (ed_str (ev_var (i := 3) rfl)) (eda_cons (ed_int (ev_var (i := 5) rfl)) eda_nil)) (by simp)) hlen fun H4 A4 _ => ⟨_, _, _, rfl, ?_⟩
        rw [fm_take hi]
        have e5 : walkOf s a = some (a.1, a.2.2) := (if_neg (of_decide_eq_false hc)).trans (if_pos (of_decide_eq_true hc2))
        rw [e5]
        exact A4
      · refine ⟨_, _, _, rfl, ?_⟩
        rw [fm_take hi]
        have e5 : walkOf s a = none := (if_neg (of_decide_eq_false hc)).trans (if_neg (of_decide_eq_false hc2))
        rw [e5]
        show Acc K H1 p pairD (_ ++ []) H4
        rw [List.append_nil]
        exact (A2.up e3).up e4
  · obtain ⟨z1, z2, z3, rfl, A⟩ := hP
    rw [List.take_length] at A
    exact s_retD (ed_var (i := 2) rfl A.dp) fun w H3 e3 hw => q _ _ ((e1.trans A.ex).trans e3) hw
/-- the first that meets -/
theorem find_drop {α : Type} {as : List α} {i : Nat} {a : α} {f : α → Bool} (h : as[i]? = some a) : (as.drop i).find? f = if f a = true then some a else (as.drop (i + 1)).find? f := by
  have hi := get_lt h
  rw [List.drop_eq_getElem_cons hi, List.find?_cons]
  rw [List.getElem?_eq_getElem hi] at h
  rw [Option.some.inj h]
  cases f a <;> rfl
theorem p_minutes_between : PureOk (R_minutes_between K C) (t_minutes_between K C) N_minutes_between := by
  rintro vs H P Q ⟨l, Pt, s, t, rfl, g, hl, hs, ht, rfl⟩ q
  show t_minutes_between K C (endQ Q) [some l, some (.str s), some (.str t), none, none] H
  refine q_drop (ev_meth (z := .non) (ev_var (i := 0) rfl) hl.p.o4 (ea_cons (ev_var (i := 1) rfl) ea_nil) fun H1 e1 => ⟨l, _, s, rfl, hl.p.up e1, hs, rfl⟩) fun H1 e1 => ?_
  refine q_drop (ev_meth (z := .non) (ev_var (i := 0) rfl) (hl.p.up e1).o4 (ea_cons (ev_var (i := 2) rfl) ea_nil) fun H2 e2 => ⟨l, _, t, rfl, (hl.p.up e1).up e2, ht, rfl⟩) fun H2 e2 => ?_
  have hl2 := hl.up (e1.trans e2)
  have hw : EvD K (tMeth C "walks_from" (spOf (R_walks_from K C)) [] E0 (tVar 0) (tCons (tVar 1) tNil)) [some l, some (.str s), some (.str t), none, none] H2 (.list ((walksM Pt.paths s).map pairD)) :=
    EvP.toD (ep_meth (ev_var (i := 0) rfl) hl2.p.o6 (ea_cons (ev_var (i := 1) rfl) ea_nil) fun H3 e3 => ⟨_, ⟨l, Pt, s, rfl, g, hl2.up e3, hs, rfl⟩, fun _ _ _ p => p⟩)
  refine q_forN (K := K) (ei_list hw) (fun H3 i σ' H' => (∃ z1 z2 : Option V, σ' = [some l, some (.str s), some (.str t), z1, z2]) ∧ Ex H3 H' ∧ Ex H2 H' ∧ ((walksM Pt.paths s).drop i).find? (fun w => decide (w.1 = t)) = (walksM Pt.paths s).find? (fun w => decide (w.1 = t)))
    (fun H3 e3 => ⟨⟨none, none, rfl⟩, Ex.refl _, e3, by rw [List.drop_zero]⟩) (fun H3 i σ' H' hP => hP.2.1) (fun H3 i a x σ' H' Hb hi hP eb hx => ?_) (fun H3 σ' H' hP => ?_)
  · obtain ⟨⟨z1, z2, rfl⟩, e3, e4, hf⟩ := hP
    obtain ⟨v1, v2, d1, d2, hg⟩ := gs_pair (g1 := gName 3) (g2 := gName 4) hx
    have x1 := dp_str d1
    have x2 := dp_int d2
    subst x1 x2
    refine ⟨_, hg gs_name gs_name, ?_⟩
    show tIfS _ _ _ _ [some l, some (.str s), some (.str t), some (.str a.1), some (.int a.2)] Hb
    have k1 := ev_eq (ev_var (σ := [some l, some (.str s), some (.str t), some (.str a.1), some (.int a.2)]) (H := Hb) (i := 3) rfl) (ev_var (i := 2) rfl) (show scal (.str a.1) (.str t) = true from rfl)
    rw [dec_str] at k1
    rw [find_drop hi] at hf
    refine s_when (et_test k1) (fun hc H4 e5 => ?_) (fun hc H4 e5 => ?_)
    · refine s_ret (ev_var (i := 4) rfl) fun H5 e6 => q _ _ ((((e1.trans e2).trans e4).trans eb).trans (e5.trans e6)) ?_
      rw [if_pos hc] at hf
      unfold lk
      rw [← hf]
      rfl
    · rw [hc, if_neg (by simp)] at hf
      exact ⟨⟨_, _, rfl⟩, (e3.trans eb).trans e5, (e4.trans eb).trans e5, hf⟩
  · obtain ⟨⟨z1, z2, rfl⟩, e3, e4, hf⟩ := hP
    rw [List.drop_length] at hf
    refine s_ret ev_c fun H5 e6 => q _ _ (((e1.trans e2).trans e4).trans e6) ?_
    unfold lk
    rw [← hf]
    rfl
end
end Ef
/-! ==== EfP3 -/
set_option Elab.async false
set_option linter.all false
set_option maxRecDepth 100000
set_option maxHeartbeats 4000000
/-! Weathers, rows, links' ends. -/
namespace Ef
open PySem L2 Evl
section
variable {K : Frg} {C : Addr}
theorem p_check_winds : PureOk (R_check_winds K C) (t_check_winds K C) N_check_winds := by
  rintro vs H P Q ⟨l, w, Pt, W, rfl, hl, hw, hm, rfl⟩ q
  show t_check_winds K C (endQ Q) [some l, some w, none, none] H
  refine s_for0 (K := K) (ea := wrowD) (as := W) (H0 := H) (ei_list0 (K := K) (ev_var (i := 1) rfl) hw) (Ex.refl _) (fun i σ' H' => (∃ z1 z2 : Option V, σ' = [some l, some w, z1, z2]) ∧ Ex H H') (fun H1 e1 => ⟨⟨none, none, rfl⟩, e1⟩) (fun i σ' H' p => p.2) (fun i a x σ' H' Hb hi hP eb hx => ?_) fun σ' H' hP => q _ _ hP.2 rfl
  obtain ⟨⟨z1, z2, rfl⟩, e⟩ := hP
  obtain ⟨v1, v2, d1, d2, hg⟩ := gs_pair (g1 := gName 2) (g2 := gName 3) hx
  have x2 := dp_str d2
  subst x2
  refine ⟨_, hg gs_name gs_name, ?_⟩
  exact s_drop (ev_meth (z := .non) (ev_var (i := 0) rfl) (hl.w.dd.up (e.trans eb)).o5 (ea_cons (ev_var (i := 3) rfl) ea_nil) fun H1 e1 => ⟨l, _, a.2, rfl, (hl.w.dd.up (e.trans eb)).up e1, hm a (List.mem_of_getElem? hi), rfl⟩) fun H1 e1 => ⟨⟨_, _, rfl⟩, (e.trans eb).trans e1⟩
theorem p_check_rows : PureOk (R_check_rows K C) (t_check_rows K C) N_check_rows := by
  rintro vs H P Q ⟨l, w, Pt, rs, rfl, hl, hw, hm, rfl⟩ q
  show t_check_rows K C (endQ Q) [some l, some w, none, none] H
  refine s_for0 (K := K) (ea := rowD) (as := rs) (H0 := H) (ei_list0 (K := K) (ev_var (i := 1) rfl) hw) (Ex.refl _) (fun i σ' H' => (∃ z1 z2 : Option V, σ' = [some l, some w, z1, z2]) ∧ Ex H H') (fun H1 e1 => ⟨⟨none, none, rfl⟩, e1⟩) (fun i σ' H' p => p.2) (fun i a x σ' H' Hb hi hP eb hx => ?_) fun σ' H' hP => q _ _ hP.2 rfl
  obtain ⟨⟨z1, z2, rfl⟩, e⟩ := hP
  obtain ⟨v1, v2, d1, d2, hg⟩ := gs_pair (g1 := gName 2) (g2 := gName 3) hx
  have x2 := dp_str d1
  subst x2
  refine ⟨_, hg gs_name gs_name, ?_⟩
  exact s_drop (ev_meth (z := .non) (ev_var (i := 0) rfl) (hl.p.up (e.trans eb)).o4 (ea_cons (ev_var (i := 2) rfl) ea_nil) fun H1 e1 => ⟨l, _, a.1, rfl, (hl.p.up (e.trans eb)).up e1, hm a (List.mem_of_getElem? hi), rfl⟩) fun H1 e1 => ⟨⟨_, _, rfl⟩, (e.trans eb).trans e1⟩
theorem p_check_asked : PureOk (R_check_asked K C) (t_check_asked K C) N_check_asked := by
  rintro vs H P Q ⟨l, w, s, b, r, Pt, W, S, B, rs, rfl, gw, gs, gb, gr, hl, hw, hs, hb, hr, rfl⟩ q
  show t_check_asked K C (endQ Q) [some l, some w, some s, some b, some r, none] H
  refine q_drop (ev_own (z := .non) (ea_cons (ev_var (i := 0) rfl) (ea_cons (ev_var (i := 1) rfl) ea_nil)) fun H1 e1 => ⟨l, w, Pt, W, rfl, hl.up e1, hw.up e1, gw.wn, rfl⟩) fun H1 e1 => ?_
  have ht : EvD K (tTup (tCons (tVar 2) (tCons (tVar 3) (tCons (tVar 4) tNil)))) [some l, some w, some s, some b, some r, none] H1 (.tuple ([S, B, rs].map rowsD)) :=
    ed_tup (eda_cons (ed_var (i := 2) rfl (hs.up e1)) (eda_cons (ed_var (i := 3) rfl (hb.up e1)) (eda_cons (ed_var (i := 4) rfl (hr.up e1)) eda_nil))) (by simp)
  have hall : ∀ a ∈ [S, B, rs], ∀ r ∈ a, r.1 ∈ Pt.places := fun a ha rr hrr => by
    simp only [List.mem_cons, List.mem_nil_iff, or_false] at ha
    rcases ha with rfl | rfl | rfl
    · exact gs.kn rr hrr
    · exact gb.kn rr hrr
    · exact gr rr hrr
  refine q_forN (K := K) (ei_tup ht) (fun H2 i σ' H' => (∃ z1 : Option V, σ' = [some l, some w, some s, some b, some r, z1]) ∧ Ex H2 H' ∧ Ex H H') (fun H2 e2 => ⟨⟨none, rfl⟩, Ex.refl _, e1.trans e2⟩) (fun H2 i σ' H' p => p.2.1) (fun H2 i a x σ' H' Hb hi hP eb hx => ?_) fun H2 σ' H' hP => ?_
  · obtain ⟨⟨z1, rfl⟩, e2, e⟩ := hP
    refine ⟨_, gs_name, ?_⟩
    have e3 := e.trans eb
    exact s_drop (ev_own (z := .non) (ea_cons (ev_var (i := 0) rfl) (ea_cons (ev_var (i := 5) rfl) ea_nil)) fun H3 e4 => ⟨l, x, Pt, a, rfl, (hl.up e3).up e4, hx.up e4, hall a (List.mem_of_getElem? hi), rfl⟩) fun H3 e4 => ⟨⟨_, rfl⟩, (e2.trans eb).trans e4, e3.trans e4⟩
  · obtain ⟨⟨z1, rfl⟩, e2, e⟩ := hP
    exact s_drop (ev_own (z := .non) (ea_cons (ev_var (i := 1) rfl) ea_nil) fun H3 e4 => ⟨w, Pt, W, rfl, gw, (hw.up e).up e4, rfl⟩) fun H3 e4 => q _ _ (e.trans e4) rfl
theorem ints_map (l : List Int) : (l.map PyData.int) = l.map (fun i => PyData.int i) := rfl
theorem p_check_changes : PureOk (R_check_changes K C) (t_check_changes K C) N_check_changes := by
  rintro vs H P Q ⟨w, Pt, W, rfl, g, hw, rfl⟩ q
  show t_check_changes K C (endQ Q) [some w, none, none, none, none] H
  have gl := g.len
  obtain ⟨d0, W', eW⟩ := g.z
  have hml : EvN K (tLc (iList K (tVar 0)) (gTup K 2 (gCons (gName 2) (gCons (gName 3) gNil))) tYes (tVar 2) [2, 3]) [some w, none, none, none, none] H ((W.map (·.1)).map .int) :=
    en_map (eb := PyData.int) (ea := wrowD) (ei_list (ed_var (i := 0) rfl hw)) (fun r => r.1) no_int (by omega) fun a x Hb ha e hx => by
      obtain ⟨v1, v2, d1, d2, hg⟩ := gs_pair (g1 := gName 2) (g2 := gName 3) hx
      exact ⟨_, hg gs_name gs_name, rfl, ed_var (i := 2) rfl d1⟩
  refine q_asgD (K := K) hml.toD fun m H1 e1 hm => ?_
  show tSeq _ _ _ [some w, some m, none, none, none] H1
  have hlen : ((W.map (·.1)).map PyData.int).length = W.length := by rw [List.length_map, List.length_map]
  have hW1 : 1 ≤ W.length := by
    rw [eW, List.length_cons]
    omega
  have k1 := ev_chainLe (ev_c (σ := [some w, some m, none, none, none]) (H := H1) (v := .int 1)) (ev_lenL (ed_var (i := 1) rfl hm)) (ev_c (v := .int 40))
  rw [hlen, decide_eq_true (show (1 : Int) ≤ (W.length : Nat) by omega), decide_eq_true (show ((W.length : Nat) : Int) ≤ 40 by omega)] at k1
  have k2 := ev_ne (ev_int (ed_ixL (ed_var (σ := [some w, some m, none, none, none]) (H := H1) (i := 1) rfl hm) (ev_c (v := .int 0)) (atI_of (i := 0) (by rw [eW]; rfl)))) (ev_c (v := .int 0)) (show scal (.int 0) (.int 0) = true from rfl)
  rw [decide_eq_true rfl] at k2
  have hlast : ∃ z, (W.map (·.1)).getLast? = some z ∧ z ≤ 100000 := by
    cases e : (W.map (·.1)).getLast? with
    | none =>
      have := List.getLast?_eq_none_iff.mp e
      rw [eW] at this
      cases this
    | some z =>
      obtain ⟨r, hr, e2⟩ := List.mem_map.mp (List.mem_of_getLast? e)
      exact ⟨z, rfl, by rw [← e2]; exact g.top r hr⟩
  obtain ⟨z, hz, hz2⟩ := hlast
  have k3 := ev_I (g := fun i j => .bl (decide (j < i))) (ev_int (ed_ixL (ed_var (σ := [some w, some m, none, none, none]) (H := H1) (i := 1) rfl hm) (ev_neg (ev_c (v := .int 1))) (atI_last (a := PyData.int z) (by rw [List.getLast?_map, hz]; rfl)))) (ev_c (v := .int 100000))
  rw [decide_eq_false (show ¬ (100000 : Int) < z by omega)] at k3
  refine q_guard (et_orF (et_notF (et_test k1)) (et_orF (et_testT k2 rfl) (et_test k3))) fun H2 e2 => ?_
  have hm2 := hm.up e2
  have hsl := en_slL (K := K) (tl := tPart (tC (.int 1))) (th := tNoPart) (ed_var (σ := [some w, some m, none, none, none]) (H := H2) (i := 1) rfl hm2) (eo_some (ev_c (v := .int 1))) eo_none
  have ecut := cut_drop (ds := (W.map (·.1)).map PyData.int) (i := 1) (by rw [hlen]; exact hW1)
  rw [show cutD ((W.map (·.1)).map PyData.int) (some 1) none = ((W.map (·.1)).drop 1).map PyData.int by rw [List.map_drop]; exact ecut] at hsl
  have k4 := ev_any (K := K) (EvN.toD (en_map (eb := PyData.bool) (ei_zip (ea := PyData.int) (eb := PyData.int) (as := W.map (·.1)) (ed_var (i := 1) rfl hm2) hsl.toD) (fun p => decide (p.2 ≤ p.1)) no_bool (vs := [2, 4]) (g := gTup K 2 (gCons (gName 2) (gCons (gName 4) gNil))) (te := tOp rLe (tVar 4) (tVar 2)) (by rw [List.length_zip, List.length_map]; omega) fun a x Hb ha e hx => by
    obtain ⟨v1, v2, d1, d2, hg⟩ := gs_pair (g1 := gName 2) (g2 := gName 4) hx
    have x1 := dp_int d1
    have x2 := dp_int d2
    subst x1 x2
    exact ⟨_, hg gs_name gs_name, rfl, ed_bl (ev_I (ev_var (i := 4) rfl) (ev_var (i := 2) rfl))⟩))
  have k5 : (((W.map (·.1)).zip ((W.map (·.1)).drop 1)).map fun p => decide (p.2 ≤ p.1)).any id = false := by
    rw [List.any_map]
    refine List.any_eq_false.mpr fun p hp => ?_
    have := asc_zip g.asc p hp
    show ¬ decide (p.2 ≤ p.1) = true
    rw [decide_eq_false (by omega)]
    simp
  rw [k5] at k4
  exact s_guard (et_B k4) fun H3 e3 => q _ _ ((e1.trans e2).trans e3) rfl
theorem p_blowing : PureOk (R_blowing K C) (t_blowing K C) N_blowing := by
  rintro vs H P Q ⟨w, Pt, W, t, rfl, g, ht, hw, rfl⟩ q
  show t_blowing K C (endQ Q) [some w, some (.int t), none, none] H
  have gl := g.len
  have h1 : EvN K (tLc (iList K (tVar 0)) (gTup K 2 (gCons (gName 2) (gCons (gName 3) gNil))) (tTest (tOp rLe (tVar 2) (tVar 1))) (tVar 3) [2, 3]) [some w, some (.int t), none, none] H ((W.filterMap (blowF t)).map .str) :=
    en_lc (eb := PyData.str) (ea := wrowD) (ei_list (ed_var (i := 0) rfl hw)) (blowF t) no_str (by omega) fun a x Hb ha e hx => by
      obtain ⟨v1, v2, d1, d2, hg⟩ := gs_pair (g1 := gName 2) (g2 := gName 3) hx
      have x1 := dp_int d1
      subst x1
      refine ⟨_, hg gs_name gs_name, rfl, decide (a.1 ≤ t), et_test (ev_I (ev_var (i := 2) rfl) (ev_var (i := 1) rfl)), fun hc => ⟨a.2, if_pos (of_decide_eq_true hc), ed_var (i := 3) rfl d2⟩, fun hc => if_neg (of_decide_eq_false hc)⟩
  exact s_ret (ev_str (ed_ixL h1.toD (ev_neg (ev_c (v := .int 1))) (atI_last (a := PyData.str (wind0 W t)) (by rw [List.getLast?_map, blow_last g ht]; rfl)))) fun H1 e1 => q _ _ e1 rfl
theorem p_chances : PureOk (R_chances K C) (t_chances K C) N_chances := by
  rintro vs H P Q ⟨w, Pt, W, t, rfl, g, hw, rfl⟩ q
  show t_chances K C (endQ Q) [some w, some (.int t), none, none] H
  have gl := g.len
  have h1 : EvN K (tLc (iList K (tVar 0)) (gTup K 2 (gCons (gName 2) (gCons (gName 3) gNil))) (tTest (tOp rGt (tVar 2) (tVar 1))) (tVar 2) [2, 3]) [some w, some (.int t), none, none] H ((W.filterMap fun r => if t < r.1 then some r.1 else none).map .int) :=
    en_lc (eb := PyData.int) (ea := wrowD) (ei_list (ed_var (i := 0) rfl hw)) _ no_int (by omega) fun a x Hb ha e hx => by
      obtain ⟨v1, v2, d1, d2, hg⟩ := gs_pair (g1 := gName 2) (g2 := gName 3) hx
      have x1 := dp_int d1
      subst x1
      refine ⟨_, hg gs_name gs_name, rfl, decide (t < a.1), et_test (ev_I (ev_var (i := 2) rfl) (ev_var (i := 1) rfl)), fun hc => ⟨a.1, if_pos (of_decide_eq_true hc), ed_var (i := 2) rfl d1⟩, fun hc => if_neg (of_decide_eq_false hc)⟩
  have h2 := en_cat (en_lst (K := K) (eda_cons (ed_int (ev_var (σ := [some w, some (.int t), none, none]) (H := H) (i := 1) rfl)) eda_nil) (by simp)) h1 (by
    have := List.length_filterMap_le (fun r : Int × Str => if t < r.1 then some r.1 else none) W
    simp only [List.length_cons, List.length_nil, List.length_map]
    omega)
  refine s_retN h2 fun p xs H1 hp e1 hx hd => q _ _ e1 ⟨p, xs, rfl, hp, hx, ?_⟩
  rw [chances_fm]
  exact hd
theorem p_least_numbers (T : LTx K C) : PureOk (R_least_numbers K C) (t_least_numbers K C) N_least_numbers := by
  rintro vs H P Q ⟨l, Pt, rfl, g, hl, rfl⟩ q
  show t_least_numbers K C (endQ Q) [some l, none, none] H
  have gl := g.l2
  have h1 : EvN K (tLc (iTup K (tFld K (tVar 0) "links")) (gName 1) tYes (tCB (rTupOf2 K) (tCons (tLc (iTup K (tOp (rIxT K) (tVar 1) (tC (.int 3)))) (gName 2) tYes (tIf (tB (tIsN (tVar 2))) (tC .non) (tOp (rIxT K) (tVar 2) (tC (.int 0)))) [2]) tNil)) [1]) [some l, none, none] H ((Pt.links.map leastRow).map fun r => PyData.tuple (r.map numO)) :=
    en_map (eb := fun r => PyData.tuple (r.map numO)) (ea := linkD) (ei_tup (ed_fld T.cl T.nl (ev_var (i := 0) rfl) hl.l)) leastRow (fun r => show noL (PyData.tuple (r.map numO)) = true from noLs_map no_numO r) (by omega) fun a x Hb ha e hx => ⟨_, gs_name, rfl, by
      have ht : EvD K (tOp (rIxT K) (tVar 1) (tC (.int 3))) (([some l, none, none] : L2.St).set 1 (some x)) Hb (.tuple (a.times.map pairO)) := ed_ixT (ed_var (d := linkD a) (i := 1) rfl hx) (ev_c (v := .int 3)) (atI_of (i := 3) rfl)
      refine ed_tup2 (EvN.toD (en_map (eb := numO) (ea := pairO) (ei_tup ht) (Option.map (·.1)) no_numO (by have := g.lt a ha; have := g.w2; omega) fun b y Hc hb ec hy => ⟨_, gs_name, rfl, ?_⟩))
      cases b with
      | none =>
        have ey := dp_non hy
        subst ey
        exact ed_if (b := true) (et_BT (ev_isN (ev_var (i := 2) rfl)) (by simp)) (fun _ => ed_non ev_c) (fun z => by cases z)
      | some pr =>
        have hyd : Dp K Hc y (.tuple [.int pr.1, .int pr.2]) := hy
        refine ed_if (b := false) (et_BT (ev_isN (ev_var (v := y) (i := 2) rfl)) ?_) (fun z => by cases z) (fun _ => ed_ixT (ed_var (i := 2) rfl hyd) (ev_c (v := .int 0)) (atI_of (i := 0) rfl))
        exact decide_eq_false fun z => by obtain ⟨_, _, ex, _⟩ := dp_tup hyd; rw [ex] at z; cases z⟩
  refine s_retD (ed_tup2 h1.toD) fun v H1 e1 hv => q _ _ e1 ?_
  show Dp K H1 v (numsD Pt)
  unfold numsD
  rw [List.map_map] at hv
  exact hv
/-- a dict of minutes, new since H0 -/
structure DAcc (H0 : Hp) (p : Addr) (l : List (Str × Int)) (H : Hp) : Prop where
  new : H0 p = none
  ex : Ex H0 H
  at_ : H p = some (.dK (dk l))
theorem DAcc.up {H0 H H' : Hp} {p : Addr} {l : List (Str × Int)} (A : DAcc H0 p l H) (e : Ex H H') : DAcc H0 p l H' := ⟨A.new, A.ex.trans e, e _ _ A.at_⟩
theorem DAcc.upd {H0 H H' : Hp} {p : Addr} {l l' : List (Str × Int)} (A : DAcc H0 p l H) (e : Ex H H') : DAcc H0 p l' (upd H' p (.dK (dk l'))) := ⟨A.new, Ex.mut (A.ex.trans e) A.new, upd_same⟩
theorem p_least_minutes : PureOk (R_least_minutes K C) (t_least_minutes K C) N_least_minutes := by
  rintro vs H P Q ⟨r, rs, rfl, hr, hl, rfl⟩ q
  show t_least_minutes K C (endQ Q) [some r, none, none, none] H
  refine q_dnew fun p hp => ?_
  show tSeq _ _ _ [some r, some (.ref p), none, none] _
  refine q_for0 (K := K) (ea := rowD) (as := rs) (H0 := H) (ei_list0 (K := K) (ev_var (i := 0) rfl) hr) (Ex.new hp) (fun i σ' H' => ∃ (z1 z2 : Option V) (l : List (Str × Int)), σ' = [some r, some (.ref p), z1, z2] ∧ DAcc H p l H' ∧ (l.map (·.1)).Nodup ∧ LeastOf (rs.take i) (lk l) ∧ l.length ≤ i)
    (fun H1 e1 => ⟨none, none, [], rfl, ⟨hp, (Ex.new hp).trans e1, e1 _ _ upd_same⟩, List.nodup_nil, by rw [List.take_zero]; exact least_nil, Nat.le_refl _⟩) (fun i σ' H' hP => by obtain ⟨_, _, _, _, A, _⟩ := hP; exact A.ex) (fun i a x σ' H' Hb hi hP eb hx => ?_) fun σ' H' hP => ?_
  · obtain ⟨z1, z2, l, rfl, A, hn, hle, hlen⟩ := hP
    have A2 := A.up eb
    obtain ⟨v1, v2, d1, d2, hg⟩ := gs_pair (g1 := gName 2) (g2 := gName 3) hx
    have x1 := dp_str d1
    have x2 := dp_int d2
    subst x1 x2
    refine ⟨_, hg gs_name gs_name, ?_⟩
    have hi2 := get_lt hi
    refine s_dputI (l := l) (p := a.1) (ev_min2 (ev_var (i := 3) rfl) (ev_dget2I (ev_var (i := 1) rfl) (ev_var (i := 2) rfl) (ev_var (i := 3) rfl) A2.at_)) (ev_var (i := 1) rfl) (ev_var (i := 2) rfl) A2.at_ (by omega) fun H1 e1 => ⟨_, _, _, rfl, A2.upd e1, nd_put hn _ _, ?_, ?_⟩
    · rw [take_snoc hi]
      exact least_step hle a
    · exact Nat.le_trans (len_put _ _ _) (Nat.succ_le_succ hlen)
  · obtain ⟨z1, z2, l, rfl, A, hn, hle, hlen⟩ := hP
    rw [List.take_length] at hle
    exact s_ret (ev_var (i := 1) rfl) fun H1 e1 => q _ _ (A.ex.trans e1) ⟨p, l, rfl, A.new, e1 _ _ A.at_, hn, hle, hlen⟩
theorem optV_num (o : Option Int) {H : Hp} {v : V} (h : Dp K H v (numO o)) : v = optV o := by
  cases o with
  | none => exact dp_non h
  | some i => exact dp_int h
theorem p_caught (T : LTx K C) : PureOk (R_caught K C) (t_caught K C) N_caught := by
  rintro vs H P Q ⟨l, w, r, Pt, W, row, t, rfl, g, gw, hl, hw, hr, hrl, ht, rfl⟩ q
  show t_caught K C (endQ Q) [some l, some w, some r, some (.int t), none, none, none] H
  refine q_acc0 (K := K) fun p H1 hp e1 acc => ?_
  show tSeq _ _ _ [some l, some w, some r, some (.int t), some (.ref p), none, none] H1
  have hch : EvP (tCall (spOf (R_chances K C)) [] E0 (tCons (tVar 1) (tCons (tVar 3) tNil))) [some l, some w, some r, some (.int t), some (.ref p), none, none] H1 (fun v H' => NewL K H1 H' v ((chancesM W t).map .int)) :=
    ep_own (ea_cons (ev_var (i := 1) rfl) (ea_cons (ev_var (i := 3) rfl) ea_nil)) fun H2 e2 => ⟨_, ⟨w, Pt, W, t, rfl, gw, (hw.up e1).up e2, rfl⟩, fun v H3 _ h => by
      obtain ⟨a, xs, h1, h2, h3, h4⟩ := h
      exact ⟨a, xs, h1, fresh_back e2 h2, h3, h4⟩⟩
  refine q_forM (K := K) (ea := PyData.int) (as := chancesM W t) hch no_int fun v H2 e2 hv => ?_
  obtain ⟨a, xs, rfl, ha, hax, had⟩ := hv
  have A0 := (acc _ PyData.int).up e2
  have nap : a ≠ p := fun z => by
    obtain ⟨ys, hy, _⟩ := (acc _ PyData.int).at_
    rw [z, hy] at ha
    cases ha
  refine ⟨a, xs, rfl, sq_of hax, had, fun i σ' H' => ∃ z1 z2 : Option V, σ' = [some l, some w, some r, some (.int t), some (.ref p), z1, z2] ∧ Acc K H p .int (((chancesM W t).take i).filterMap fun s => (numAt Pt.winds W row s).map (s + ·)) H' ∧ SqL K H' a xs ∧ KeepT H2 H',
    ⟨none, none, rfl, A0, sq_of hax, KeepT.refl _⟩, (fun i σ' H' hP => by obtain ⟨_, _, _, _, h1, h2⟩ := hP; exact ⟨h1, h2⟩), (fun i s x σ' H' Hb hi hP eb hx => ?_), (fun σ' H' hP => ?_)⟩
  · obtain ⟨z1, z2, rfl, A, hs, hk⟩ := hP
    have ex := dp_int hx
    subst ex
    refine ⟨_, gs_name, ?_⟩
    show tSeq _ _ _ [some l, some w, some r, some (.int t), some (.ref p), some (.int s), z2] Hb
    have A2 := A.up eb
    have hst : 0 ≤ s := Int.le_trans ht (chances_ge (List.mem_of_getElem? hi))
    have hlb := hl.up A2.ex
    obtain ⟨a0, dx, fs, fv, rfl, f2, f3, f4, f5, f6⟩ := hlb.w
    have hwv : EvP (tFld K (tVar 0) "winds") [some (.ref a0), some w, some r, some (.int t), some (.ref p), some (.int s), z2] Hb (fun v H' => Dp K H' v (.tuple (Pt.winds.map .str)) ∧ NoDk H' v) := fun H3 e3 Q3 q3 =>
      ev_fld (ev_var (i := 0) rfl) f2 T.cl T.nw f4 H3 e3 Q3 fun H4 e4 => q3 _ _ e4 ⟨f5.up (e3.trans e4), f6.up (e3.trans e4)⟩
    have hbl : Ev (tCall (spOf (R_blowing K C)) [] E0 (tCons (tVar 1) (tCons (tVar 5) tNil))) [some (.ref a0), some w, some r, some (.int t), some (.ref p), some (.int s), z2] Hb (.str (wind0 W s)) :=
      ev_own (ea_cons (ev_var (i := 1) rfl) (ea_cons (ev_var (i := 5) rfl) ea_nil)) fun H3 e3 => ⟨w, Pt, W, s, rfl, gw, hst, (hw.up A2.ex).up e3, rfl⟩
    have hix := ev_tix hwv hbl (wind_mem gw s)
    have hlt : Pt.winds.idxOf (wind0 W s) < row.length := by
      rw [hrl]
      exact List.idxOf_lt_length_of_mem (wind_mem gw s)
    have hnum : numAt Pt.winds W row s = row[Pt.winds.idxOf (wind0 W s)] := by
      unfold numAt
      rw [List.getElem?_eq_getElem hlt]
      rfl
    have hnv := ed_ixT (ed_var (σ := [some (.ref a0), some w, some r, some (.int t), some (.ref p), some (.int s), z2]) (i := 2) rfl (hr.up A2.ex)) hix (atI_of (v := numO (numAt Pt.winds W row s)) (by rw [List.getElem?_map, List.getElem?_eq_getElem hlt, hnum]; rfl))
    refine q_asgD hnv fun v H3 e3 hv => ?_
    have ev := optV_num _ hv
    subst ev
    show tIfS _ _ _ _ [some (.ref a0), some w, some r, some (.int t), some (.ref p), some (.int s), some (optV (numAt Pt.winds W row s))] H3
    have keep : ∀ H4, ExB p Hb H4 → KeepT H2 H4 ∧ SqL K H4 a xs := fun H4 b => ⟨(hk.trans (KeepT.of eb)).trans (b.keepT A2.noT), b.sql nap (ex_l eb hs)⟩
    have hlen : (((chancesM W t).take i).filterMap fun s => (numAt Pt.winds W row s).map (s + ·)).length < 100000 := by
      have h1 := List.length_filterMap_le (fun s => (numAt Pt.winds W row s).map (s + ·)) ((chancesM W t).take i)
      have h2 := chances_len W t
      have h3 := gw.len
      rw [List.length_take] at h1
      omega
    cases en : numAt Pt.winds W row s with
    | none =>
      refine s_when (b := false) (et_BT (ev_notN (ev_var (v := .non) (i := 6) rfl)) rfl) (fun z => by cases z) fun _ H4 e4 => ?_
      have kk := keep H4 (ExB.of (e3.trans e4))
      refine ⟨_, _, rfl, ?_, kk.2, kk.1⟩
      rw [fm_take hi, en]
      show Acc K H p .int (_ ++ []) H4
      rw [List.append_nil]
      exact (A2.up e3).up e4
    | some n =>
      refine s_when (b := true) (et_BT (ev_notN (ev_var (v := .int n) (i := 6) rfl)) (by simp)) (fun _ H4 e4 => ?_) (fun z => by cases z)
      refine s_acc ((A2.up e3).up e4) no_int (ev_var (i := 4) rfl) (b := s + n) (ed_int (ev_I (ev_var (i := 5) rfl) (ev_var (i := 6) rfl))) hlen fun H5 A5 b5 => ?_
      have kk := keep H5 ((ExB.of (e3.trans e4)).trans b5)
      refine ⟨_, _, rfl, ?_, kk.2, kk.1⟩
      rw [fm_take hi, en]
      exact A5
  · obtain ⟨z1, z2, rfl, A, hs, hk⟩ := hP
    rw [List.take_length] at A
    exact s_ret (ev_minDf (ns := endsM Pt.winds W row t) (ed_var (i := 4) rfl A.dp) ev_c) fun H3 e3 => q _ _ (A.ex.trans e3) rfl
end
end Ef
/-! ==== EfM4 -/
set_option Elab.async false
set_option linter.all false
/-! The search's steps over lists. -/
namespace Ef
open PySem L2 Evl
theorem nodup_sub_len {α : Type} [DecidableEq α] : ∀ {l m : List α}, l.Nodup → (∀ a ∈ l, a ∈ m) → l.length ≤ m.length
  | [], _, _, _ => Nat.zero_le _
  | a :: l, m, hn, hs => by
    rw [List.nodup_cons] at hn
    have ha : a ∈ m := hs a List.mem_cons_self
    have h1 : l.length ≤ (m.erase a).length := nodup_sub_len hn.2 fun b hb => (List.mem_erase_of_ne (fun e => hn.1 (by rw [← e]; exact hb))).mpr (hs b (List.mem_cons_of_mem _ hb))
    rw [List.length_erase_of_mem ha] at h1
    have h2 : 0 < m.length := List.length_pos_of_mem ha
    rw [List.length_cons]
    omega
theorem len_put_new {β : Type} {l : List (Str × β)} {p : Str} {b : β} (h : lk l p = none) : (putL l p b).length = l.length + 1 := by
  unfold putL
  rw [lk_any, h, if_neg (by simp), List.length_append]
  rfl
/-- keys known, each once -/
structure KOk {β : Type} (places : List Str) (l : List (Str × β)) : Prop where
  nd : (l.map (·.1)).Nodup
  kn : ∀ q ∈ l, q.1 ∈ places
theorem KOk.len {β : Type} {places : List Str} {l : List (Str × β)} (h : KOk places l) : l.length ≤ places.length := by
  have := nodup_sub_len h.nd (m := places) fun a ha => by
    obtain ⟨q, hq, e⟩ := List.mem_map.mp ha
    rw [← e]
    exact h.kn q hq
  rw [List.length_map] at this
  exact this
theorem KOk.nil {β : Type} (places : List Str) : KOk places ([] : List (Str × β)) := ⟨List.nodup_nil, fun q h => by cases h⟩
theorem KOk.put {β : Type} {places : List Str} {l : List (Str × β)} (h : KOk places l) {p : Str} (hp : p ∈ places) (b : β) : KOk places (putL l p b) := ⟨nd_put h.nd p b, fun q hq => by
  unfold putL at hq
  split at hq
  · obtain ⟨a, ha, e⟩ := List.mem_map.mp hq
    by_cases c : a.1 = p
    · rw [if_pos c] at e
      rw [← e]
      exact h.kn a ha
    · rw [if_neg c] at e
      rw [← e]
      exact h.kn a ha
  · rcases List.mem_append.mp hq with z | z
    · exact h.kn q z
    · have e : q = (p, b) := by simpa using z
      rw [e]
      exact hp⟩
theorem KOk.drop {β : Type} {places : List Str} {l : List (Str × β)} (h : KOk places l) (p : Str) : KOk places (dropL l p) := ⟨nd_drop h.nd p, fun q hq => h.kn q (List.mem_filter.mp hq).1⟩
/-- ahead of the least breaks -/
def aheadB (bl : List (Str × Int)) (q : Str) (e : Int) : Bool := match lk bl q with
  | none => true
  | some b => decide (e < b)
theorem aheadB_iff {bl : List (Str × Int)} {q : Str} {e : Int} : aheadB bl q e = true ↔ ∀ b, lk bl q = some b → e < b := by
  unfold aheadB
  cases h : lk bl q with
  | none => exact ⟨fun _ b z => (by cases z), fun _ => rfl⟩
  | some b => exact ⟨fun z c hc => (by cases hc; exact of_decide_eq_true z), fun z => decide_eq_true (z b rfl)⟩
/-- the starts that are taken -/
structure TakenS (bl sl wl : List (Str × Int)) : Prop where
  a : ∀ p m, lk wl p = some m → (p, m) ∈ sl ∧ aheadB bl p m = true
  b : ∀ p m, (p, m) ∈ sl → aheadB bl p m = true → lk wl p = some m
theorem TakenS.nil (bl : List (Str × Int)) : TakenS bl [] [] := ⟨fun p m h => (by cases h), fun p m h => (by cases h)⟩
theorem TakenS.yes {bl sl wl : List (Str × Int)} (h : TakenS bl sl wl) {r : Str × Int} (hr : ∀ m, (r.1, m) ∉ sl) (c : aheadB bl r.1 r.2 = true) : TakenS bl (sl ++ [r]) (putL wl r.1 r.2) := by
  refine ⟨fun p m e => ?_, fun p m e z => ?_⟩
  · rw [lk_put] at e
    by_cases q : p = r.1
    · rw [if_pos q] at e
      have e2 := Option.some.inj e
      rw [q, ← e2]
      exact ⟨List.mem_append.mpr (.inr List.mem_cons_self), c⟩
    · rw [if_neg q] at e
      obtain ⟨h1, h2⟩ := h.a p m e
      exact ⟨List.mem_append.mpr (.inl h1), h2⟩
  · rw [lk_put]
    rcases List.mem_append.mp e with e | e
    · have ne : ¬ p = r.1 := fun z => hr m (by rw [← z]; exact e)
      rw [if_neg ne]
      exact h.b p m e z
    · have e2 : (p, m) = r := by simpa using e
      rw [← e2, if_pos rfl]
theorem TakenS.no {bl sl wl : List (Str × Int)} (h : TakenS bl sl wl) {r : Str × Int} (c : aheadB bl r.1 r.2 = false) : TakenS bl (sl ++ [r]) wl := by
  refine ⟨fun p m e => ?_, fun p m e z => ?_⟩
  · obtain ⟨h1, h2⟩ := h.a p m e
    exact ⟨List.mem_append.mpr (.inl h1), h2⟩
  · rcases List.mem_append.mp e with e | e
    · exact h.b p m e z
    · have e2 : (p, m) = r := by simpa using e
      rw [← e2] at c
      rw [z] at c
      cases c
theorem nodup_take {sl : List (Str × Int)} (hn : (sl.map (·.1)).Nodup) {i : Nat} {r : Str × Int} (h : sl[i]? = some r) : ∀ m, (r.1, m) ∉ sl.take i := fun m hm => by
  obtain ⟨j, hj⟩ := List.mem_iff_getElem?.mp hm
  have hj2 := get_lt hj
  rw [List.length_take] at hj2
  rw [List.getElem?_take, if_pos (by omega)] at hj
  have e1 : (sl.map (·.1))[i]? = some r.1 := by rw [List.getElem?_map, h]; rfl
  have e2 : (sl.map (·.1))[j]? = some r.1 := by rw [List.getElem?_map, hj]; rfl
  have l1 := get_lt e1
  have l2 := get_lt e2
  rw [List.getElem?_eq_getElem l1] at e1
  rw [List.getElem?_eq_getElem l2] at e2
  have e3 := (List.getElem_inj hn).mp ((Option.some.inj e2).trans (Option.some.inj e1).symm)
  omega
section
variable {P : Parts} {W : Wea} {S B : Rws}
abbrev SDI (P : Parts) (W : Wea) (S B : Rws) := DI (FSt S B) (FNx P.winds P.links W B)
theorem sdi_init {bl sl wl : List (Str × Int)} (hb : LeastOf B (lk bl)) (hs : LeastOf S (lk sl)) (hn : (sl.map (·.1)).Nodup) (h : TakenS bl sl wl) : SDI P W S B (fun _ _ _ _ => False) (lk []) (lk wl) none := by
  refine DI.init (fun p m e => ?_) (fun p m hS => ?_)
  · obtain ⟨h1, h2⟩ := h.a p m e
    exact ⟨hs.mem p m (lk_of_mem hn h1), (hb.ahead p m).mpr (aheadB_iff.mp h2)⟩
  · obtain ⟨m', h1, h2⟩ := hs.le p m hS.1
    have h3 := hS.2.mono h2
    exact ⟨m', h.b p m' (lk_mem h1) (aheadB_iff.mpr ((hb.ahead p m').mp h3)), h2⟩
/-- the steps by the links from the i-th on -/
def PdL (P : Parts) (W : Wea) (B : Rws) (p : Str) (m : Int) (i : Nat) : Str → Int → Str → Int → Prop := fun p' m' q e => (p' = p ∧ m' = m) ∧ ∃ l ∈ P.links.drop i, l.one = p ∧ l.other = q ∧ caughtM P.winds W (leastRow l) m = some e ∧ Ahead B q e
theorem pdl_start {f w : Str → Option Int} {p : Str} {m : Int} {a : Option Int} (h : SDI P W S B (fun p' m' _ _ => p' = p ∧ m' = m) f w a) : SDI P W S B (PdL P W B p m 0) f w a :=
  h.less fun p' m' q e _ nx pd => .inl ⟨pd, by
    obtain ⟨l, h1, h2, h3, h4, h5⟩ := nx
    obtain ⟨rfl, rfl⟩ := pd
    exact ⟨l, by rw [List.drop_zero]; exact h1, h2, h3, h4, h5⟩⟩
theorem pdl_end {f w : Str → Option Int} {p : Str} {m : Int} {a : Option Int} (h : SDI P W S B (PdL P W B p m P.links.length) f w a) : SDI P W S B (fun _ _ _ _ => False) f w a :=
  h.less fun p' m' q e _ nx pd => by
    obtain ⟨_, l, h1, _⟩ := pd
    rw [List.drop_length] at h1
    cases h1
theorem drop_cases {α : Type} {as : List α} {i : Nat} {a b : α} (hi : as[i]? = some a) (h : b ∈ as.drop i) : b = a ∨ b ∈ as.drop (i + 1) := by
  have hl := get_lt hi
  rw [List.drop_eq_getElem_cons hl] at h
  rw [List.getElem?_eq_getElem hl] at hi
  rw [Option.some.inj hi] at h
  exact List.mem_cons.mp h
theorem pdl_skip {f w : Str → Option Int} {p : Str} {m : Int} {i : Nat} {a : Option Int} {l : Link} (h : SDI P W S B (PdL P W B p m i) f w a) (hi : P.links[i]? = some l)
    (sk : ∀ e, l.one = p → caughtM P.winds W (leastRow l) m = some e → Ahead B l.other e → ∃ m', (f l.other = some m' ∨ w l.other = some m') ∧ m' ≤ e) : SDI P W S B (PdL P W B p m (i + 1)) f w a :=
  h.less fun p' m' q e _ nx pd => by
    obtain ⟨pe, k, h1, h2, h3, h4, h5⟩ := pd
    rcases drop_cases hi h1 with z | z
    · subst z
      subst h3
      exact .inr (sk e h2 h4 h5)
    · exact .inl ⟨pe, k, z, h2, h3, h4, h5⟩
theorem setF_same {w : Str → Option Int} {q : Str} {n : Int} (h : w q = some n) : setF w q n = w := funext fun r => by
  show (if r = q then some n else w r) = w r
  by_cases c : r = q
  · rw [if_pos c, c, h]
  · rw [if_neg c]
theorem setF_at {w : Str → Option Int} {q : Str} {n : Int} : setF w q n q = some n := if_pos rfl
theorem pdl_put {f w : Str → Option Int} {p : Str} {m e : Int} {i : Nat} {l : Link} (h : SDI P W S B (PdL P W B p m i) f w (some m)) (hi : P.links[i]? = some l) (hp : f p = some m) (h1 : l.one = p) (hf : f l.other = none)
    (hc : caughtM P.winds W (leastRow l) m = some e) (hb : Ahead B l.other e) (hm : m ≤ e) : SDI P W S B (PdL P W B p m (i + 1)) f (setF w l.other (if (w l.other).getD e < e then (w l.other).getD e else e)) (some m) := by
  have nx : FNx P.winds P.links W B p m l.other e := ⟨l, List.mem_of_getElem? hi, h1, rfl, hc, hb⟩
  have fin : ∀ w', SDI P W S B (PdL P W B p m i) f w' (some m) → (∃ m', w' l.other = some m' ∧ m' ≤ e) → SDI P W S B (PdL P W B p m (i + 1)) f w' (some m) := fun w' h' ⟨m', k1, k2⟩ => pdl_skip h' hi fun e2 _ c2 _ => by
    rw [hc] at c2
    cases c2
    exact ⟨m', .inr k1, k2⟩
  cases ew : w l.other with
  | none =>
    have e1 : (if (none : Option Int).getD e < e then (none : Option Int).getD e else e) = e := by
      show (if e < e then e else e) = e
      split <;> rfl
    rw [e1]
    exact fin _ (h.relax hp nx hf (fun n z => by rw [ew] at z; cases z) hm) ⟨e, setF_at, Int.le_refl _⟩
  | some n =>
    show SDI P W S B _ f (setF w l.other (if n < e then n else e)) _
    by_cases c : n < e
    · rw [if_pos c, setF_same ew]
      exact fin _ h ⟨n, ew, by omega⟩
    · rw [if_neg c]
      exact fin _ (h.relax hp nx hf (fun n' z => by rw [ew] at z; cases z; omega) hm) ⟨e, setF_at, Int.le_refl _⟩
end
/-! ### arrivals -/
section
variable {paths : List Path} {F : Str → Option Int} {p0 : Str} {m0 : Int}
abbrev ADI (paths : List Path) (F : Str → Option Int) (p0 : Str) (m0 : Int) := DI (ASt F p0 m0) (ANx paths F)
/-- the steps by the ways from the i-th on -/
def PdW (paths : List Path) (F : Str → Option Int) (p : Str) (m : Int) (i : Nat) : Str → Int → Str → Int → Prop := fun p' m' q e => (p' = p ∧ m' = m) ∧ ∃ d, (q, d) ∈ (walksM paths p).drop i ∧ e = m + d ∧ Free F q e
theorem pdw_start {f w : Str → Option Int} {p : Str} {m : Int} {a : Option Int} (h : ADI paths F p0 m0 (fun p' m' _ _ => p' = p ∧ m' = m) f w a) : ADI paths F p0 m0 (PdW paths F p m 0) f w a :=
  h.less fun p' m' q e _ nx pd => .inl ⟨pd, by
    obtain ⟨d, h1, h2, h3⟩ := nx
    obtain ⟨rfl, rfl⟩ := pd
    exact ⟨d, by rw [List.drop_zero]; exact h1, h2, h3⟩⟩
theorem pdw_end {f w : Str → Option Int} {p : Str} {m : Int} {a : Option Int} (h : ADI paths F p0 m0 (PdW paths F p m (walksM paths p).length) f w a) : ADI paths F p0 m0 (fun _ _ _ _ => False) f w a :=
  h.less fun p' m' q e _ nx pd => by
    obtain ⟨_, d, h1, _⟩ := pd
    rw [List.drop_length] at h1
    cases h1
theorem pdw_skip {f w : Str → Option Int} {p : Str} {m : Int} {i : Nat} {a : Option Int} {q : Str} {d : Int} (h : ADI paths F p0 m0 (PdW paths F p m i) f w a) (hi : (walksM paths p)[i]? = some (q, d))
    (sk : Free F q (m + d) → ∃ m', (f q = some m' ∨ w q = some m') ∧ m' ≤ m + d) : ADI paths F p0 m0 (PdW paths F p m (i + 1)) f w a :=
  h.less fun p' m' q' e _ nx pd => by
    obtain ⟨pe, k, h1, h2, h3⟩ := pd
    rcases drop_cases hi h1 with z | z
    · obtain ⟨z1, z2⟩ := Prod.mk.inj z
      subst z1 z2 h2
      exact .inr (sk h3)
    · exact .inl ⟨pe, k, z, h2, h3⟩
theorem pdw_put {f w : Str → Option Int} {p : Str} {m : Int} {i : Nat} {q : Str} {d : Int} (h : ADI paths F p0 m0 (PdW paths F p m i) f w (some m)) (hi : (walksM paths p)[i]? = some (q, d)) (hp : f p = some m) (hf : f q = none)
    (hb : Free F q (m + d)) (hm : 0 ≤ d) (hw : ∀ n, w q = some n → m + d ≤ n) : ADI paths F p0 m0 (PdW paths F p m (i + 1)) f (setF w q (m + d)) (some m) := by
  have nx : ANx paths F p m q (m + d) := ⟨d, List.mem_of_getElem? hi, rfl, hb⟩
  exact pdw_skip (h.relax hp nx hf hw (by omega)) hi fun _ => ⟨m + d, .inr setF_at, Int.le_refl _⟩
end
/-- each number of a least row is at least one -/
theorem least_pos {P : Parts} (g : GoodP P) {l : Link} (hl : l ∈ P.links) (i : Nat) (d : Int) (h : ((leastRow l)[i]?).join = some d) : 1 ≤ d := by
  unfold leastRow at h
  rw [List.getElem?_map] at h
  cases e : l.times[i]? with
  | none => rw [e] at h; cases h
  | some o =>
    rw [e] at h
    cases o with
    | none => cases h
    | some p =>
      have e2 : p.1 = d := Option.some.inj h
      rw [← e2]
      exact (g.lv l hl p (List.mem_of_getElem? e)).1
end Ef
/-! ==== EfP4 -/
set_option Elab.async false
set_option linter.all false
set_option maxRecDepth 100000
set_option maxHeartbeats 4000000
/-! The spread of a fire. -/
namespace Ef
open PySem L2 Evl
section
variable {K : Frg} {C : Addr}
section
variable {σ : L2.St} {H : Hp} {tq td te : TE} {q : Str} {e : Int} {d : Addr} {bl : List (Str × Int)}
/-- not in a dict or before its minute -/
theorem et_ahead (hq : Ev tq σ H (.str q)) (hd : Ev td σ H (.ref d)) (he : Ev te σ H (.int e)) (h : H d = some (.dK (dk bl))) : EvT (tOr (tB (tDNotIn tq td)) (tTest (tOp rLt te (tDGet td tq)))) σ H (aheadB bl q e) := by
  cases hb : lk bl q with
  | none =>
    have h1 := ev_dniI hq hd h
    rw [hb] at h1
    exact et_is (et_or (a := true) (b := true) (et_BT h1 rfl) fun z => by cases z) (by unfold aheadB; rw [hb]; rfl)
  | some b =>
    have h1 := ev_dniI hq hd h
    rw [hb] at h1
    exact et_is (et_or (a := false) (b := decide (e < b)) (et_BT h1 rfl) fun _ => et_test (ev_I he (ev_dgetI hd hq h hb))) (by unfold aheadB; rw [hb]; rfl)
end
/-- the least of what waits -/
theorem min_wait {td : TE} {a0 a1 a2 a3 a4 a5 a6 a7 a8 a9 a10 a11 a12 : Option V} {H : Hp} {d : Addr} {wl : List (Str × Int)} (hd : ∀ (b7 b8 : Option V) (H1 : Hp), Ev td [a0, a1, a2, a3, a4, a5, a6, b7, b8, a9, a10, a11, a12] H1 (.ref d)) (h : H d = some (.dK (dk wl))) (hne : wl ≠ []) (hl : wl.length ≤ 1000) :
    ∃ p m, (p, m) ∈ wl ∧ (∀ q n, (q, n) ∈ wl → m ≤ n) ∧ EvD K (tCB (rMinO K (Int × Str)) (tCons (tLockE (tLc (iItems td) (gTup K 2 (gCons (gName 7) (gCons (gName 8) gNil))) tYes (tTup (tCons (tVar 8) (tCons (tVar 7) tNil))) [7, 8])) tNil)) [a0, a1, a2, a3, a4, a5, a6, a7, a8, a9, a10, a11, a12] H (.tuple [.int m, .str p]) := by
  have h1 : EvN K (tLockE (tLc (iItems td) (gTup K 2 (gCons (gName 7) (gCons (gName 8) gNil))) tYes (tTup (tCons (tVar 8) (tCons (tVar 7) tNil))) [7, 8])) [a0, a1, a2, a3, a4, a5, a6, a7, a8, a9, a10, a11, a12] H ((wl.map fun r => (r.2, r.1)).map PySem.W.Datum.toD) :=
    en_lock h fun H1 od e1 => en_map (eb := fun r : Int × Str => PySem.W.Datum.toD r) (ea := pairD) (ei_items (hd _ _ _) upd_same) (fun r => (r.2, r.1)) (fun r => rfl) (by omega) fun a x Hb ha e hx => by
      obtain ⟨v1, v2, d1, d2, hg⟩ := gs_pair (g1 := gName 7) (g2 := gName 8) hx
      exact ⟨_, hg gs_name gs_name, rfl, ed_tup (eda_cons (ed_var (i := 8) rfl d2) (eda_cons (ed_var (i := 7) rfl d1) eda_nil)) (by simp)⟩
  cases wl with
  | nil => exact absurd rfl hne
  | cons b bs =>
    have h2 := ep_minO (x := (b.2, b.1)) (xs := bs.map fun r => (r.2, r.1)) h1.toD
    have mm := min_mem (bs.map fun r : Str × Int => (r.2, r.1)) (b.2, b.1)
    have ml := min_le (bs.map fun r : Str × Int => (r.2, r.1)) (b.2, b.1)
    refine ⟨(PySem.W.minOf (b.2, b.1) (bs.map fun r => (r.2, r.1))).2, (PySem.W.minOf (b.2, b.1) (bs.map fun r => (r.2, r.1))).1, ?_, fun q n hq => ?_, h2⟩
    · obtain ⟨r, hr, e⟩ := List.mem_map.mp (show _ ∈ (b :: bs).map fun r : Str × Int => (r.2, r.1) from mm)
      rw [← e]
      exact hr
    · exact ml (n, q) (show (n, q) ∈ (b :: bs).map fun r : Str × Int => (r.2, r.1) from List.mem_map.mpr ⟨(q, n), hq, rfl⟩)
/-- the heap in the search -/
structure SpH (H H' : Hp) (ab wa fa : Addr) (bl wl fl : List (Str × Int)) : Prop where
  ex : Ex H H'
  b : H' ab = some (.dK (dk bl))
  w : H' wa = some (.dK (dk wl))
  f : H' fa = some (.dK (dk fl))
theorem SpH.up {H H1 H2 : Hp} {ab wa fa : Addr} {bl wl fl : List (Str × Int)} (h : SpH H H1 ab wa fa bl wl fl) (e : Ex H1 H2) : SpH H H2 ab wa fa bl wl fl := ⟨h.ex.trans e, e _ _ h.b, e _ _ h.w, e _ _ h.f⟩
theorem SpH.putW {H H1 : Hp} {ab wa fa : Addr} {bl wl fl wl' : List (Str × Int)} (h : SpH H H1 ab wa fa bl wl fl) (nw : H wa = none) (n1 : ab ≠ wa) (n2 : fa ≠ wa) : SpH H (upd H1 wa (.dK (dk wl'))) ab wa fa bl wl' fl :=
  ⟨Ex.mut h.ex nw, by rw [upd_ne n1]; exact h.b, upd_same, by rw [upd_ne n2]; exact h.f⟩
theorem SpH.putF {H H1 : Hp} {ab wa fa : Addr} {bl wl fl fl' : List (Str × Int)} (h : SpH H H1 ab wa fa bl wl fl) (nf : H fa = none) (n1 : ab ≠ fa) (n2 : wa ≠ fa) : SpH H (upd H1 fa (.dK (dk fl'))) ab wa fa bl wl fl' :=
  ⟨Ex.mut h.ex nf, by rw [upd_ne n1]; exact h.b, by rw [upd_ne n2]; exact h.w, upd_same⟩
/-- the loop over the links -/
theorem spread_links {l w n : V} {Pt : Parts} {W : Wea} {S B : Rws} {H Hc : Hp} {ab wa fa : Addr} {bl wl fl : List (Str × Int)} {p : Str} {m : Int} {v2 v3 : V} {z10 z11 z12 : Option V} {D : Ends} (T : LTx K C)
    (g : GoodP Pt) (gw : GoodW Pt W) (hl : LandAt K C H l Pt) (hw : Dp K H w (weaD W)) (hn : Dp K H n (numsD Pt)) (hm0 : 0 ≤ m) (hB : LeastOf B (lk bl)) (nw : H wa = none) (n1 : ab ≠ wa) (n2 : fa ≠ wa)
    (h : SpH H Hc ab wa fa bl wl fl) (hk : KOk Pt.places wl) (hfp : lk fl p = some m) (hD : SDI Pt W S B (PdL Pt W B p m 0) (lk fl) (lk wl) (some m))
    (dn : ∀ H' wl' z10 z11 z12, SpH H H' ab wa fa bl wl' fl → KOk Pt.places wl' → SDI Pt W S B (fun _ _ _ _ => False) (lk fl) (lk wl') (some m) → D.nx [some l, some w, some v2, some v3, some n, some (.ref ab), some (.ref wa), some (.str p), some (.int m), some (.ref fa), z10, z11, z12] H') :
    tFor (RZ.iZipA K (tCons (tFld K (tVar 0) "links") (tCons (tVar 4) tNil))) (gTup K 2 (gCons (gName 10) (gCons (gName 11) (gNil)))) (tSeq (tAsg (tIf (tAnd (tTest (tOp rEq (tOp (rIxT K) (tVar 10) (tC (.int 1))) (tVar 7))) (tB (tDNotIn (tOp (rIxT K) (tVar 10) (tC (.int 2))) (tVar 9)))) (tCall (spOf (R_caught K C)) [] E0 (tCons (tVar 0) (tCons (tVar 1) (tCons (tVar 11) (tCons (tVar 8) tNil))))) (tC .non)) (gName 12)) (tIfS (tAnd (tB (tNotN (tVar 12))) (tOr (tB (tDNotIn (tOp (rIxT K) (tVar 10) (tC (.int 2))) (tVar 5))) (tTest (tOp rLt (tVar 12) (tDGet (tVar 5) (tOp (rIxT K) (tVar 10) (tC (.int 2)))))))) (sDPut (tVar 6) (tOp (rIxT K) (tVar 10) (tC (.int 2))) (tCB (rMin2) (tCons (tVar 12) (tCons (tDGet2 (tVar 6) (tOp (rIxT K) (tVar 10) (tC (.int 2))) (tVar 12)) tNil)))) (tNext)))
      D [some l, some w, some v2, some v3, some n, some (.ref ab), some (.ref wa), some (.str p), some (.int m), some (.ref fa), z10, z11, z12] Hc := by
  obtain ⟨fv, hfv, hfd⟩ := fld_val T.cl T.nl (ev_var (σ := [some l, some w, some v2, some v3, some n, some (.ref ab), some (.ref wa), some (.str p), some (.int m), some (.ref fa), z10, z11, z12]) (i := 0) (H := H) rfl) hl.l
  have hlen : (Pt.links.zip (Pt.links.map leastRow)).length = Pt.links.length := by rw [List.length_zip, List.length_map, Nat.min_self]
  refine s_for0 (K := K) (H0 := H) (as := Pt.links.zip (Pt.links.map leastRow)) (ea := fun q : Link × List (Option Int) => .tuple [linkD q.1, .tuple (q.2.map numO)])
    (ei_zipT0 (K := K) (ea := linkD) (eb := fun r : List (Option Int) => .tuple (r.map numO)) (as := Pt.links) (bs := Pt.links.map leastRow) hfv hfd (ev_var (v := n) (i := 4) rfl) (by rw [List.map_map]; exact hn)) h.ex
    (fun i σ' H' => ∃ (wl' : List (Str × Int)) (z10 z11 z12 : Option V), σ' = [some l, some w, some v2, some v3, some n, some (.ref ab), some (.ref wa), some (.str p), some (.int m), some (.ref fa), z10, z11, z12] ∧ SpH H H' ab wa fa bl wl' fl ∧ KOk Pt.places wl' ∧ SDI Pt W S B (PdL Pt W B p m i) (lk fl) (lk wl') (some m))
    (fun H1 e1 => ⟨wl, _, _, _, rfl, h.up e1, hk, hD⟩) (fun i σ' H' hP => by obtain ⟨_, _, _, _, _, hP, _⟩ := hP; exact hP.ex) (fun i a x σ' H' Hb hi hP eb hx => ?_) fun σ' H' hP => ?_
  · obtain ⟨wl', z10, z11, z12, rfl, h1, hk1, hD1⟩ := hP
    have h2 := h1.up eb
    have hzip := List.getElem?_zip_eq_some.mp hi
    obtain ⟨hi1, hi2⟩ := hzip
    have hrow : a.2 = leastRow a.1 := by
      rw [List.getElem?_map, hi1] at hi2
      exact (Option.some.inj hi2).symm
    obtain ⟨vk, vr, dkk, dr, hg⟩ := gs_pair (g1 := gName 10) (g2 := gName 11) hx
    refine ⟨_, hg gs_name gs_name, ?_⟩
    show tSeq _ _ _ [some l, some w, some v2, some v3, some n, some (.ref ab), some (.ref wa), some (.str p), some (.int m), some (.ref fa), some vk, some vr, z12] Hb
    have hla := List.mem_of_getElem? hi1
    have gle := g.le a.1 hla
    have one : ∀ (z : Option V) (H3 : Hp), Ex Hb H3 → Ev (tOp (rIxT K) (tVar 10) (tC (.int 1))) [some l, some w, some v2, some v3, some n, some (.ref ab), some (.ref wa), some (.str p), some (.int m), some (.ref fa), some vk, some vr, z] H3 (.str a.1.one) := fun z H3 e3 => ev_str (ed_ixT (ed_var (d := linkD a.1) (i := 10) rfl (dkk.up e3)) (ev_c (v := .int 1)) (atI_of (i := 1) rfl))
    have oth : ∀ (z : Option V) (H3 : Hp), Ex Hb H3 → Ev (tOp (rIxT K) (tVar 10) (tC (.int 2))) [some l, some w, some v2, some v3, some n, some (.ref ab), some (.ref wa), some (.str p), some (.int m), some (.ref fa), some vk, some vr, z] H3 (.str a.1.other) := fun z H3 e3 => ev_str (ed_ixT (ed_var (d := linkD a.1) (i := 10) rfl (dkk.up e3)) (ev_c (v := .int 2)) (atI_of (i := 2) rfl))
    have t1 := ev_eq (one z12 Hb (Ex.refl _)) (ev_var (v := .str p) (i := 7) rfl) (show scal (.str a.1.one) (.str p) = true from rfl)
    rw [dec_str] at t1
    have t2 := ev_dniI (oth z12 Hb (Ex.refl _)) (ev_var (v := .ref fa) (i := 9) rfl) h2.f
    have tt := et_and (et_test t1) fun _ => et_B t2
    have hcv : Ev (tCall (spOf (R_caught K C)) [] E0 (tCons (tVar 0) (tCons (tVar 1) (tCons (tVar 11) (tCons (tVar 8) tNil))))) [some l, some w, some v2, some v3, some n, some (.ref ab), some (.ref wa), some (.str p), some (.int m), some (.ref fa), some vk, some vr, z12] Hb (optV (caughtM Pt.winds W (leastRow a.1) m)) :=
      ev_own (ea_cons (ev_var (i := 0) rfl) (ea_cons (ev_var (i := 1) rfl) (ea_cons (ev_var (i := 11) rfl) (ea_cons (ev_var (i := 8) rfl) ea_nil)))) fun H3 e3 => ⟨l, w, vr, Pt, W, leastRow a.1, m, rfl, g, gw, (hl.up h2.ex).up e3, (hw.up h2.ex).up e3, by rw [← hrow]; exact dr.up e3, by unfold leastRow; rw [List.length_map]; exact g.lt a.1 hla, hm0, rfl⟩
    have gt : ∀ e, caughtM Pt.winds W (leastRow a.1) m = some e → m < e := fun e he => caught_gt (least_pos g hla) he
    by_cases c : a.1.one = p ∧ lk fl a.1.other = none
    · obtain ⟨c1, c2⟩ := c
      have hb1 : (decide (a.1.one = p) && !(lk fl a.1.other).isSome) = true := by rw [decide_eq_true c1, c2]; rfl
      rw [hb1] at tt
      refine q_asg (ev_if tt (fun _ => hcv) (fun z => by cases z)) fun H3 e3 => ?_
      show tIfS _ _ _ _ [some l, some w, some v2, some v3, some n, some (.ref ab), some (.ref wa), some (.str p), some (.int m), some (.ref fa), some vk, some vr, some (optV (caughtM Pt.winds W (leastRow a.1) m))] H3
      have h3 := h2.up e3
      cases ec : caughtM Pt.winds W (leastRow a.1) m with
      | none =>
        refine s_when (b := false) (et_and (a := false) (b := false) (et_BT (ev_notN (ev_var (v := .non) (i := 12) rfl)) rfl) fun z => by cases z) (fun z => by cases z) fun _ H4 e4 => ⟨wl', _, _, _, rfl, h3.up e4, hk1, pdl_skip hD1 hi1 fun e _ c3 _ => by rw [ec] at c3; cases c3⟩
      | some e =>
        have ta := et_ahead (oth (some (.int e)) H3 e3) (ev_var (v := .ref ab) (i := 5) rfl) (ev_var (v := .int e) (i := 12) rfl) h3.b
        refine s_when (et_and (a := true) (et_BT (ev_notN (ev_var (v := .int e) (i := 12) rfl)) rfl) fun _ => ta) (fun hb H4 e4 => ?_) (fun hb H4 e4 => ?_)
        · have hb2 : aheadB bl a.1.other e = true := by simpa using hb
          have hA : Ahead B a.1.other e := (hB.ahead _ _).mpr (aheadB_iff.mp hb2)
          have h4 := h3.up e4
          refine s_dputI (l := wl') (p := a.1.other) (ev_min2 (ev_var (i := 12) rfl) (ev_dget2I (ev_var (i := 6) rfl) (oth _ H4 (e3.trans e4)) (ev_var (i := 12) rfl) h4.w)) (ev_var (i := 6) rfl) (oth _ H4 (e3.trans e4)) h4.w (by have := hk1.len; have := g.p2; omega) fun H5 e5 => ⟨_, _, _, _, rfl, (h4.up e5).putW nw n1 n2, hk1.put gle.2.1 _, ?_⟩
          rw [lk_putF]
          exact pdl_put hD1 hi1 hfp c1 c2 ec hA (by have := gt e ec; omega)
        · have hb2 : aheadB bl a.1.other e = false := by simpa using hb
          refine ⟨wl', _, _, _, rfl, h3.up e4, hk1, pdl_skip hD1 hi1 fun e' _ c3 hA => ?_⟩
          rw [ec] at c3
          cases c3
          have := aheadB_iff.mpr ((hB.ahead _ _).mp hA)
          rw [hb2] at this
          cases this
    · have hb1 : (decide (a.1.one = p) && !(lk fl a.1.other).isSome) = false := by
        by_cases c1 : a.1.one = p
        · cases c2 : lk fl a.1.other with
          | none => exact absurd ⟨c1, c2⟩ c
          | some b => rw [decide_eq_true c1]; rfl
        · rw [decide_eq_false c1]; rfl
      rw [hb1] at tt
      refine q_asg (ev_if tt (fun z => by cases z) (fun _ => ev_c (v := .non))) fun H3 e3 => ?_
      refine s_when (b := false) (et_and (a := false) (b := false) (et_BT (ev_notN (ev_var (v := .non) (i := 12) rfl)) rfl) fun z => by cases z) (fun z => by cases z) fun _ H4 e4 => ⟨wl', _, _, _, rfl, (h2.up e3).up e4, hk1, pdl_skip hD1 hi1 fun e c1 c3 _ => ?_⟩
      cases c2 : lk fl a.1.other with
      | none => exact absurd ⟨c1, c2⟩ c
      | some b =>
        obtain ⟨m', e1, le1⟩ := hD1.fa _ _ c2
        cases e1
        have := gt e c3
        exact ⟨b, .inl rfl, by omega⟩
  · obtain ⟨wl', z10, z11, z12, rfl, h1, hk1, hD1⟩ := hP
    rw [hlen] at hD1
    exact dn H' wl' _ _ _ h1 hk1 (pdl_end hD1)
end
end Ef
/-! ==== EfP5 -/
set_option Elab.async false
set_option linter.all false
set_option maxRecDepth 100000
set_option maxHeartbeats 4000000
/-! The spread, on. -/
namespace Ef
open PySem L2 Evl
theorem rch_nn {P : Parts} {W : Wea} {S B : Rws} (g : GoodP P) (gS : GoodR P S) {p : Str} {m : Int} (h : Rch (FSt S B) (FNx P.winds P.links W B) p m) : 0 ≤ m := by
  induction h with
  | start h => exact gS.nn _ h.1
  | step _ nx ih =>
    obtain ⟨l, h1, h2, h3, h4, h5⟩ := nx
    have := caught_gt (least_pos g h1) h4
    omega
section
variable {K : Frg} {C : Addr}
theorem p_spread (T : LTx K C) : PureOk (R_spread K C) (t_spread K C) N_spread := by
  rintro vs H P Q ⟨l, w, s, b, n, Pt, W, S, B, rfl, g, gw, gS, gB, hl, hw, hs, hb, hn, rfl⟩ q
  show t_spread K C (endQ Q) [some l, some w, some s, some b, some n, none, none, none, none, none, none, none, none] H
  refine q_asgP (P := fun v H' => ∃ a bl, v = .ref a ∧ H a = none ∧ H' a = some (.dK (dk bl)) ∧ LeastOf B (lk bl)) (ep_own (ea_cons (ev_var (i := 3) rfl) ea_nil) fun H1 e1 => ⟨_, ⟨b, B, rfl, hb.up e1, gB.len, rfl⟩, fun v H2 e2 h => by
    obtain ⟨a, bl, h1, h2, h3, h4, h5, h6⟩ := h
    exact ⟨a, bl, h1, fresh_back e1 h2, h3, h5⟩⟩) fun v H1 e1 hv => ?_
  obtain ⟨ab, bl, rfl, nab, hab, hB⟩ := hv
  refine q_dnew fun wa hwa => ?_
  have nw : H wa = none := fresh_back e1 hwa
  have n1 : ab ≠ wa := fun z => by rw [z, hwa] at hab; cases hab
  have e1w : Ex H (upd H1 wa (.dK [])) := e1.trans (Ex.new hwa)
  show tSeq _ _ _ [some l, some w, some s, some b, some n, some (.ref ab), some (.ref wa), none, none, none, none, none, none] _
  refine q_forI (K := K) (PP := fun v H' => ∃ a sl, v = .ref a ∧ (upd H1 wa (.dK [])) a = none ∧ H' a = some (.dK (dk sl)) ∧ (sl.map (·.1)).Nodup ∧ LeastOf S (lk sl)) (ep_own (ea_cons (ev_var (i := 2) rfl) ea_nil) fun H2 e2 => ⟨_, ⟨s, S, rfl, (hs.up e1w).up e2, gS.len, rfl⟩, fun v H3 e3 h => by
    obtain ⟨a, sl, h1, h2, h3, h4, h5, h6⟩ := h
    exact ⟨a, sl, h1, fresh_back e2 h2, h3, h4, h5⟩⟩) fun v H2 e2 hv => ?_
  obtain ⟨d, sl, rfl, nd, hd, snd, hS⟩ := hv
  have nd0 : H d = none := fresh_back e1w nd
  have nabd : ab ≠ d := fun z => by
    rw [← z, upd_ne n1, hab] at nd
    cases nd
  have nwd : wa ≠ d := fun z => by
    rw [← z, upd_same] at nd
    cases nd
  have knS : ∀ (i : Nat) (a : Str × Int), sl[i]? = some a → a.1 ∈ Pt.places := fun i a hi => gS.kn (a.1, a.2) (hS.mem a.1 a.2 (lk_of_mem snd (List.mem_of_getElem? hi)))
  refine ⟨d, sl, rfl, hd, fun od => ⟨fun i σ' H' => ∃ (wl : List (Str × Int)) (z7 z8 : Option V), σ' = [some l, some w, some s, some b, some n, some (.ref ab), some (.ref wa), z7, z8, none, none, none, none] ∧ Ex H H' ∧ H' ab = some (.dK (dk bl)) ∧ H' wa = some (.dK (dk wl)) ∧ H' d = some (.frz od (.dK (dk sl))) ∧ TakenS bl (sl.take i) wl ∧ KOk Pt.places wl,
    ⟨[], none, none, rfl, Ex.mut (e1w.trans e2) nd0, ?_, ?_, upd_same, by rw [List.take_zero]; exact TakenS.nil bl, KOk.nil _⟩, (fun i σ' H' hP => by obtain ⟨_, _, _, _, _, _, _, h, _⟩ := hP; exact h), (fun i a x σ' H' Hb hi hP eb hx => ?_), fun σ' H' hP => ?_⟩⟩
  · rw [upd_ne nabd]
    exact e2 _ _ (by rw [upd_ne n1]; exact hab)
  · rw [upd_ne nwd]
    exact e2 _ _ upd_same
  · obtain ⟨wl, z7, z8, rfl, ex, h1, h2, h3, ht, hk⟩ := hP
    obtain ⟨v1, v2, d1, d2, hg⟩ := gs_pair (g1 := gName 7) (g2 := gName 8) hx
    have x1 := dp_str d1
    have x2 := dp_int d2
    subst x1 x2
    refine ⟨_, hg gs_name gs_name, ?_⟩
    show tIfS _ _ _ _ [some l, some w, some s, some b, some n, some (.ref ab), some (.ref wa), some (.str a.1), some (.int a.2), none, none, none, none] Hb
    have ta := et_ahead (ev_var (σ := [some l, some w, some s, some b, some n, some (.ref ab), some (.ref wa), some (.str a.1), some (.int a.2), none, none, none, none]) (v := .str a.1) (i := 7) rfl) (ev_var (v := .ref ab) (i := 5) rfl) (ev_var (v := .int a.2) (i := 8) rfl) (eb _ _ h1)
    refine s_when ta (fun hc H3 e3 => ?_) (fun hc H3 e3 => ?_)
    · refine s_dputI (l := wl) (p := a.1) (ev_var (i := 8) rfl) (ev_var (i := 6) rfl) (ev_var (i := 7) rfl) (e3 _ _ (eb _ _ h2)) (by have := hk.len; have := g.p2; omega) fun H4 e4 => ⟨_, _, _, rfl, Ex.mut (((ex.trans eb).trans e3).trans e4) nw, ?_, upd_same, ?_, ?_, hk.put (knS i a hi) _⟩
      · rw [upd_ne n1]
        exact e4 _ _ (e3 _ _ (eb _ _ h1))
      · rw [upd_ne (fun z => nwd z.symm)]
        exact e4 _ _ (e3 _ _ (eb _ _ h3))
      · rw [take_snoc hi]
        exact ht.yes (nodup_take snd hi) hc
    · refine ⟨wl, _, _, rfl, (ex.trans eb).trans e3, e3 _ _ (eb _ _ h1), e3 _ _ (eb _ _ h2), e3 _ _ (eb _ _ h3), ?_, hk⟩
      rw [take_snoc hi]
      exact ht.no hc
  · obtain ⟨wl, z7, z8, rfl, ex, h1, h2, h3, ht, hk⟩ := hP
    rw [List.take_length] at ht
    refine q_dnew fun fa hfa => ?_
    have nf : H fa = none := fresh_back ex hfa
    have n3 : ab ≠ fa := fun z => by rw [z, hfa] at h1; cases h1
    have n4 : wa ≠ fa := fun z => by rw [z, hfa] at h2; cases h2
    have ef := Ex.new (o := .dK []) hfa
    show tSeq _ _ _ [some l, some w, some s, some b, some n, some (.ref ab), some (.ref wa), z7, z8, some (.ref fa), none, none, none] _
    refine q_while (fun k σ' H' => ∃ (wl fl : List (Str × Int)) (at_ : Option Int) (z7 z8 z10 z11 z12 : Option V), σ' = [some l, some w, some s, some b, some n, some (.ref ab), some (.ref wa), z7, z8, some (.ref fa), z10, z11, z12] ∧ SpH H H' ab wa fa bl wl fl ∧ KOk Pt.places wl ∧ KOk Pt.places fl ∧ SDI Pt W S B (fun _ _ _ _ => False) (lk fl) (lk wl) at_ ∧ k = Pt.places.length - fl.length)
      Pt.places.length ⟨wl, [], none, _, _, _, _, _, rfl, ⟨ex.trans ef, ef _ _ h1, ef _ _ h2, upd_same⟩, hk, KOk.nil _, sdi_init hB hS snd ht, rfl⟩ fun k σ' H2' hW => ?_
    obtain ⟨wl, fl, at_, z7, z8, z10, z11, z12, rfl, hp, hkw, hkf, hD, hkk⟩ := hW
    refine ⟨_, et_dct (K := K) (ev_var (i := 6) rfl) hp.w, fun hb H3 e3 => ?_, fun hb H3 e3 => ?_⟩
    · have hne : wl ≠ [] := fun z => by
        rw [z] at hb
        cases hb
      have hp3 := hp.up e3
      obtain ⟨p, m, hpm, hmin, hmv⟩ := min_wait (K := K) (td := tVar 6) (a0 := some l) (a1 := some w) (a2 := some s) (a3 := some b) (a4 := some n) (a5 := some (.ref ab)) (a6 := some (.ref wa)) (a7 := z7) (a8 := z8) (a9 := some (.ref fa)) (a10 := z10) (a11 := z11) (a12 := z12) (H := H3) (d := wa) (fun b7 b8 H1 => ev_var (i := 6) rfl) hp3.w hne (by have := hkw.len; have := g.p2; omega)
      have hlp : lk wl p = some m := lk_of_mem hkw.nd hpm
      refine ⟨fun σ2 H2 => ∃ k', k' < k ∧ _, fun σ2 H2 h => h, ?_⟩
      refine q_asgG (K := K) hmv fun v H4 e4 hv => ?_
      obtain ⟨v1, v2, d1, d2, hg⟩ := gs_pair (g1 := gName 8) (g2 := gName 7) hv
      have x1 := dp_int d1
      have x2 := dp_str d2
      subst x1 x2
      refine ⟨_, hg gs_name gs_name, ?_⟩
      have hp4 := hp3.up e4
      show tSeq _ _ _ [some l, some w, some s, some b, some n, some (.ref ab), some (.ref wa), some (.str p), some (.int m), some (.ref fa), z10, z11, z12] H4
      refine q_dpopI (l := wl) (p := p) (m := m) (ev_var (i := 6) rfl) (ev_var (i := 7) rfl) hp4.w hlp fun H5 e5 => ?_
      have hp5 := (hp4.up e5).putW (wl' := dropL wl p) nw n1 (fun z => n4 z.symm)
      have hfp : lk fl p = none := hD.dj p m hlp
      have hpp : p ∈ Pt.places := hkw.kn (p, m) hpm
      refine q_dputI (l := fl) (p := p) (ev_var (i := 8) rfl) (ev_var (i := 9) rfl) (ev_var (i := 7) rfl) hp5.f (by have := hkf.len; have := g.p2; omega) fun H6 e6 => ?_
      have hp6 := (hp5.up e6).putF (fl' := putL fl p m) nf n3 n4
      have hD6 := hD.pop hlp (fun q n hq => hmin q n (lk_mem hq))
      rw [← lk_putF, ← lk_dropF] at hD6
      have hm0 : 0 ≤ m := rch_nn g gS (hD.sw p m hlp)
      have hkf' := hkf.put hpp m
      refine spread_links (K := K) (C := C) T g gw hl hw hn hm0 hB nw n1 (fun z => n4 z.symm) hp6 (hkw.drop p) (by rw [lk_put, if_pos rfl]) (pdl_start hD6) fun H7 wl' z10 z11 z12 hp7 hk7 hD7 => ?_
      refine ⟨Pt.places.length - (putL fl p m).length, ?_, wl', _, _, _, _, _, _, _, rfl, hp7, hk7, hkf', hD7, rfl⟩
      have l1 := hkf'.len
      rw [len_put_new hfp] at l1 ⊢
      omega
    · have hwl : wl = [] := by
        cases wl with
        | nil => rfl
        | cons a r => cases hb
      subst hwl
      exact s_ret (ev_var (i := 9) rfl) fun H4 e4 => q _ _ ((hp.ex.trans e3).trans e4) ⟨fl, ⟨fa, rfl, e4 _ _ (e3 _ _ hp.f)⟩, fast_of gw.asc hD⟩
end
end Ef
/-! ==== EfP6 -/
set_option Elab.async false
set_option linter.all false
set_option maxRecDepth 100000
set_option maxHeartbeats 4000000
/-! First arrivals. -/
namespace Ef
open PySem L2 Evl
/-- where each came from -/
def SrcI (paths : List Path) (p0 : Str) (m0 : Int) (f w : Str → Option Int) (s : Str → Option (Option Str)) : Prop :=
  ∀ q n, (f q = some n ∨ w q = some n) → (s q = some none ∧ q = p0 ∧ n = m0) ∨ ∃ q' n' d, s q = some (some q') ∧ f q' = some n' ∧ (q, d) ∈ walksM paths q' ∧ n = n' + d
section
variable {paths : List Path} {p0 : Str} {m0 : Int} {f w : Str → Option Int} {sl : List (Str × Option Str)}
theorem SrcI.pop (h : SrcI paths p0 m0 f w (lk sl)) {p : Str} {m : Int} (hp : w p = some m) (hf : f p = none) : SrcI paths p0 m0 (setF f p m) (delF w p) (lk sl) := fun q n o => by
  have up : ∀ r k, f r = some k → setF f p m r = some k := fun r k e => by
    show (if r = p then some m else f r) = some k
    rw [if_neg (fun z => by rw [z, hf] at e; cases e)]
    exact e
  have o2 : f q = some n ∨ w q = some n := by
    rcases o with o | o
    · have o3 : (if q = p then some m else f q) = some n := o
      by_cases c : q = p
      · rw [if_pos c] at o3
        rw [c, ← o3]
        exact .inr hp
      · rw [if_neg c] at o3
        exact .inl o3
    · have o3 : (if q = p then none else w q) = some n := o
      by_cases c : q = p
      · rw [if_pos c] at o3; cases o3
      · rw [if_neg c] at o3
        exact .inr o3
  rcases h q n o2 with z | ⟨q', n', d, h1, h2, h3, h4⟩
  · exact .inl z
  · exact .inr ⟨q', n', d, h1, up q' n' h2, h3, h4⟩
theorem SrcI.put (h : SrcI paths p0 m0 f w (lk sl)) {p q : Str} {m d : Int} (hp : f p = some m) (hq : f q = none) (hd : (q, d) ∈ walksM paths p) : SrcI paths p0 m0 f (setF w q (m + d)) (lk (putL sl q (some p))) := fun r n o => by
  by_cases c : r = q
  · subst c
    refine .inr ⟨p, m, d, ?_, hp, hd, ?_⟩
    · rw [lk_put, if_pos rfl]
    · rcases o with o | o
      · rw [hq] at o; cases o
      · have o3 : (if r = r then some (m + d) else w r) = some n := o
        rw [if_pos rfl] at o3
        exact (Option.some.inj o3).symm
  · have o2 : f r = some n ∨ w r = some n := by
      rcases o with o | o
      · exact .inl o
      · have o3 : (if r = q then some (m + d) else w r) = some n := o
        rw [if_neg c] at o3
        exact .inr o3
    rw [lk_put, if_neg c]
    exact h r n o2
end
theorem rch_ge {P : Parts} (g : GoodP P) {F : Str → Option Int} {p0 : Str} {m0 : Int} {q : Str} {n : Int} (h : Rch (ASt F p0 m0) (ANx P.paths F) q n) : m0 ≤ n := by
  induction h with
  | start h => rw [h.2.1]; exact Int.le_refl _
  | step _ nx ih =>
    obtain ⟨d, h1, h2, _⟩ := nx
    have := (walks_pos g h1).1
    omega
section
variable {K : Frg} {C : Addr}
/-- the heap: the search's, and the sources -/
structure ArH (H H' : Hp) (af wa sa fa : Addr) (fl wl fo : List (Str × Int)) (sl : List (Str × Option Str)) : Prop where
  s : SpH H H' af wa fa fl wl fo
  r : H' sa = some (.dK (dsr sl))
theorem ArH.up {H H1 H2 : Hp} {af wa sa fa : Addr} {fl wl fo : List (Str × Int)} {sl : List (Str × Option Str)} (h : ArH H H1 af wa sa fa fl wl fo sl) (e : Ex H1 H2) : ArH H H2 af wa sa fa fl wl fo sl := ⟨h.s.up e, e _ _ h.r⟩
theorem p_first_arrivals : PureOk (R_first_arrivals K C) (t_first_arrivals K C) N_first_arrivals := by
  rintro vs H P Q ⟨l, fv, p0, m0, Pt, fl, rfl, g, hl, hfd, hp0, rfl⟩ q
  obtain ⟨af, rfl, haf⟩ := hfd
  show t_first_arrivals K C (endQ Q) [some l, some (.ref af), some (.str p0), some (.int m0), none, none, none, none, none, none, none, none, none] H
  refine q_dnew fun wa hwa => ?_
  have n1 : af ≠ wa := fun z => by rw [z, hwa] at haf; cases haf
  have ex1 : Ex H (upd H wa (.dK [])) := Ex.new hwa
  refine q_dnew fun sa hsa => ?_
  have nsw : sa ≠ wa := fun z => by rw [z, upd_same] at hsa; cases hsa
  have nsa : H sa = none := fresh_back ex1 hsa
  have nfs : af ≠ sa := fun z => by rw [z, nsa] at haf; cases haf
  have ex2 : Ex H (upd (upd H wa (.dK [])) sa (.dK [])) := ex1.trans (Ex.new hsa)
  show tSeq _ _ _ [some l, some (.ref af), some (.str p0), some (.int m0), some (.ref wa), some (.ref sa), none, none, none, none, none, none, none] _
  have key : ∀ (H3 : Hp) (wl : List (Str × Int)) (sl : List (Str × Option Str)), Ex H H3 → H3 wa = some (.dK (dk wl)) → H3 sa = some (.dK (dsr sl)) → KOk Pt.places wl → KOk Pt.places sl → ADI Pt.paths (lk fl) p0 m0 (fun _ _ _ _ => False) (lk []) (lk wl) none → SrcI Pt.paths p0 m0 (lk []) (lk wl) (lk sl) →
      (tSeq (tAsg (tDNewK) (gName 6)) (tSeq (tWhile (tTr K (tVar 4)) (tSeq (tAsg (tCB (rMinO K (Int × Str)) (tCons (tLockE (tLc (iItems (tVar 4)) (gTup K 2 (gCons (gName 7) (gCons (gName 8) (gNil)))) (tYes) (tTup (tCons (tVar 8) (tCons (tVar 7) tNil))) [7, 8])) tNil)) (gTup K 2 (gCons (gName 8) (gCons (gName 7) (gNil))))) (tSeq (tDrop (tDPop1 (tVar 4) (tVar 7))) (tSeq (sDPut (tVar 6) (tVar 7) (tVar 8)) (tFor (iList K (tMeth C "walks_from" (spOf (R_walks_from K C)) [] E0 (tVar 0) (tCons (tVar 7) tNil))) (gTup K 2 (gCons (gName 9) (gCons (gName 10) (gNil)))) (tSeq (tAsg (tOp (rAddI) (tVar 8) (tVar 10)) (gName 11)) (tSeq (tAsg (tOrV (tDNotIn (tVar 9) (tVar 1)) (tOp rLt (tVar 11) (tDGet (tVar 1) (tVar 9)))) (gName 12)) (tIfS (tAnd (tB (tDNotIn (tVar 9) (tVar 6))) (tAnd (tB (tVar 12)) (tTest (tOp rLt (tVar 11) (tDGet2 (tVar 4) (tVar 9) (tOp (rAddI) (tVar 11) (tC (.int 1)))))))) (tSeq (sDPut (tVar 4) (tVar 9) (tVar 11)) (sDPut (tVar 5) (tVar 9) (tVar 7))) (tNext))))))))) (tRet (tTup (tCons (tVar 6) (tCons (tVar 5) tNil))))))
        (endQ Q) [some l, some (.ref af), some (.str p0), some (.int m0), some (.ref wa), some (.ref sa), none, none, none, none, none, none, none] H3 := by
    intro H3 wl sl ex3 hw3 hs3 hkw hks hD0 hS0
    refine q_dnew fun fa hfa => ?_
    have nf : H fa = none := fresh_back ex3 hfa
    have n3 : af ≠ fa := fun z => by rw [z, nf] at haf; cases haf
    have n4 : wa ≠ fa := fun z => by rw [z, hfa] at hw3; cases hw3
    have n5 : sa ≠ fa := fun z => by rw [z, hfa] at hs3; cases hs3
    have ef := Ex.new (o := .dK []) hfa
    show tSeq _ _ _ [some l, some (.ref af), some (.str p0), some (.int m0), some (.ref wa), some (.ref sa), some (.ref fa), none, none, none, none, none, none] _
    refine q_while (fun k σ' H' => ∃ (wl fo : List (Str × Int)) (sl : List (Str × Option Str)) (at_ : Option Int) (z7 z8 z9 z10 z11 z12 : Option V), σ' = [some l, some (.ref af), some (.str p0), some (.int m0), some (.ref wa), some (.ref sa), some (.ref fa), z7, z8, z9, z10, z11, z12] ∧ ArH H H' af wa sa fa fl wl fo sl ∧ KOk Pt.places wl ∧ KOk Pt.places fo ∧ KOk Pt.places sl ∧
        ADI Pt.paths (lk fl) p0 m0 (fun _ _ _ _ => False) (lk fo) (lk wl) at_ ∧ SrcI Pt.paths p0 m0 (lk fo) (lk wl) (lk sl) ∧ k = Pt.places.length - fo.length)
      Pt.places.length ⟨wl, [], sl, none, _, _, _, _, _, _, rfl, ⟨⟨ex3.trans ef, ef _ _ (ex3 _ _ haf), ef _ _ hw3, upd_same⟩, ef _ _ hs3⟩, hkw, KOk.nil _, hks, hD0, hS0, rfl⟩ fun k σ' H2' hW => ?_
    obtain ⟨wl, fo, sl, at_, z7, z8, z9, z10, z11, z12, rfl, hp, hkw, hkf, hks, hD, hS, hkk⟩ := hW
    refine ⟨_, et_dct (K := K) (ev_var (i := 4) rfl) hp.s.w, fun hb H3 e3 => ?_, fun hb H3 e3 => ?_⟩
    · have hne : wl ≠ [] := fun z => by
        rw [z] at hb
        cases hb
      have hp3 := hp.up e3
      obtain ⟨p, m, hpm, hmin, hmv⟩ := min_wait (K := K) (td := tVar 4) (a0 := some l) (a1 := some (.ref af)) (a2 := some (.str p0)) (a3 := some (.int m0)) (a4 := some (.ref wa)) (a5 := some (.ref sa)) (a6 := some (.ref fa)) (a7 := z7) (a8 := z8) (a9 := z9) (a10 := z10) (a11 := z11) (a12 := z12) (H := H3) (d := wa) (fun b7 b8 H1 => ev_var (i := 4) rfl) hp3.s.w hne (by have := hkw.len; have := g.p2; omega)
      have hlp : lk wl p = some m := lk_of_mem hkw.nd hpm
      refine ⟨fun σ2 H2 => ∃ k', k' < k ∧ _, fun σ2 H2 h => h, ?_⟩
      refine q_asgG (K := K) hmv fun v H4 e4 hv => ?_
      obtain ⟨v1, v2, d1, d2, hg⟩ := gs_pair (g1 := gName 8) (g2 := gName 7) hv
      have x1 := dp_int d1
      have x2 := dp_str d2
      subst x1 x2
      refine ⟨_, hg gs_name gs_name, ?_⟩
      have hp4 := hp3.up e4
      show tSeq _ _ _ [some l, some (.ref af), some (.str p0), some (.int m0), some (.ref wa), some (.ref sa), some (.ref fa), some (.str p), some (.int m), z9, z10, z11, z12] H4
      refine q_dpopI (l := wl) (p := p) (m := m) (ev_var (i := 4) rfl) (ev_var (i := 7) rfl) hp4.s.w hlp fun H5 e5 => ?_
      have hp5 := (hp4.s.up e5).putW (wl' := dropL wl p) hwa n1 (fun z => n4 z.symm)
      have hr5 : (upd H5 wa (.dK (dk (dropL wl p)))) sa = some (.dK (dsr sl)) := by
        rw [upd_ne nsw]
        exact e5 _ _ hp4.r
      have hfp : lk fo p = none := hD.dj p m hlp
      have hpp : p ∈ Pt.places := hkw.kn (p, m) hpm
      refine q_dputI (l := fo) (p := p) (ev_var (i := 8) rfl) (ev_var (i := 6) rfl) (ev_var (i := 7) rfl) hp5.f (by have := hkf.len; have := g.p2; omega) fun H6 e6 => ?_
      have hp6 := (hp5.up e6).putF (fl' := putL fo p m) nf n3 n4
      have hr6 : (upd H6 fa (.dK (dk (putL fo p m)))) sa = some (.dK (dsr sl)) := by
        rw [upd_ne n5]
        exact e6 _ _ hr5
      have hD6 := hD.pop hlp (fun q n hq => hmin q n (lk_mem hq))
      have hS6 := hS.pop hlp hfp
      rw [← lk_putF, ← lk_dropF] at hD6 hS6
      have hkf' := hkf.put hpp m
      have hfp6 : lk (putL fo p m) p = some m := by rw [lk_put, if_pos rfl]
      have hwf : EvP (tMeth C "walks_from" (spOf (R_walks_from K C)) [] E0 (tVar 0) (tCons (tVar 7) tNil)) [some l, some (.ref af), some (.str p0), some (.int m0), some (.ref wa), some (.ref sa), some (.ref fa), some (.str p), some (.int m), z9, z10, z11, z12] (upd H6 fa (.dK (dk (putL fo p m)))) (fun v H' => Dp K H' v (.list ((walksM Pt.paths p).map pairD)) ∧ Ex (upd H6 fa (.dK (dk (putL fo p m)))) H') :=
        fun H7 e7 Q7 q7 => ep_meth (P := fun v H' => Dp K H' v (.list ((walksM Pt.paths p).map pairD))) (ev_var (i := 0) rfl) (hl.up hp6.ex).p.o6 (ea_cons (ev_var (i := 7) rfl) ea_nil) (fun H8 e8 => ⟨_, ⟨l, Pt, p, rfl, g, (hl.up hp6.ex).up e8, hpp, rfl⟩, fun _ _ _ h => h⟩) H7 e7 Q7 fun v H8 e8 h => q7 v H8 e8 ⟨h, e7.trans e8⟩
      refine s_forM (K := K) (ea := pairD) (as := walksM Pt.paths p) hwf no_pair fun v H7 e7 hv7 => ?_
      obtain ⟨a, xs, rfl, has, had⟩ := dp_lst hv7.1
      refine ⟨a, xs, rfl, has, had, fun i σ' H' => ∃ (wl : List (Str × Int)) (sl : List (Str × Option Str)) (z9 z10 z11 z12 : Option V), σ' = [some l, some (.ref af), some (.str p0), some (.int m0), some (.ref wa), some (.ref sa), some (.ref fa), some (.str p), some (.int m), z9, z10, z11, z12] ∧ ArH H H' af wa sa fa fl wl (putL fo p m) sl ∧ KOk Pt.places wl ∧ KOk Pt.places sl ∧
          ADI Pt.paths (lk fl) p0 m0 (PdW Pt.paths (lk fl) p m i) (lk (putL fo p m)) (lk wl) (some m) ∧ SrcI Pt.paths p0 m0 (lk (putL fo p m)) (lk wl) (lk sl) ∧ SqL K H' a xs ∧ KeepT H7 H',
        ⟨_, _, _, _, _, _, rfl, (ArH.mk hp6 hr6).up e7, hkw.drop p, hks, pdw_start hD6, hS6, has, KeepT.refl _⟩, (fun i σ' H' hP => by obtain ⟨_, _, _, _, _, _, _, _, _, _, _, _, h1, h2⟩ := hP; exact ⟨h1, h2⟩), (fun i b x σ' H' Hb hi hP eb hx => ?_), fun σ' H' hP => ?_⟩
      · obtain ⟨wl2, sl2, z9, z10, z11, z12, rfl, hpA, hkw2, hks2, hD2, hS2, hsq, hkt⟩ := hP
        obtain ⟨v1, v2, d1, d2, hg⟩ := gs_pair (g1 := gName 9) (g2 := gName 10) hx
        have x1 := dp_str d1
        have x2 := dp_int d2
        subst x1 x2
        refine ⟨_, hg gs_name gs_name, ?_⟩
        have hb9 := walks_pos g (List.mem_of_getElem? hi)
        have hpB := hpA.up eb
        have hsqB := ex_l eb hsq
        have hktB := hkt.trans (KeepT.of eb)
        refine q_asg (ev_I (g := fun i j => .int (i + j)) (ev_var (i := 8) rfl) (ev_var (i := 10) rfl)) fun H8 e8 => ?_
        have hp8 := hpB.up e8
        show tSeq _ _ _ [some l, some (.ref af), some (.str p0), some (.int m0), some (.ref wa), some (.ref sa), some (.ref fa), some (.str p), some (.int m), some (.str b.1), some (.int b.2), some (.int (m + b.2)), z12] H8
        have hfree : Ev (tOrV (tDNotIn (tVar 9) (tVar 1)) (tOp rLt (tVar 11) (tDGet (tVar 1) (tVar 9)))) [some l, some (.ref af), some (.str p0), some (.int m0), some (.ref wa), some (.ref sa), some (.ref fa), some (.str p), some (.int m), some (.str b.1), some (.int b.2), some (.int (m + b.2)), z12] H8 (.bl (aheadB fl b.1 (m + b.2))) := by
          have k1 := ev_dniI (ta := tVar 9) (td := tVar 1) (σ := [some l, some (.ref af), some (.str p0), some (.int m0), some (.ref wa), some (.ref sa), some (.ref fa), some (.str p), some (.int m), some (.str b.1), some (.int b.2), some (.int (m + b.2)), z12]) (p := b.1) (ev_var rfl) (ev_var rfl) hp8.s.b
          cases hbl : lk fl b.1 with
          | none =>
            rw [hbl] at k1
            exact ev_is (ev_orV (a := true) (b := true) k1 fun z => by cases z) (by unfold aheadB; rw [hbl]; rfl)
          | some c =>
            rw [hbl] at k1
            exact ev_is (ev_orV (a := false) (b := decide (m + b.2 < c)) k1 fun _ => ev_I (ev_var rfl) (ev_dgetI (ev_var rfl) (ev_var rfl) hp8.s.b hbl)) (by unfold aheadB; rw [hbl]; rfl)
        refine q_asg hfree fun H9 e9 => ?_
        have hp9 := hp8.up e9
        show tIfS _ _ _ _ [some l, some (.ref af), some (.str p0), some (.int m0), some (.ref wa), some (.ref sa), some (.ref fa), some (.str p), some (.int m), some (.str b.1), some (.int b.2), some (.int (m + b.2)), some (.bl (aheadB fl b.1 (m + b.2)))] H9
        have c1 := ev_dniI (ta := tVar 9) (td := tVar 6) (σ := [some l, some (.ref af), some (.str p0), some (.int m0), some (.ref wa), some (.ref sa), some (.ref fa), some (.str p), some (.int m), some (.str b.1), some (.int b.2), some (.int (m + b.2)), some (.bl (aheadB fl b.1 (m + b.2)))]) (p := b.1) (ev_var rfl) (ev_var rfl) hp9.s.f
        have c3 := ev_I (g := fun i j => .bl (decide (i < j))) (ta := tVar 11) (σ := [some l, some (.ref af), some (.str p0), some (.int m0), some (.ref wa), some (.ref sa), some (.ref fa), some (.str p), some (.int m), some (.str b.1), some (.int b.2), some (.int (m + b.2)), some (.bl (aheadB fl b.1 (m + b.2)))]) (i := m + b.2) (ev_var rfl) (ev_dget2I (ta := tVar 9) (td := tVar 4) (p := b.1) (ev_var rfl) (ev_var rfl) (ev_I (g := fun i j => .int (i + j)) (ta := tVar 11) (i := m + b.2) (ev_var rfl) (ev_c (v := .int 1))) hp9.s.w)
        have cc := et_and (et_B c1) fun _ => et_and (et_B (b := aheadB fl b.1 (m + b.2)) (te := tVar 12) (ev_var rfl)) fun _ => et_test c3
        refine s_when cc (fun hc H10 e10 => ?_) (fun hc H10 e10 => ?_)
        · obtain ⟨hc1, hc2⟩ := Bool.and_eq_true_iff.mp hc
          obtain ⟨hc2, hc3⟩ := Bool.and_eq_true_iff.mp hc2
          have hq : lk (putL fo p m) b.1 = none := by
            cases z : lk (putL fo p m) b.1 with
            | none => rfl
            | some y => rw [z] at hc1; cases hc1
          have hF : Free (lk fl) b.1 (m + b.2) := aheadB_iff.mp hc2
          have hlt := of_decide_eq_true hc3
          have hwn : ∀ n, lk wl2 b.1 = some n → m + b.2 ≤ n := fun n hn => by
            rw [hn] at hlt
            have hlt2 : m + b.2 < n := hlt
            omega
          have hp10 := hp9.up e10
          refine q_dputI (l := wl2) (p := b.1) (ev_var (i := 11) rfl) (ev_var (i := 4) rfl) (ev_var (i := 9) rfl) hp10.s.w (by have := hkw2.len; have := g.p2; omega) fun H11 e11 => ?_
          have hp11 := (hp10.s.up e11).putW (wl' := putL wl2 b.1 (m + b.2)) hwa n1 (fun z => n4 z.symm)
          have hr11 : (upd H11 wa (.dK (dk (putL wl2 b.1 (m + b.2))))) sa = some (.dK (dsr sl2)) := by
            rw [upd_ne nsw]
            exact e11 _ _ hp10.r
          have e9_11 := ((e8.trans e9).trans e10).trans e11
          have q1 : SqL K (upd H11 wa (.dK (dk (putL wl2 b.1 (m + b.2))))) a xs := sql_upd (noS_dK (e11 _ _ hp10.s.w)) (ex_l e9_11 hsqB)
          have q2 : KeepT H7 (upd H11 wa (.dK (dk (putL wl2 b.1 (m + b.2))))) := (hktB.trans (KeepT.of e9_11)).upd (noT_dK (e11 _ _ hp10.s.w))
          refine s_dputS (ls := sl2) (p := b.1) (b := some p) (ev_var (i := 7) rfl) (ev_var (i := 5) rfl) (ev_var (i := 9) rfl) hr11 (by have := hks2.len; have := g.p2; omega) fun H12 e12 => ?_
          have hp12 := hp11.up e12
          refine ⟨putL wl2 b.1 (m + b.2), putL sl2 b.1 (some p), _, _, _, _, rfl, ⟨⟨Ex.mut hp12.ex nsa, ?_, ?_, ?_⟩, upd_same⟩, hkw2.put hb9.2.1 _, hks2.put hb9.2.1 _, ?_, ?_, sql_upd (noS_dK (e12 _ _ hr11)) (ex_l e12 q1), (q2.trans (KeepT.of e12)).upd (noT_dK (e12 _ _ hr11))⟩
          · rw [upd_ne nfs]
            exact hp12.b
          · rw [upd_ne (fun z => nsw z.symm)]
            exact hp12.w
          · rw [upd_ne (fun z => n5 z.symm)]
            exact hp12.f
          · rw [lk_putF (l := wl2)]
            exact pdw_put hD2 hi hfp6 hq hF (by omega) hwn
          · rw [lk_putF (l := wl2)]
            exact hS2.put hfp6 hq (List.mem_of_getElem? hi)
        · have e810 := (e8.trans e9).trans e10
          refine ⟨wl2, sl2, _, _, _, _, rfl, hp9.up e10, hkw2, hks2, ?_, hS2, ex_l e810 hsqB, hktB.trans (KeepT.of e810)⟩
          refine pdw_skip hD2 hi fun hF => ?_
          have hA : aheadB fl b.1 (m + b.2) = true := aheadB_iff.mpr hF
          cases hq : lk (putL fo p m) b.1 with
          | some y =>
            obtain ⟨m', e1, le1⟩ := hD2.fa _ _ hq
            cases e1
            exact ⟨y, .inl rfl, by omega⟩
          | none =>
            rw [hq, hA] at hc
            have hnlt : decide (m + b.2 < (lk wl2 b.1).getD (m + b.2 + 1)) = false := hc
            have hn2 := of_decide_eq_false hnlt
            cases hw : lk wl2 b.1 with
            | none =>
              rw [hw] at hn2
              exact absurd (show m + b.2 < m + b.2 + 1 by omega) hn2
            | some y =>
              rw [hw] at hn2
              have hn3 : ¬ m + b.2 < y := hn2
              exact ⟨y, .inr rfl, by omega⟩
      · obtain ⟨wl2, sl2, z9, z10, z11, z12, rfl, hpA, hkw2, hks2, hD2, hS2, hsq, hkt⟩ := hP
        refine ⟨Pt.places.length - (putL fo p m).length, ?_, wl2, putL fo p m, sl2, _, _, _, _, _, _, _, rfl, hpA, hkw2, hkf', hks2, pdw_end hD2, hS2, rfl⟩
        have l1 := hkf'.len
        rw [len_put_new hfp] at l1 ⊢
        omega
    · have hwl : wl = [] := by
        cases wl with
        | nil => rfl
        | cons a r => cases hb
      subst hwl
      have hp3 := hp.up e3
      have hA2 : EvA (tCons (tVar 6) (tCons (tVar 5) tNil)) [some l, some (.ref af), some (.str p0), some (.int m0), some (.ref wa), some (.ref sa), some (.ref fa), z7, z8, z9, z10, z11, z12] H3 [.ref fa, .ref sa] := ea_cons (ev_var rfl) (ea_cons (ev_var rfl) ea_nil)
      refine s_retU (eu_tup hA2 (by simp)) fun a H4 ha e4 hx4 => ?_
      have hp4 := hp3.up e4
      refine q _ _ hp4.s.ex ⟨a, .ref fa, .ref sa, fo, sl, rfl, st_of hx4, ⟨fa, rfl, hp4.s.f⟩, ⟨sa, rfl, hp4.r⟩, hkf.nd, fun q n hq => hkf.kn (q, n) (lk_mem hq), fun q n hA => ?_, fun q n hq => ⟨rch_free (hD.sf q n hq), rch_ge g (hD.sf q n hq)⟩, fun q n hq => hS q n (.inl hq)⟩
      obtain ⟨m', h1, _⟩ := hD.done (fun p m m' q e le nx => anx_mono p m m' q e le nx) (arr_rch hA)
      rw [h1]
      rfl
  have hab : (upd (upd H wa (.dK [])) sa (.dK [])) af = some (.dK (dk fl)) := ex2 _ _ haf
  have hwa2 : (upd (upd H wa (.dK [])) sa (.dK [])) wa = some (.dK (dk [])) := by
    rw [upd_ne (fun z => nsw z.symm)]
    exact upd_same
  have ta := et_ahead (bl := fl) (ev_var (σ := [some l, some (.ref af), some (.str p0), some (.int m0), some (.ref wa), some (.ref sa), none, none, none, none, none, none, none]) (v := .str p0) (i := 2) rfl) (ev_var (v := .ref af) (i := 1) rfl) (ev_var (v := .int m0) (i := 3) rfl) hab
  refine q_when ta (fun hc H3 e3 => ?_) (fun hc H3 e3 => ?_)
  · have hF : Free (lk fl) p0 m0 := aheadB_iff.mp hc
    refine q_dputI (l := []) (p := p0) (m := m0) (ev_var (i := 3) rfl) (ev_var (i := 4) rfl) (ev_var (i := 2) rfl) (e3 _ _ hwa2) (by decide) fun H4 e4 => ?_
    have hs4 : (upd H4 wa (.dK (dk (putL [] p0 m0)))) sa = some (.dK (dsr [])) := by
      rw [upd_ne nsw]
      exact e4 _ _ (e3 _ _ upd_same)
    have ex4 : Ex H (upd H4 wa (.dK (dk (putL [] p0 m0)))) := Ex.mut ((ex2.trans e3).trans e4) hwa
    refine s_dputS (ls := []) (p := p0) (b := none) (ev_c (v := .non)) (ev_var (i := 5) rfl) (ev_var (i := 2) rfl) hs4 (by decide) fun H5 e5 => ?_
    refine key _ (putL [] p0 m0) (putL [] p0 none) (Ex.mut (ex4.trans e5) nsa) ?_ upd_same ((KOk.nil _).put hp0 _) ((KOk.nil _).put hp0 _) ?_ ?_
    · rw [upd_ne (fun z => nsw z.symm)]
      exact e5 _ _ upd_same
    · refine DI.init (fun q n hq => ?_) fun q n hq => ?_
      · rw [lk_put] at hq
        by_cases c : q = p0
        · rw [if_pos c] at hq
          exact ⟨c, (Option.some.inj hq).symm, hF⟩
        · rw [if_neg c] at hq
          cases hq
      · obtain ⟨rfl, rfl, _⟩ := hq
        exact ⟨n, by rw [lk_put, if_pos rfl], Int.le_refl _⟩
    · intro q n o
      rcases o with o | o
      · cases o
      · rw [lk_put] at o
        by_cases c : q = p0
        · rw [if_pos c] at o
          exact .inl ⟨by rw [lk_put, if_pos c], c, (Option.some.inj o).symm⟩
        · rw [if_neg c] at o
          cases o
  · refine key H3 [] [] (ex2.trans e3) (e3 _ _ hwa2) (e3 _ _ upd_same) (KOk.nil _) (KOk.nil _) ?_ ?_
    · refine DI.init (fun q n hq => by cases hq) fun q n hq => ?_
      have := aheadB_iff.mpr hq.2.2
      rw [hc] at this
      cases this
    · intro q n o
      rcases o with o | o <;> cases o
end
end Ef
/-! ==== EfM5 -/
set_option Elab.async false
set_option linter.all false
/-! The walk that is read back from the sources. -/
namespace Ef
open PySem L2 Evl
/-- what is read back so far, first minute first; ho: where from -/
structure ChI (P : Parts) (F f : Str → Option Int) (p0 : Str) (m0 : Int) (q0 : Str) (L : Rws) (ho : Option Str) : Prop where
  fv : ∀ a ∈ L, f a.1 = some a.2
  nd : (L.map (·.1)).Nodup
  last : ∀ a, L[L.length - 1]? = some a → a.1 = q0
  st : ∀ (i : Nat) a b, L[i]? = some a → L[i + 1]? = some b → StepOk P.paths F a b
  hd : ho = none → ∃ r, L = (p0, m0) :: r
  nx : ∀ q, ho = some q → ∃ n, f q = some n ∧ (∀ a ∈ L, n < a.2) ∧ ∀ a r, L = a :: r → ∃ d, (a.1, d) ∈ walksM P.paths q ∧ a.2 = n + d
theorem chi_nil {P : Parts} {F f : Str → Option Int} {p0 : Str} {m0 : Int} {q0 : Str} {n : Int} (h : f q0 = some n) : ChI P F f p0 m0 q0 [] (some q0) :=
  ⟨fun a h => (by cases h), List.nodup_nil, fun a h => (by cases h), fun i a b h => (by cases h), fun h => (by cases h), fun q e => (by
    cases e
    exact ⟨n, h, fun a h => (by cases h), fun a r h => (by cases h)⟩)⟩
theorem chi_cons {P : Parts} (g : GoodP P) {F f : Str → Option Int} {s : Str → Option (Option Str)} {p0 : Str} {m0 : Int} {q0 : Str} {L : Rws} {q : Str} {n : Int} {s' : Option Str} (A : Arrs P.paths F p0 m0 f s) (h : ChI P F f p0 m0 q0 L (some q)) (hq : f q = some n) (hs : s q = some s')
    (h0 : L = [] → q = q0) : ChI P F f p0 m0 q0 ((q, n) :: L) s' := by
  obtain ⟨n', e1, lt, stp⟩ := h.nx q rfl
  rw [hq] at e1
  cases e1
  refine ⟨fun a ha => ?_, ?_, fun a ha => ?_, fun i a b ha hb => ?_, fun e => ?_, fun q' e => ?_⟩
  · rcases List.mem_cons.mp ha with z | z
    · rw [z]; exact hq
    · exact h.fv a z
  · rw [List.map_cons, List.nodup_cons]
    refine ⟨fun hm => ?_, h.nd⟩
    obtain ⟨a, ha, e⟩ := List.mem_map.mp hm
    have e2 := h.fv a ha
    have e3 : a.1 = q := e
    rw [e3, hq] at e2
    have := lt a ha
    have := Option.some.inj e2
    omega
  · cases L with
    | nil =>
      have e : a = (q, n) := (Option.some.inj ha).symm
      rw [e]
      exact h0 rfl
    | cons b r =>
      refine h.last a ?_
      have e : ((q, n) :: b :: r : Rws).length - 1 = r.length + 1 := rfl
      rw [e] at ha
      have e4 : (b :: r : Rws).length - 1 = r.length := rfl
      rw [e4]
      simpa using ha
  · cases i with
    | zero =>
      have e : a = (q, n) := (Option.some.inj ha).symm
      subst e
      cases L with
      | nil => cases hb
      | cons c r =>
        have e : b = c := (Option.some.inj (by simpa using hb : some c = some b)).symm
        subst e
        obtain ⟨d, hd, e5⟩ := stp b r rfl
        refine ⟨d, walks_one g.hd hd, by show n + d ≤ b.2; omega, ?_⟩
        have e6 : b.2 - d = n := by omega
        rw [e6]
        exact (A.fr q n hq).1
    | succ i => exact h.st i a b (by simpa using ha) (by simpa using hb)
  · rcases A.src q n hq with ⟨k1, k2, k3⟩ | ⟨q', n', d, k1, _⟩
    · exact ⟨L, by rw [k2, k3]⟩
    · rw [hs, e] at k1
      cases k1
  · rcases A.src q n hq with ⟨k1, k2, k3⟩ | ⟨q2, n2, d, k1, k2, k3, k4⟩
    · rw [hs, e] at k1
      cases k1
    · rw [hs, e] at k1
      cases k1
      have dp := (walks_pos g k3).1
      refine ⟨n2, k2, fun a ha => ?_, fun a r e7 => ?_⟩
      · rcases List.mem_cons.mp ha with z | z
        · rw [z]
          show n2 < n
          omega
        · have := lt a z
          omega
      · cases e7
        exact ⟨d, k3, k4⟩
theorem chi_done {P : Parts} {F f : Str → Option Int} {s : Str → Option (Option Str)} {p0 : Str} {m0 : Int} {q0 : Str} {L : Rws} (A : Arrs P.paths F p0 m0 f s) (h : ChI P F f p0 m0 q0 L none) (hF : F q0 = none) (hm : 0 ≤ m0) : SafeRows P.paths F L ∧ L[0]? = some (p0, m0) := by
  obtain ⟨r, e⟩ := h.hd rfl
  refine ⟨⟨by rw [e]; exact List.cons_ne_nil _ _, fun a ha => by rw [h.last a ha]; exact hF, fun a ha => ?_, fun a ha => (A.fr _ _ (h.fv a ha)).1, h.st⟩, by rw [e]; rfl⟩
  have := (A.fr _ _ (h.fv a ha)).2
  omega
theorem chi_len {P : Parts} {F f : Str → Option Int} {p0 : Str} {m0 : Int} {q0 : Str} {L : Rws} {ho : Option Str} (h : ChI P F f p0 m0 q0 L ho) (hk : ∀ q n, f q = some n → q ∈ P.places) : L.length ≤ P.places.length := by
  have := nodup_sub_len h.nd (m := P.places) fun a ha => by
    obtain ⟨b, hb, e⟩ := List.mem_map.mp ha
    rw [← e]
    exact hk _ _ (h.fv b hb)
  rw [List.length_map] at this
  exact this
/-- steps forward only -/
theorem steps_nn {P : Parts} (g : GoodP P) {F : Str → Option Int} {rows : Rws} (h0 : ∀ a, rows[0]? = some a → 0 ≤ a.2) (st : ∀ (i : Nat) a b, rows[i]? = some a → rows[i + 1]? = some b → StepOk P.paths F a b) : ∀ (i : Nat) a, rows[i]? = some a → 0 ≤ a.2
  | 0, a, ha => h0 a ha
  | i + 1, a, ha => by
    have hi : i < rows.length := by
      have := get_lt ha
      omega
    have hb : rows[i]? = some rows[i] := List.getElem?_eq_getElem hi
    have h1 := steps_nn g h0 st i _ hb
    obtain ⟨d, k1, k2, _⟩ := st i _ a hb ha
    have := (walks_pos g (lk_mem k1)).1
    omega
theorem zip_next {α : Type} {rows : List α} {i : Nat} {a b : α} : (rows.zip (rows.drop 1))[i]? = some (a, b) ↔ rows[i]? = some a ∧ rows[i + 1]? = some b := by
  rw [List.getElem?_zip_eq_some, List.getElem?_drop, Nat.add_comm 1 i]
end Ef
/-! ==== EfP7 -/
set_option Elab.async false
set_option linter.all false
set_option maxRecDepth 100000
set_option maxHeartbeats 4000000
/-! Safe walks. -/
namespace Ef
open PySem L2 Evl
section
variable {K : Frg} {C : Addr}
/-- a pair whose values are known -/
theorem gs_pairV {σ : L2.St} {H : Hp} {a : Addr} {v1 v2 : V} {i j : Nat} (hs : SqT K H a [v1, v2]) : GSet (gTup K 2 (gCons (gName i) (gCons (gName j) gNil))) (.ref a) σ H ((σ.set i (some v1)).set j (some v2)) :=
  fun H1 e Q q => ⟨a, _, rfl, ex_t e hs, rfl, _, _, rfl, _, _, rfl, rfl, q⟩
theorem en_rev {σ : L2.St} {H : Hp} {te : TE} {ds : List PyData} (h : EvD K te σ H (.list ds)) : EvN K (tRevL K te) σ H ds.reverse := fun H1 a Q q => h H1 a _ fun v H2 e2 hv => by
  obtain ⟨p, xs, rfl, hs, hx⟩ := dp_lst hv
  exact ⟨p, xs, rfl, hs, fun l hl => q l _ _ (fresh_back e2 hl) (e2.trans (Ex.new hl)) upd_same (dps_rev (hx.up (Ex.new hl)))⟩
/-- the call of spread, with the least numbers -/
theorem ep_spread {l w s b : V} {Pt : Parts} {W : Wea} {S B : Rws} {σ : L2.St} {H : Hp} (g : GoodP Pt) (gw : GoodW Pt W) (gS : GoodR Pt S) (gB : GoodR Pt B) (hl : LandAt K C H l Pt) (hw : Dp K H w (weaD W)) (hs : Dp K H s (rowsD S)) (hb : Dp K H b (rowsD B))
    (i0 : σ[0]? = some (some l)) (i1 : σ[1]? = some (some w)) (i2 : σ[2]? = some (some s)) (i3 : σ[3]? = some (some b)) :
    EvP (tCall (spOf (R_spread K C)) [] E0 (tCons (tVar 0) (tCons (tVar 1) (tCons (tVar 2) (tCons (tVar 3) (tCons (tCall (spOf (R_least_numbers K C)) [] E0 (tCons (tVar 0) tNil)) tNil)))))) σ H (fun v H' => FastD Pt W S B H' v) := by
  have h5 : EvP (tCall (spOf (R_least_numbers K C)) [] E0 (tCons (tVar 0) tNil)) σ H (fun v H' => Dp K H' v (numsD Pt)) := ep_own (ea_cons (ev_var i0) ea_nil) fun H1 e1 => ⟨_, ⟨l, Pt, rfl, g, hl.up e1, rfl⟩, fun _ _ _ h => h⟩
  refine ep_ownA (epa_v (ev_var i0) (epa_v (ev_var i1) (epa_v (ev_var i2) (epa_v (ev_var i3) (epa_1 h5))))) fun vs H1 e1 hv => ?_
  obtain ⟨r1, rfl, r2, rfl, r3, rfl, r4, rfl, n, rfl, hn⟩ := hv
  exact ⟨_, ⟨l, w, s, b, n, Pt, W, S, B, rfl, g, gw, gS, gB, hl.up e1, hw.up e1, hs.up e1, hb.up e1, hn, rfl⟩, fun _ _ _ h => h⟩
theorem ev_asked {l w s b : V} {Pt : Parts} {W : Wea} {S B rs : Rws} {σ : L2.St} {H : Hp} {te : TE} (gw : GoodW Pt W) (gS : GoodR Pt S) (gB : GoodR Pt B) (gr : ∀ r ∈ rs, r.1 ∈ Pt.places) (hl : LandAt K C H l Pt) (hw : Dp K H w (weaD W)) (hs : Dp K H s (rowsD S)) (hb : Dp K H b (rowsD B))
    (i0 : σ[0]? = some (some l)) (i1 : σ[1]? = some (some w)) (i2 : σ[2]? = some (some s)) (i3 : σ[3]? = some (some b)) (h5 : EvD K te σ H (rowsD rs)) :
    Ev (tCall (spOf (R_check_asked K C)) [] E0 (tCons (tVar 0) (tCons (tVar 1) (tCons (tVar 2) (tCons (tVar 3) (tCons te tNil)))))) σ H .non := by
  refine ev_ownA (epa_v (ev_var i0) (epa_v (ev_var i1) (epa_v (ev_var i2) (epa_v (ev_var i3) (epa_1 (P := fun v H' => Dp K H' v (rowsD rs)) h5))))) fun vs H1 e1 hv => ?_
  obtain ⟨r1, rfl, r2, rfl, r3, rfl, r4, rfl, n, rfl, hn⟩ := hv
  exact ⟨l, w, s, b, n, Pt, W, S, B, rs, rfl, gw, gS, gB, gr, hl.up e1, hw.up e1, hs.up e1, hb.up e1, hn, rfl⟩
/-- the ends that are found and never burn -/
def endF (f fl : List (Str × Int)) (p : Str × Nat) : Option (Int × Int) := if (lk fl p.1).isSome then none else (lk f p.1).map fun n => (n, (p.2 : Int))
theorem p_safe_walk (T : LTx K C) : PureOk (R_safe_walk K C) (t_safe_walk K C) N_safe_walk := by
  rintro vs H P Q ⟨l, w, s, b, p0, m0, Pt, W, S, B, rfl, g, gw, gS, gB, hl, hw, hs, hb, hp0, hm0, rfl⟩ q
  show t_safe_walk K C (endQ Q) [some l, some w, some s, some b, some (.str p0), some (.int m0), none, none, none, none, none, none, none, none] H
  refine q_drop (ev_asked (K := K) (C := C) (rs := [(p0, m0)]) gw gS gB (fun r hr => by rw [List.mem_singleton.mp hr]; exact hp0) hl hw hs hb rfl rfl rfl rfl
    (EvN.toD (en_lst (eda_cons (d := rowD (p0, m0)) (ed_tup (eda_cons (ed_str (ev_var (i := 4) rfl)) (eda_cons (ed_int (ev_var (i := 5) rfl)) eda_nil)) (by simp)) eda_nil) (by simp)))) fun H1 e1 => ?_
  have g1 := ev_I (g := fun i j => .bl (decide (i < j))) (ev_var (σ := [some l, some w, some s, some b, some (.str p0), some (.int m0), none, none, none, none, none, none, none, none]) (H := H1) (v := .int m0) (i := 5) rfl) (ev_c (v := .int 0))
  rw [decide_eq_false (show ¬ m0 < 0 by omega)] at g1
  refine q_guard (et_test g1) fun H2 e2 => ?_
  have e12 := e1.trans e2
  refine q_asgP (ep_spread (K := K) (C := C) g gw gS gB (hl.up e12) (hw.up e12) (hs.up e12) (hb.up e12) rfl rfl rfl rfl) fun v H3 e3 hv => ?_
  obtain ⟨fl, ⟨af, rfl, haf⟩, hF⟩ := hv
  have e13 := e12.trans e3
  show tSeq _ _ _ [some l, some w, some s, some b, some (.str p0), some (.int m0), some (.ref af), none, none, none, none, none, none, none] H3
  refine q_asgGP (P := fun v H' => ∃ a fv sv f s, v = .ref a ∧ SqT K H' a [fv, sv] ∧ DicI H' fv f ∧ DicS H' sv s ∧ (f.map (·.1)).Nodup ∧ (∀ q n, lk f q = some n → q ∈ Pt.places) ∧ Arrs Pt.paths (lk fl) p0 m0 (lk f) (lk s))
    (ep_own (ea_cons (ev_var (i := 0) rfl) (ea_cons (ev_var (i := 6) rfl) (ea_cons (ev_var (i := 4) rfl) (ea_cons (ev_var (i := 5) rfl) ea_nil)))) fun H4 e4 => ⟨_, ⟨l, .ref af, p0, m0, Pt, fl, rfl, g, (hl.up e13).up e4, ⟨af, rfl, e4 _ _ haf⟩, hp0, rfl⟩, fun _ _ _ h => h⟩) fun v H4 e4 hv => ?_
  obtain ⟨at4, fv, sv, f, sr, rfl, hsq, ⟨aff, rfl, hff⟩, ⟨ass, rfl, hss⟩, fnd, fkn, hA⟩ := hv
  refine ⟨_, gs_pairV hsq, ?_⟩
  have e14 := e13.trans e4
  have haf4 := e4 _ _ haf
  show tSeq _ _ _ [some l, some w, some s, some b, some (.str p0), some (.int m0), some (.ref af), some (.ref aff), some (.ref ass), none, none, none, none, none] H4
  obtain ⟨pv, hpv, hpd⟩ := fld_val T.cl T.np (ev_var (σ := [some l, some w, some s, some b, some (.str p0), some (.int m0), some (.ref af), some (.ref aff), some (.ref ass), none, none, none, none, none]) (i := 0) (H := H4) rfl) (hl.up e14).p
  have g2 := g.p2
  have hends : EvN K (tLc (iEnumT K (tCons (tFld K (tVar 0) "places") tNil)) (gTup K 2 (gCons (gName 12) (gCons (gName 13) (gNil)))) (tAnd (tB (tDIn (tVar 13) (tVar 7))) (tB (tDNotIn (tVar 13) (tVar 6)))) (tTup (tCons (tDGet (tVar 7) (tVar 13)) (tCons (tVar 12) tNil))) [12, 13]) [some l, some w, some s, some b, some (.str p0), some (.int m0), some (.ref af), some (.ref aff), some (.ref ass), none, none, none, none, none] H4 ((Pt.places.zipIdx.filterMap (endF f fl)).map PySem.W.Datum.toD) :=
    en_lc (eb := fun r : Int × Int => PySem.W.Datum.toD r) (ea := fun p : Str × Nat => .tuple [.int p.2, .str p.1]) (ei_enumT0 (ea := PyData.str) hpv hpd).it (endF f fl) (fun _ => rfl) (by rw [List.length_zipIdx]; omega) fun a x Hb ha e hx => by
      obtain ⟨v1, v2, d1, d2, hg⟩ := gs_pair (g1 := gName 12) (g2 := gName 13) hx
      have x1 := dp_int d1
      have x2 := dp_str d2
      subst x1 x2
      refine ⟨_, hg gs_name gs_name, rfl, _, et_and (et_B (ev_dinI (ev_var (v := .str a.1) (i := 13) rfl) (ev_var (v := .ref aff) (i := 7) rfl) (e _ _ hff))) fun _ => et_B (ev_dniI (ev_var (v := .str a.1) (i := 13) rfl) (ev_var (v := .ref af) (i := 6) rfl) (e _ _ haf4)), fun hc => ?_, fun hc => ?_⟩
      · obtain ⟨c1, c2⟩ := Bool.and_eq_true_iff.mp hc
        obtain ⟨n, hn⟩ := Option.isSome_iff_exists.mp c1
        refine ⟨(n, (a.2 : Int)), ?_, ed_tup (eda_cons (ed_int (ev_dgetI (ev_var (v := .ref aff) (i := 7) rfl) (ev_var (v := .str a.1) (i := 13) rfl) (e _ _ hff) hn)) (eda_cons (ed_int (ev_var (i := 12) rfl)) eda_nil)) (by simp)⟩
        unfold endF
        rw [if_neg (by simpa using c2), hn]
        rfl
      · unfold endF
        by_cases c : (lk fl a.1).isSome = true
        · rw [if_pos c]
        · rw [if_neg c]
          cases hn : lk f a.1 with
          | none => rfl
          | some n =>
            rw [hn] at hc
            have c2 : (!(lk fl a.1).isSome) = false := hc
            rw [Bool.eq_false_iff.mpr c] at c2
            cases c2
  refine q_asgD (K := K) hends.toD fun ve H5 e5 hve => ?_
  show tSeq _ _ _ [some l, some w, some s, some b, some (.str p0), some (.int m0), some (.ref af), some (.ref aff), some (.ref ass), some ve, none, none, none, none] H5
  have e15 := e14.trans e5
  have tt := et_not (et_lst (K := K) (ed_var (σ := [some l, some w, some s, some b, some (.str p0), some (.int m0), some (.ref af), some (.ref aff), some (.ref ass), some ve, none, none, none, none]) (i := 9) rfl hve))
  have mem_ends : ∀ q n, lk f q = some n → lk fl q = none → ∃ i, (n, i) ∈ Pt.places.zipIdx.filterMap (endF f fl) := fun q n h1 h2 => by
    obtain ⟨j, hj⟩ := List.mem_iff_getElem?.mp (fkn q n h1)
    refine ⟨(j : Int), List.mem_filterMap.mpr ⟨(q, j), List.mem_of_getElem? (i := j) (by rw [List.getElem?_zipIdx, hj]; simp), ?_⟩⟩
    unfold endF
    rw [h2, h1]
    rfl
  refine q_when tt (fun hc H6 e6 => ?_) (fun hc H6 e6 => ?_)
  · refine s_ret ev_c fun H7 e7 => q _ _ ((e15.trans e6).trans e7) ⟨lk fl, hF, .inl ⟨rfl, fun hE => ?_⟩⟩
    obtain ⟨qe, n, ha, hn⟩ := hE
    obtain ⟨n', hn'⟩ := Option.isSome_iff_exists.mp (hA.all qe n ha)
    obtain ⟨i, hi⟩ := mem_ends qe n' hn' hn
    have : (Pt.places.zipIdx.filterMap (endF f fl)) ≠ [] := List.ne_nil_of_mem hi
    cases hq : Pt.places.zipIdx.filterMap (endF f fl) with
    | nil => exact this hq
    | cons a r => rw [hq] at hc; cases hc
  · cases hq : Pt.places.zipIdx.filterMap (endF f fl) with
    | nil => rw [hq] at hc; cases hc
    | cons a r =>
      rw [hq] at hve
      have hve6 := hve.up e6
      have e16 := e15.trans e6
      have hmin := ep_minO (K := K) (x := a) (xs := r) (ed_var (σ := [some l, some w, some s, some b, some (.str p0), some (.int m0), some (.ref af), some (.ref aff), some (.ref ass), some ve, none, none, none, none]) (i := 9) rfl hve6)
      have hmm := min_mem r a
      generalize PySem.W.minOf a r = mn at hmin hmm
      rw [← hq] at hmm
      obtain ⟨pz, hpz, hz⟩ := List.mem_filterMap.mp hmm
      obtain ⟨q0, j⟩ := pz
      unfold endF at hz
      have hnb : lk fl q0 = none := by
        cases c : lk fl q0 with
        | none => rfl
        | some y => rw [c] at hz; cases hz
      rw [hnb] at hz
      have hz2 : (lk f q0).map (fun n => (n, (j : Int))) = some mn := hz
      cases hfq : lk f q0 with
      | none => rw [hfq] at hz2; cases hz2
      | some n0 =>
        rw [hfq] at hz2
        have emn : mn = (n0, (j : Int)) := (Option.some.inj hz2).symm
        subst emn
        have hj : Pt.places[j]? = some q0 := by
          obtain ⟨i, hi⟩ := List.mem_iff_getElem?.mp hpz
          rw [List.getElem?_zipIdx] at hi
          cases c : Pt.places[i]? with
          | none => rw [c] at hi; cases hi
          | some y =>
            rw [c] at hi
            obtain ⟨h1, h2⟩ := Prod.mk.inj (Option.some.inj hi)
            have h3 : i = j := by omega
            rw [← h3, c, h1]
        have hix : Ev (tOp (rIxT K) (tCB (rMinO K (Int × Int)) (tCons (tVar 9) tNil)) (tC (.int 1))) [some l, some w, some s, some b, some (.str p0), some (.int m0), some (.ref af), some (.ref aff), some (.ref ass), some ve, none, none, none, none] H6 (.int (j : Int)) :=
          ev_int (ed_ixT (ds := [.int n0, .int (j : Int)]) hmin (ev_c (v := .int 1)) (atI_of (i := 1) rfl))
        have hpl := ed_fld T.cl T.np (ev_var (σ := [some l, some w, some s, some b, some (.str p0), some (.int m0), some (.ref af), some (.ref aff), some (.ref ass), some ve, none, none, none, none]) (i := 0) (H := H6) rfl) (hl.up e16).p
        refine q_asg (ev_str (ed_ixT hpl hix (atI_of (v := PyData.str q0) (by rw [List.getElem?_map, hj]; rfl)))) fun H7 e7 => ?_
        have e17 := e16.trans e7
        refine q_acc0 (K := K) fun p H8 hp e8 acc => ?_
        have hff8 := ((((e5.trans e6).trans e7).trans e8)) _ _ hff
        have hss8 := ((((e5.trans e6).trans e7).trans e8)) _ _ hss
        have hff7 := (((e5.trans e6).trans e7)) _ _ hff
        have hss7 := (((e5.trans e6).trans e7)) _ _ hss
        show tSeq _ _ _ [some l, some w, some s, some b, some (.str p0), some (.int m0), some (.ref af), some (.ref aff), some (.ref ass), some ve, some (srcV (some q0)), some (.ref p), none, none] H8
        refine q_while (fun k σ' H' => ∃ (ho : Option Str) (R : Rws), σ' = [some l, some w, some s, some b, some (.str p0), some (.int m0), some (.ref af), some (.ref aff), some (.ref ass), some ve, some (srcV ho), some (.ref p), none, none] ∧ Acc K H7 p rowD R H' ∧ ChI Pt (lk fl) (lk f) p0 m0 q0 R.reverse ho ∧ (R = [] → ho = some q0) ∧
            k = (match ho with | none => 0 | some x => (((lk f x).getD 0) - m0).toNat + 1))
          _ ⟨some q0, [], rfl, acc _ rowD, chi_nil hfq, fun _ => rfl, rfl⟩ fun k σ' H' hW => ?_
        obtain ⟨ho, R, rfl, hAc, hch, hR0, rfl⟩ := hW
        have hRl : R.length ≤ 24 := by
          have := chi_len hch fkn
          rw [List.length_reverse] at this
          omega
        refine ⟨_, et_B (ev_notN (ev_var (i := 10) rfl)), fun hb H9 e9 => ?_, fun hb H9 e9 => ?_⟩
        · cases ho with
          | none => simp [srcV] at hb
          | some x =>
            obtain ⟨n, hxn, hlt, hst⟩ := hch.nx x rfl
            have hA9 := hAc.up e9
            refine ⟨fun σ2 H2 => ∃ k', k' < _ ∧ _, fun σ2 H2 h => h, ?_⟩
            refine q_acc hA9 no_row (ev_var (i := 11) rfl) (b := (x, n)) (ed_tup (eda_cons (ed_str (ev_var (v := .str x) (i := 10) rfl)) (eda_cons (ed_int (ev_dgetI (ev_var (v := .ref aff) (i := 7) rfl) (ev_var (v := .str x) (i := 10) rfl) (hA9.ex _ _ hff7) hxn)) eda_nil)) (by simp)) (by omega) fun H10 hA10 _ => ?_
            have hsx : ∃ s', lk sr x = some s' := by
              rcases hA.src x n hxn with ⟨k1, _⟩ | ⟨_, _, _, k1, _⟩
              · exact ⟨_, k1⟩
              · exact ⟨_, k1⟩
            obtain ⟨s', hs'⟩ := hsx
            refine s_asg (ev_dgetS (ev_var (v := .ref ass) (i := 8) rfl) (ev_var (v := .str x) (i := 10) rfl) (hA10.ex _ _ hss7) hs') fun H11 e11 => ?_
            have hch2 : ChI Pt (lk fl) (lk f) p0 m0 q0 ((R ++ [(x, n)]).reverse) s' := by
              rw [List.reverse_append]
              exact chi_cons g hA hch hxn hs' (fun z => by
                have := hR0 (by simpa using z)
                cases this
                rfl)
            refine ⟨_, ?_, s', R ++ [(x, n)], rfl, hA10.up e11, hch2, fun z => absurd z (by simp), rfl⟩
            show _ < (((lk f x).getD 0) - m0).toNat + 1
            rw [hxn]
            cases s' with
            | none => exact Nat.succ_pos _
            | some y =>
              rcases hA.src x n hxn with ⟨k1, _⟩ | ⟨y', n', d, k1, k2, k3, k4⟩
              · rw [hs'] at k1; cases k1
              · rw [hs'] at k1
                cases k1
                show (((lk f y).getD 0) - m0).toNat + 1 < ((n : Int) - m0).toNat + 1
                rw [k2]
                have d1 := (walks_pos g k3).1
                have d2 := (hA.fr y n' k2).2
                show (n' - m0).toNat + 1 < (n - m0).toNat + 1
                omega
        · cases ho with
          | some x => simp [srcV] at hb
          | none =>
            obtain ⟨hsafe, hfirst⟩ := chi_done hA hch hnb hm0
            have hA9 := hAc.up e9
            refine s_retN (en_rev (ed_var (i := 11) rfl hA9.dp)) fun pr xs H10 hpr e10 hx hd => ?_
            refine q _ _ ((e17.trans hA9.ex).trans e10) ⟨lk fl, hF, .inr ⟨R.reverse, .lst (sq_of hx) ?_, hsafe, by rw [List.length_reverse]; omega, hfirst⟩⟩
            rw [List.map_reverse]
            exact hd
end
end Ef
/-! ==== EfP8 -/
set_option Elab.async false
set_option linter.all false
set_option maxRecDepth 100000
set_option maxHeartbeats 4000000
/-! is_safe_walk, refuges. -/
namespace Ef
open PySem L2 Evl
section
variable {K : Frg} {C : Addr}
theorem p_refuges (T : LTx K C) : PureOk (R_refuges K C) (t_refuges K C) N_refuges := by
  rintro vs H P Q ⟨l, w, s, b, m0, Pt, W, S, B, rfl, g, gw, gS, gB, hl, hw, hs, hb, hm0, rfl⟩ q
  show t_refuges K C (endQ Q) [some l, some w, some s, some b, some (.int m0), none] H
  refine q_drop (ev_asked (K := K) (C := C) (rs := []) gw gS gB (fun r hr => by cases hr) hl hw hs hb rfl rfl rfl rfl (EvN.toD (en_lst eda_nil (by simp)))) fun H1 e1 => ?_
  have g1 := ev_I (g := fun i j => .bl (decide (i < j))) (ev_var (σ := [some l, some w, some s, some b, some (.int m0), none]) (H := H1) (v := .int m0) (i := 4) rfl) (ev_c (v := .int 0))
  rw [decide_eq_false (show ¬ m0 < 0 by omega)] at g1
  refine q_guard (et_test g1) fun H2 e2 => ?_
  have e12 := e1.trans e2
  have hl2 := hl.up e12
  have g2 := g.p2
  have main : ∃ f : Str → Option Str, (∀ p, (∃ F, IsFast Pt.winds Pt.links W S B F ∧ Esc Pt.paths F p m0) → f p = some p) ∧ (∀ p, (¬ ∃ F, IsFast Pt.winds Pt.links W S B F ∧ Esc Pt.paths F p m0) → f p = none) := by
    classical
    exact ⟨fun p => if ∃ F, IsFast Pt.winds Pt.links W S B F ∧ Esc Pt.paths F p m0 then some p else none, fun p h => if_pos h, fun p h => if_neg h⟩
  obtain ⟨f, f1, f2⟩ := main
  have hlc : EvN K (tLc (iTup K (tFld K (tVar 0) "places")) (gName 5) (tB (tNotN (tCall (spOf (R_safe_walk K C)) [] E0 (tCons (tVar 0) (tCons (tVar 1) (tCons (tVar 2) (tCons (tVar 3) (tCons (tVar 5) (tCons (tVar 4) tNil))))))))) (tVar 5) [5]) [some l, some w, some s, some b, some (.int m0), none] H2 ((Pt.places.filterMap f).map .str) :=
    en_lc (eb := PyData.str) (ea := PyData.str) (ei_tup (ed_fld T.cl T.np (ev_var (i := 0) rfl) hl2.p)) f no_str (by omega) fun a x Hb ha e hx => by
      have ex := dp_str hx
      subst ex
      refine ⟨_, gs_name, rfl, ?_⟩
      have hcall : EvP (tCall (spOf (R_safe_walk K C)) [] E0 (tCons (tVar 0) (tCons (tVar 1) (tCons (tVar 2) (tCons (tVar 3) (tCons (tVar 5) (tCons (tVar 4) tNil))))))) [some l, some w, some s, some b, some (.int m0), some (.str a)] Hb
          (fun v H' => ∃ F, IsFast Pt.winds Pt.links W S B F ∧ ((v = .non ∧ ¬ Esc Pt.paths F a m0) ∨ ∃ rows, Dp K H' v (rowsD rows) ∧ SafeRows Pt.paths F rows ∧ rows.length ≤ 1000 ∧ rows[0]? = some (a, m0))) :=
        ep_own (ea_cons (ev_var (i := 0) rfl) (ea_cons (ev_var (i := 1) rfl) (ea_cons (ev_var (i := 2) rfl) (ea_cons (ev_var (i := 3) rfl) (ea_cons (ev_var (i := 5) rfl) (ea_cons (ev_var (i := 4) rfl) ea_nil)))))) fun H3 e3 =>
          ⟨_, ⟨l, w, s, b, a, m0, Pt, W, S, B, rfl, g, gw, gS, gB, (hl2.up e).up e3, ((hw.up e12).up e).up e3, ((hs.up e12).up e).up e3, ((hb.up e12).up e).up e3, ha, hm0, rfl⟩, fun _ _ _ h => h⟩
      by_cases c : ∃ F, IsFast Pt.winds Pt.links W S B F ∧ Esc Pt.paths F a m0
      · refine ⟨true, et_B (ev_notNP hcall fun v H3 hv => ?_), fun _ => ⟨a, f1 a c, ed_str (ev_var (i := 5) rfl)⟩, fun z => by cases z⟩
        obtain ⟨F, hF, hE⟩ := c
        obtain ⟨F', hF', hv⟩ := hv
        have eF := fast_unique hF hF'
        subst eF
        rcases hv with ⟨_, hn⟩ | ⟨rows, hd, _⟩
        · exact absurd hE hn
        · obtain ⟨_, _, ev, _⟩ := dp_lst hd
          rw [ev]
          rfl
      · refine ⟨false, et_B (ev_notNP hcall fun v H3 hv => ?_), fun z => (by cases z), fun _ => f2 a c⟩
        obtain ⟨F', hF', hv⟩ := hv
        rcases hv with ⟨ev, _⟩ | ⟨rows, hd, hs, _, h0⟩
        · rw [ev]
          rfl
        · exact absurd ⟨F', hF', hs.esc g h0⟩ c
  refine s_retD hlc.toD fun v H3 e3 hv => q _ _ (e12.trans e3) ⟨_, hv, fun p hp F hF hE => List.mem_filterMap.mpr ⟨p, hp, f1 p ⟨F, hF, hE⟩⟩⟩
/-- a pair of pairs -/
theorem gs_pp {σ : L2.St} {H : Hp} {x : V} {a b : Str × Int} {i1 i2 i3 i4 : Nat} (hx : Dp K H x (.tuple [rowD a, rowD b])) :
    GSet (gTup K 2 (gCons (gTup K 2 (gCons (gName i1) (gCons (gName i2) gNil))) (gCons (gTup K 2 (gCons (gName i3) (gCons (gName i4) gNil))) gNil))) x σ H ((((σ.set i1 (some (.str a.1))).set i2 (some (.int a.2))).set i3 (some (.str b.1))).set i4 (some (.int b.2))) := by
  obtain ⟨v1, v2, d1, d2, hg⟩ := gs_pair (g1 := gTup K 2 (gCons (gName i1) (gCons (gName i2) gNil))) (g2 := gTup K 2 (gCons (gName i3) (gCons (gName i4) gNil))) hx
  obtain ⟨u1, u2, k1, k2, hg1⟩ := gs_pair (g1 := gName i1) (g2 := gName i2) d1
  obtain ⟨u3, u4, k3, k4, hg2⟩ := gs_pair (g1 := gName i3) (g2 := gName i4) d2
  have x1 := dp_str k1
  have x2 := dp_int k2
  have x3 := dp_str k3
  have x4 := dp_int k4
  subst x1 x2 x3 x4
  exact hg (hg1 gs_name gs_name) (hg2 gs_name gs_name)
theorem p_is_safe_walk (T : LTx K C) : PureOk (R_is_safe_walk K C) (t_is_safe_walk K C) N_is_safe_walk := by
  rintro vs H P Q ⟨l, w, s, b, r, Pt, W, S, B, rows, rfl, g, gw, gS, gB, hl, hw, hs, hb, hr, gr, hrl, rfl⟩ q
  show t_is_safe_walk K C (endQ Q) [some l, some w, some s, some b, some r, none, none, none, none, none, none, none, none] H
  refine q_drop (ev_asked (K := K) (C := C) (rs := rows) gw gS gB gr hl hw hs hb rfl rfl rfl rfl (ed_var (i := 4) rfl hr)) fun H1 e1 => ?_
  refine q_asgP (ep_spread (K := K) (C := C) g gw gS gB (hl.up e1) (hw.up e1) (hs.up e1) (hb.up e1) rfl rfl rfl rfl) fun v H2 e2 hv => ?_
  obtain ⟨fl, ⟨af, rfl, haf⟩, hF⟩ := hv
  have e12 := e1.trans e2
  show tSeq _ _ _ [some l, some w, some s, some b, some r, some (.ref af), none, none, none, none, none, none, none] H2
  have no : ∀ H', Ex H H' → Q (.bl false) H' := fun H' e => q _ _ e ⟨false, lk fl, rfl, hF, fun z => by cases z⟩
  have hr2 := hr.up e12
  have hv4 : EvD K (tVar 4) [some l, some w, some s, some b, some r, some (.ref af), none, none, none, none, none, none, none] H2 (rowsD rows) := ed_var (i := 4) rfl hr2
  cases hrows : rows with
  | nil =>
    have t1 := et_not (et_lst (K := K) hv4)
    rw [hrows] at t1
    refine q_when (et_or (a := true) (b := true) t1 fun z => by cases z) (fun _ H3 e3 => s_ret ev_c fun H4 e4 => no _ ((e12.trans e3).trans e4)) fun z => by cases z
  | cons a rest =>
    have t1 := et_not (et_lst (K := K) hv4)
    rw [hrows] at t1
    have hla : rows[rows.length - 1]? = some (rows[rows.length - 1]'(by rw [hrows]; simp)) := List.getElem?_eq_getElem _
    generalize rows[rows.length - 1]'(by rw [hrows]; simp) = z at hla
    have t2 := ev_I (g := fun i j => .bl (decide (i < j))) (ev_int (ed_ixT (ds := [.str a.1, .int a.2]) (ed_ixL (d := rowD a) hv4 (ev_c (v := .int 0)) (atI_of (i := 0) (by rw [hrows]; rfl))) (ev_c (v := .int 1)) (atI_of (i := 1) rfl))) (ev_c (v := .int 0))
    have hlast : atI (rows.map rowD) (-1) = some (rowD z) := atI_last (by rw [List.getLast?_map, List.getLast?_eq_getElem?, hla]; rfl)
    have t3 := ev_dinI (ev_str (ed_ixT (ds := [.str z.1, .int z.2]) (ed_ixL (d := rowD z) hv4 (ev_neg (ev_c (v := .int 1))) hlast) (ev_c (v := .int 0)) (atI_of (i := 0) rfl))) (ev_var (v := .ref af) (i := 5) rfl) haf
    refine q_when (et_or (a := false) t1 fun _ => et_or (et_test t2) fun _ => et_B t3) (fun _ H3 e3 => s_ret ev_c fun H4 e4 => no _ ((e12.trans e3).trans e4)) fun hc H3 e3 => ?_
    have hc2 : (decide (a.2 < 0) || (lk fl z.1).isSome) = false := by simpa using hc
    obtain ⟨c1, c2⟩ := Bool.or_eq_false_iff.mp hc2
    have ha0 : 0 ≤ a.2 := by
      have := of_decide_eq_false c1
      omega
    have hz0 : lk fl z.1 = none := by
      cases y : lk fl z.1 with
      | none => rfl
      | some u => rw [y] at c2; cases c2
    have e13 := e12.trans e3
    have hr3 := hr.up e13
    have haf3 := e3 _ _ haf
    have hl3 := hl.up e13
    have k4 := ev_any (K := K) (EvN.toD (en_map (eb := PyData.bool) (ei_list (ed_var (σ := [some l, some w, some s, some b, some r, some (.ref af), none, none, none, none, none, none, none]) (H := H3) (i := 4) rfl hr3)) (fun p : Str × Int => !aheadB fl p.1 p.2) no_bool (vs := [11, 12]) (g := gTup K 2 (gCons (gName 11) (gCons (gName 12) gNil))) (te := tAndV (tDIn (tVar 11) (tVar 5)) (tOp rGe (tVar 12) (tDGet (tVar 5) (tVar 11)))) (by omega) fun p x Hb hp e hx => by
      obtain ⟨v1, v2, d1, d2, hg⟩ := gs_pair (g1 := gName 11) (g2 := gName 12) hx
      have x1 := dp_str d1
      have x2 := dp_int d2
      subst x1 x2
      refine ⟨_, hg gs_name gs_name, rfl, ed_bl ?_⟩
      have j1 := ev_dinI (l := fl) (ta := tVar 11) (td := tVar 5) (σ := [some l, some w, some s, some b, some r, some (.ref af), none, none, none, none, none, some (.str p.1), some (.int p.2)]) (p := p.1) (ev_var rfl) (ev_var rfl) (e _ _ haf3)
      cases hy : lk fl p.1 with
      | none =>
        rw [hy] at j1
        exact ev_is (ev_andV (a := false) (b := false) j1 fun z => by cases z) (by unfold aheadB; rw [hy]; rfl)
      | some y =>
        rw [hy] at j1
        refine ev_is (ev_andV (a := true) (b := decide (y ≤ p.2)) j1 fun _ => ev_I (g := fun i j => .bl (decide (j ≤ i))) (ev_var rfl) (ev_dgetI (ev_var rfl) (ev_var rfl) (e _ _ haf3) hy)) ?_
        unfold aheadB
        rw [hy]
        show V.bl (true && decide (y ≤ p.2)) = .bl (!decide (p.2 < y))
        congr 1
        by_cases c : p.2 < y
        · rw [decide_eq_true c, decide_eq_false (by omega)]; rfl
        · rw [decide_eq_false c, decide_eq_true (by omega)]; rfl))
    refine q_when (et_B k4) (fun _ H4 e4 => s_ret ev_c fun H5 e5 => no _ ((e13.trans e4).trans e5)) fun hc3 H4 e4 => ?_
    have hfree : ∀ x ∈ rows, Free (lk fl) x.1 x.2 := fun x hx => by
      rw [List.any_map] at hc3
      have := List.any_eq_false.mp hc3 x hx
      have h2 : aheadB fl x.1 x.2 = true := by
        cases h3 : aheadB fl x.1 x.2 with
        | true => rfl
        | false =>
          exfalso
          apply this
          show id (!aheadB fl x.1 x.2) = true
          rw [h3]
          rfl
      exact aheadB_iff.mp h2
    have e14 := e13.trans e4
    have hv44 : EvD K (tVar 4) [some l, some w, some s, some b, some r, some (.ref af), none, none, none, none, none, none, none] H4 (rowsD rows) := ed_var (i := 4) rfl (hr.up e14)
    have hsl := en_slL (K := K) (tl := tPart (tC (.int 1))) (th := tNoPart) hv44 (eo_some (ev_c (v := .int 1))) eo_none
    have ecut := cut_drop (ds := rows.map rowD) (i := 1) (by rw [hrows]; simp)
    rw [show cutD (rows.map rowD) (some 1) none = (rows.drop 1).map rowD by rw [List.map_drop]; exact ecut] at hsl
    refine q_forN (K := K) (as := rows.zip (rows.drop 1)) (ea := fun p : (Str × Int) × (Str × Int) => .tuple [rowD p.1, rowD p.2]) (ei_zip (ea := rowD) (eb := rowD) hv44 hsl.toD)
      (fun H5 i σ' H' => (∃ z6 z7 z8 z9 z10 : Option V, σ' = [some l, some w, some s, some b, some r, some (.ref af), z6, z7, z8, z9, z10, none, none]) ∧ Ex H5 H' ∧ Ex H4 H' ∧ ∀ j x y, j < i → rows[j]? = some x → rows[j + 1]? = some y → StepOk Pt.paths (lk fl) x y)
      (fun H5 e5 => ⟨⟨_, _, _, _, _, rfl⟩, Ex.refl _, e5, fun j x y hj => absurd hj (Nat.not_lt_zero _)⟩) (fun H5 i σ' H' hP => hP.2.1) (fun H5 i p x σ' H' Hb hi hP eb hx => ?_) fun H5 σ' H' hP => ?_
    · obtain ⟨⟨z6, z7, z8, z9, z10, rfl⟩, e5, e6, hst⟩ := hP
      obtain ⟨hi1, hi2⟩ := zip_next.mp hi
      refine ⟨_, gs_pp hx, ?_⟩
      have e7 := (e14.trans e6).trans eb
      have hafb := eb _ _ (e6 _ _ (e4 _ _ haf3))
      show tSeq _ _ _ [some l, some w, some s, some b, some r, some (.ref af), some (.str p.1.1), some (.int p.1.2), some (.str p.2.1), some (.int p.2.2), z10, none, none] Hb
      have hlb := hl.up e7
      refine q_asg (ev_meth (z := optV (lk (walksM Pt.paths p.1.1) p.2.1)) (ev_var (i := 0) rfl) hlb.p.o7 (ea_cons (ev_var (i := 6) rfl) (ea_cons (ev_var (i := 8) rfl) ea_nil)) fun H6 e8 => ⟨l, Pt, p.1.1, p.2.1, rfl, g, hlb.up e8, gr _ (List.mem_of_getElem? hi1), gr _ (List.mem_of_getElem? hi2), rfl⟩) fun H6 e8 => ?_
      show tSeq _ _ _ [some l, some w, some s, some b, some r, some (.ref af), some (.str p.1.1), some (.int p.1.2), some (.str p.2.1), some (.int p.2.2), some (optV (lk (walksM Pt.paths p.1.1) p.2.1)), none, none] H6
      cases hd : lk (walksM Pt.paths p.1.1) p.2.1 with
      | none =>
        exact q_when (et_or (a := true) (b := true) (et_BT (ev_isN (ev_var (v := .non) (i := 10) rfl)) rfl) fun z => by cases z) (fun _ H7 e9 => s_ret ev_c fun H8 e10 => no _ (((e7.trans e8).trans e9).trans e10)) fun z => by cases z
      | some d =>
        have u1 := ev_I (g := fun i j => .bl (decide (i < j))) (ta := tVar 9) (tb := tOp rAddI (tVar 7) (tVar 10)) (σ := [some l, some w, some s, some b, some r, some (.ref af), some (.str p.1.1), some (.int p.1.2), some (.str p.2.1), some (.int p.2.2), some (.int d), none, none]) (H := H6) (i := p.2.2) (ev_var rfl) (ev_I (g := fun i j => .int (i + j)) (i := p.1.2) (j := d) (ev_var rfl) (ev_var rfl))
        refine q_when (et_or (a := false) (et_BT (ev_isN (ev_var (v := .int d) (i := 10) rfl)) rfl) fun _ => et_test u1) (fun _ H7 e9 => s_ret ev_c fun H8 e10 => no _ (((e7.trans e8).trans e9).trans e10)) fun hc5 H7 e9 => ?_
        have hc6 : decide (p.2.2 < p.1.2 + d) = false := by simpa using hc5
        have hle := of_decide_eq_false hc6
        have haf7 := e9 _ _ (e8 _ _ hafb)
        have u2 := ev_dinI (l := fl) (ta := tVar 6) (td := tVar 5) (σ := [some l, some w, some s, some b, some r, some (.ref af), some (.str p.1.1), some (.int p.1.2), some (.str p.2.1), some (.int p.2.2), some (.int d), none, none]) (p := p.1.1) (ev_var rfl) (ev_var rfl) haf7
        have fin : ∀ H8, Ex H7 H8 → Free (lk fl) p.1.1 (p.2.2 - d) → (∃ z6 z7 z8 z9 z10 : Option V, ([some l, some w, some s, some b, some r, some (.ref af), some (.str p.1.1), some (.int p.1.2), some (.str p.2.1), some (.int p.2.2), some (.int d), none, none] : L2.St) = [some l, some w, some s, some b, some r, some (.ref af), z6, z7, z8, z9, z10, none, none]) ∧ Ex H5 H8 ∧ Ex H4 H8 ∧ ∀ j x y, j < i + 1 → rows[j]? = some x → rows[j + 1]? = some y → StepOk Pt.paths (lk fl) x y := fun H8 e10 hfr => by
          refine ⟨⟨_, _, _, _, _, rfl⟩, (((e5.trans eb).trans e8).trans e9).trans e10, (((e6.trans eb).trans e8).trans e9).trans e10, fun j x y hj hx hy => ?_⟩
          rcases Nat.lt_succ_iff_lt_or_eq.mp hj with h | h
          · exact hst j x y h hx hy
          · subst h
            rw [hi1] at hx
            rw [hi2] at hy
            cases hx
            cases hy
            exact ⟨d, hd, by omega, hfr⟩
        cases hy : lk fl p.1.1 with
        | none =>
          rw [hy] at u2
          exact s_when (et_and (a := false) (b := false) (et_B u2) fun z => by cases z) (fun z => by cases z) fun _ H8 e10 => fin H8 e10 fun f hf => by rw [hy] at hf; cases hf
        | some y =>
          rw [hy] at u2
          have u3 := ev_I (g := fun i j => .bl (decide (j ≤ i))) (ta := tOp rSubI (tVar 9) (tVar 10)) (tb := tDGet (tVar 5) (tVar 6)) (σ := [some l, some w, some s, some b, some r, some (.ref af), some (.str p.1.1), some (.int p.1.2), some (.str p.2.1), some (.int p.2.2), some (.int d), none, none]) (H := H7) (j := y) (ev_I (g := fun i j => .int (i - j)) (i := p.2.2) (j := d) (ev_var rfl) (ev_var rfl)) (ev_dgetI (p := p.1.1) (ev_var rfl) (ev_var rfl) haf7 hy)
          refine s_when (et_and (a := true) (et_B u2) fun _ => et_test u3) (fun _ H8 e10 => s_ret ev_c fun H9 e11 => no _ ((((e7.trans e8).trans e9).trans e10).trans e11)) fun hc7 H8 e10 => fin H8 e10 fun f hf => ?_
          rw [hy] at hf
          cases hf
          have hc8 : decide (y ≤ p.2.2 - d) = false := by simpa using hc7
          have := of_decide_eq_false hc8
          omega
    · obtain ⟨⟨z6, z7, z8, z9, z10, rfl⟩, e5, e6, hst⟩ := hP
      refine s_ret ev_c fun H6 e7 => q _ _ ((e14.trans e6).trans e7) ⟨true, lk fl, rfl, hF, fun _ => ?_⟩
      have hst2 : ∀ (i : Nat) x y, rows[i]? = some x → rows[i + 1]? = some y → StepOk Pt.paths (lk fl) x y := fun i x y hx hy => by
        refine hst i x y ?_ hx hy
        exact get_lt (zip_next.mpr ⟨hx, hy⟩)
      have hnn := steps_nn g (F := lk fl) (rows := rows) (fun x hx => by
        rw [hrows] at hx
        cases hx
        exact ha0) hst2
      refine ⟨by rw [hrows]; exact List.cons_ne_nil _ _, fun x hx => ?_, fun x hx => ?_, hfree, hst2⟩
      · rw [hla] at hx
        cases hx
        exact hz0
      · obtain ⟨i, hi⟩ := List.mem_iff_getElem?.mp hx
        exact hnn i x hi
end
end Ef
/-! ==== EfM6 -/
set_option Elab.async false
set_option linter.all false
/-! Plain lemmas of the law's defs. -/
namespace Ef
open PySem L2 Evl
theorem windM_snoc (t : Int) (W : Wea) (r : Int × Str) (d : Str) : windM (W ++ [r]) t d = if r.1 ≤ t then r.2 else windM W t d := by
  unfold windM
  rw [List.foldl_append]
  rfl
theorem lmin_snoc (l : List Int) (e : Int) : lmin (l ++ [e]) = some (match lmin l with | none => e | some a => if e < a then e else a) := by
  cases l with
  | nil => rfl
  | cons n ms =>
    show some ((ms ++ [e]).foldl (fun a y => if y < a then y else a) n) = some (if e < ms.foldl (fun a y => if y < a then y else a) n then e else ms.foldl (fun a y => if y < a then y else a) n)
    rw [List.foldl_append]
    rfl
theorem lk_fm {l : List (Str × Int)} {q : Str} {d : Int} (h : lk l q = some d) : ∃ r, (l.filterMap fun w => if w.1 = q then some w.2 else none) = d :: r := by
  induction l with
  | nil => cases h
  | cons a l ih =>
    rw [lk_cons] at h
    by_cases c : a.1 = q
    · rw [if_pos c] at h
      cases h
      exact ⟨_, List.filterMap_cons_some (if_pos c)⟩
    · rw [if_neg c] at h
      obtain ⟨r, hr⟩ := ih h
      exact ⟨r, by rw [List.filterMap_cons, if_neg c]; exact hr⟩
theorem emod_rng {i m : Int} (h : 0 < m) : 0 ≤ i % m ∧ i % m < m := ⟨Int.emod_nonneg i (by omega), Int.emod_lt_of_pos i h⟩
end Ef
/-! ==== EfP9 -/
set_option Elab.async false
set_option linter.all false
set_option maxRecDepth 100000
set_option maxHeartbeats 4000000
/-! The law's defs, first part. -/
namespace Ef
open PySem L2 Evl
section
variable {K : Frg} {C : Addr}
section
variable {σ : L2.St} {H : Hp} {ta tb : TE} {v : V} {P : Parts} {i j : Int}
theorem pt_0 (hv : Ev ta σ H v) (h : PartsAt K H v P) : ∃ x, Ev (tOp (rIxL K) ta (tC (.int 0))) σ H x ∧ Dp K H x (.tuple (P.winds.map .str)) ∧ NoDk H x := by
  obtain ⟨a, x1, x2, x3, x4, rfl, h2, h3, h4, h5, h6, h7⟩ := h
  exact ⟨x1, ev_op hv ev_c (rv_ixL h2 (atI_of (i := 0) rfl)), h4, h3⟩
theorem pt_1 (hv : Ev ta σ H v) (h : PartsAt K H v P) : ∃ x, Ev (tOp (rIxL K) ta (tC (.int 1))) σ H x ∧ Dp K H x (.tuple (P.places.map .str)) := by
  obtain ⟨a, x1, x2, x3, x4, rfl, h2, h3, h4, h5, h6, h7⟩ := h
  exact ⟨x2, ev_op hv ev_c (rv_ixL h2 (atI_of (i := 1) rfl)), h5⟩
theorem pt_2 (hv : Ev ta σ H v) (h : PartsAt K H v P) : ∃ x, Ev (tOp (rIxL K) ta (tC (.int 2))) σ H x ∧ Dp K H x (.tuple (P.links.map linkD)) := by
  obtain ⟨a, x1, x2, x3, x4, rfl, h2, h3, h4, h5, h6, h7⟩ := h
  exact ⟨x3, ev_op hv ev_c (rv_ixL h2 (atI_of (i := 2) rfl)), h6⟩
theorem pt_3 (hv : Ev ta σ H v) (h : PartsAt K H v P) : ∃ x, Ev (tOp (rIxL K) ta (tC (.int 3))) σ H x ∧ Dp K H x (.tuple (P.paths.map pathD)) := by
  obtain ⟨a, x1, x2, x3, x4, rfl, h2, h3, h4, h5, h6, h7⟩ := h
  exact ⟨x4, ev_op hv ev_c (rv_ixL h2 (atI_of (i := 3) rfl)), h7⟩
/-- sums and the like -/
theorem ev_add (ha : Ev ta σ H (.int i)) (hb : Ev tb σ H (.int j)) : Ev (tOp rAddI ta tb) σ H (.int (i + j)) := ev_I (g := fun i j => .int (i + j)) ha hb
theorem ev_sub (ha : Ev ta σ H (.int i)) (hb : Ev tb σ H (.int j)) : Ev (tOp rSubI ta tb) σ H (.int (i - j)) := ev_I (g := fun i j => .int (i - j)) ha hb
theorem ev_mul (ha : Ev ta σ H (.int i)) (hb : Ev tb σ H (.int j)) (h : CMul i j) : Ev (tOp rMulI ta tb) σ H (.int (i * j)) := ev_IC (g := fun i j => .int (i * j)) ha hb h
theorem ev_mod (ha : Ev ta σ H (.int i)) (hb : Ev tb σ H (.int j)) (h : 0 < j) : Ev (tOp rModI ta tb) σ H (.int (i % j)) := ev_IC (g := fun i j => .int (i % j)) ha hb h
theorem ev_div (ha : Ev ta σ H (.int i)) (hb : Ev tb σ H (.int j)) (h : CDiv i j) : Ev (tOp rDivI ta tb) σ H (.int (i / j)) := ev_IC (g := fun i j => .int (i / j)) ha hb h
theorem ev_lt (ha : Ev ta σ H (.int i)) (hb : Ev tb σ H (.int j)) : Ev (tOp rLt ta tb) σ H (.bl (decide (i < j))) := ev_I (g := fun i j => .bl (decide (i < j))) ha hb
theorem ev_le (ha : Ev ta σ H (.int i)) (hb : Ev tb σ H (.int j)) : Ev (tOp rLe ta tb) σ H (.bl (decide (i ≤ j))) := ev_I (g := fun i j => .bl (decide (i ≤ j))) ha hb
theorem ev_gt (ha : Ev ta σ H (.int i)) (hb : Ev tb σ H (.int j)) : Ev (tOp rGt ta tb) σ H (.bl (decide (j < i))) := ev_I (g := fun i j => .bl (decide (j < i))) ha hb
theorem ev_ge (ha : Ev ta σ H (.int i)) (hb : Ev tb σ H (.int j)) : Ev (tOp rGe ta tb) σ H (.bl (decide (j ≤ i))) := ev_I (g := fun i j => .bl (decide (j ≤ i))) ha hb
theorem ev_eqI (ha : Ev ta σ H (.int i)) (hb : Ev tb σ H (.int j)) : Ev (tOp rEq ta tb) σ H (.bl (decide (i = j))) := by
  have h := ev_eq ha hb (show scal (.int i) (.int j) = true from rfl)
  rw [dec_int] at h
  exact h
theorem ev_eqS {s t : Str} (ha : Ev ta σ H (.str s)) (hb : Ev tb σ H (.str t)) : Ev (tOp rEq ta tb) σ H (.bl (decide (s = t))) := by
  have h := ev_eq ha hb (show scal (.str s) (.str t) = true from rfl)
  rw [dec_str] at h
  exact h
/-- an item of drawn numbers -/
theorem ev_num {s : V} {ns : List Int} {k : Nat} (hs : Dp K H s (intsD ns)) (hN : Nums ns) (hv : Ev ta σ H s) (hi : Ev tb σ H (.int (k : Int))) (hk : k < 200) : ∃ n, Ev (tOp (rIxL K) ta tb) σ H (.int n) ∧ 0 ≤ n ∧ n < 1009 := by
  have hl : k < ns.length := by rw [hN.1]; exact hk
  refine ⟨ns[k], ev_int (ed_ixL (evd_of hv hs) hi (atI_of (v := PyData.int ns[k]) (by rw [List.getElem?_map, List.getElem?_eq_getElem hl]; rfl))), hN.2 _ (List.getElem_mem hl)⟩
end
theorem p_Lpick : PureOk (R_Lpick K C) (t_Lpick K C) N_Lpick := by
  rintro vs H P Q ⟨s, ns, i, most, rfl, hs, hN, hi, hm, rfl⟩ q
  show t_Lpick K C (endQ Q) [some s, some (.int (i : Nat)), some (.int most)] H
  obtain ⟨n, hn, _⟩ := ev_num (σ := [some s, some (.int (i : Nat)), some (.int most)]) (ta := tVar 0) (tb := tVar 1) hs hN (ev_var rfl) (ev_var rfl) hi
  exact s_ret (ev_mod (ev_int1 hn) (ev_var (i := 2) rfl) hm) fun H1 e1 => q _ _ e1 ⟨_, rfl, emod_rng hm⟩
theorem p_Lwalks : PureOk (R_Lwalks K C) (t_Lwalks K C) N_Lwalks := by
  rintro vs H P Q ⟨pp, Pt, s, rfl, hp, g, rfl⟩ q
  show t_Lwalks K C (endQ Q) [some pp, some (.str s), none, none, none, none] H
  refine q_acc0 (K := K) fun p H1 hp1 e1 acc => ?_
  show tSeq _ _ _ [some pp, some (.str s), some (.ref p), none, none, none] H1
  obtain ⟨x, hx, hxd⟩ := pt_3 (ev_var (σ := [some pp, some (.str s), some (.ref p), none, none, none]) (i := 0) (H := H) rfl) hp
  have gh := g.h2
  refine q_for0 (K := K) (ea := pathD) (as := Pt.paths) (H0 := H) (ei_tup0 (K := K) hx hxd) e1 (fun i σ' H' => ∃ z1 z2 z3 : Option V, σ' = [some pp, some (.str s), some (.ref p), z1, z2, z3] ∧ Acc K H p pairD ((Pt.paths.take i).filterMap (walkOf s)) H')
    (fun H3 e3 => ⟨none, none, none, rfl, (acc _ pairD).up e3⟩) (fun i σ' H' hP => ?_) (fun i a x σ' H' Hb hi hP eb hx => ?_) (fun σ' H' hP => ?_)
  · obtain ⟨_, _, _, _, A⟩ := hP
    exact A.ex
  · obtain ⟨z1, z2, z3, rfl, A⟩ := hP
    have A2 := A.up eb
    obtain ⟨v1, v2, v3, d1, d2, d3, hg⟩ := gs_trip (g1 := gName 3) (g2 := gName 4) (g3 := gName 5) hx
    have x1 := dp_str d1
    have x2 := dp_str d2
    have x3 := dp_int d3
    subst x1 x2 x3
    refine ⟨_, hg gs_name gs_name gs_name, ?_⟩
    have hlen : ((Pt.paths.take i).filterMap (walkOf s)).length < 1000 := by
      have h1 := List.length_filterMap_le (walkOf s) (Pt.paths.take i)
      rw [List.length_take] at h1
      omega
    have ne := (g.he a (List.mem_of_getElem? hi)).2.2
    show tSeq _ _ _ [some pp, some (.str s), some (.ref p), some (.str a.1), some (.str a.2.1), some (.int a.2.2)] Hb
    have k1 := ev_eqS (ev_var (σ := [some pp, some (.str s), some (.ref p), some (.str a.1), some (.str a.2.1), some (.int a.2.2)]) (H := Hb) (v := .str a.1) (i := 3) rfl) (ev_var (v := .str s) (i := 1) rfl)
    have k2 : ∀ H3, Ex Hb H3 → Ev (tOp rEq (tVar 4) (tVar 1)) [some pp, some (.str s), some (.ref p), some (.str a.1), some (.str a.2.1), some (.int a.2.2)] H3 (.bl (decide (a.2.1 = s))) := fun H3 _ => ev_eqS (ev_var rfl) (ev_var rfl)
    by_cases c1 : a.1 = s
    · rw [decide_eq_true c1] at k1
      have c2 : ¬ a.2.1 = s := fun z => ne (c1.trans z.symm)
      have e5 : walkOf s a = some (a.2.1, a.2.2) := if_pos c1.symm
      refine q_when (et_test k1) (fun _ H3 e3 => ?_) (fun z => by cases z)
      refine s_acc (A2.up e3) no_pair (ev_var (i := 2) rfl) (b := (a.2.1, a.2.2)) (ed_tup (eda_cons (ed_str (ev_var (i := 4) rfl)) (eda_cons (ed_int (ev_var (i := 5) rfl)) eda_nil)) (by simp)) (by omega) fun H4 A4 _ => ?_
      have k3 : Ev (tOp rEq (tVar 4) (tVar 1)) [some pp, some (.str s), some (.ref p), some (.str a.1), some (.str a.2.1), some (.int a.2.2)] H4 (.bl (decide (a.2.1 = s))) := ev_eqS (ev_var rfl) (ev_var rfl)
      rw [decide_eq_false c2] at k3
      refine s_when (et_test k3) (fun z => by cases z) fun _ H5 e5' => ⟨_, _, _, rfl, ?_⟩
      rw [fm_take hi, e5]
      exact A4.up e5'
    · rw [decide_eq_false c1] at k1
      refine q_when (et_test k1) (fun z => by cases z) fun _ H3 e3 => ?_
      have k3 := k2 H3 e3
      by_cases c2 : a.2.1 = s
      · rw [decide_eq_true c2] at k3
        have e5 : walkOf s a = some (a.1, a.2.2) := (if_neg (fun z => c1 z.symm)).trans (if_pos c2.symm)
        refine s_when (et_test k3) (fun _ H4 e4 => ?_) (fun z => by cases z)
        refine s_acc ((A2.up e3).up e4) no_pair (ev_var (i := 2) rfl) (b := (a.1, a.2.2)) (ed_tup (eda_cons (ed_str (ev_var (i := 3) rfl)) (eda_cons (ed_int (ev_var (i := 5) rfl)) eda_nil)) (by simp)) (by omega) fun H4 A4 _ => ⟨_, _, _, rfl, ?_⟩
        rw [fm_take hi, e5]
        exact A4
      · rw [decide_eq_false c2] at k3
        have e5 : walkOf s a = none := (if_neg (fun z => c1 z.symm)).trans (if_neg (fun z => c2 z.symm))
        refine s_when (et_test k3) (fun z => by cases z) fun _ H4 e4 => ⟨_, _, _, rfl, ?_⟩
        rw [fm_take hi, e5]
        show Acc K H p pairD (_ ++ []) H4
        rw [List.append_nil]
        exact (A2.up e3).up e4
  · obtain ⟨z1, z2, z3, rfl, A⟩ := hP
    rw [List.take_length] at A
    exact s_retD (ed_var (i := 2) rfl A.dp) fun w H3 e3 hw => q _ _ (A.ex.trans e3) hw
theorem p_Lwind : PureOk (R_Lwind K C) (t_Lwind K C) N_Lwind := by
  rintro vs H P Q ⟨pp, w, Pt, W, t, rfl, hp, hw, gw, rfl⟩ q
  show t_Lwind K C (endQ Q) [some pp, some w, some (.int t), none, none] H
  obtain ⟨d, W', eW⟩ := gw.z
  have h0 : Ev (tOp (rIxT K) (tOp (rIxL K) (tVar 1) (tC (.int 0))) (tC (.int 1))) [some pp, some w, some (.int t), none, none] H (.str d) :=
    ev_str (ed_ixT (ds := [.int 0, .str d]) (ed_ixL (d := wrowD (0, d)) (ed_var (i := 1) rfl hw) (ev_c (v := .int 0)) (atI_of (i := 0) (by rw [eW]; rfl))) (ev_c (v := .int 1)) (atI_of (i := 1) rfl))
  refine q_asg h0 fun H1 e1 => ?_
  show tSeq _ _ _ [some pp, some w, some (.int t), some (.str d), none] H1
  refine q_for0 (K := K) (ea := wrowD) (as := W) (H0 := H) (ei_list0 (K := K) (ev_var (i := 1) rfl) hw) e1 (fun i σ' H' => (∃ z : Option V, σ' = [some pp, some w, some (.int t), some (.str (windM (W.take i) t d)), z]) ∧ Ex H H') (fun H3 e3 => ⟨⟨none, rfl⟩, e1.trans e3⟩) (fun i σ' H' hP => hP.2) (fun i a x σ' H' Hb hi hP eb hx => ?_) (fun σ' H' hP => ?_)
  · obtain ⟨⟨z, rfl⟩, e⟩ := hP
    refine ⟨_, gs_name, ?_⟩
    show tIfS _ _ _ _ [some pp, some w, some (.int t), some (.str (windM (W.take i) t d)), some x] Hb
    have hxv : ∀ H3, Ex Hb H3 → EvD K (tVar 4) [some pp, some w, some (.int t), some (.str (windM (W.take i) t d)), some x] H3 (.tuple [.int a.1, .str a.2]) := fun H3 e3 => ed_var (i := 4) rfl (hx.up e3)
    have k1 := ev_le (ev_int (ed_ixT (hxv Hb (Ex.refl _)) (ev_c (v := .int 0)) (atI_of (i := 0) rfl))) (ev_var (v := .int t) (i := 2) rfl)
    refine s_when (et_test k1) (fun hc H3 e3 => ?_) (fun hc H3 e3 => ?_)
    · refine s_asg (ev_str (ed_ixT (hxv H3 e3) (ev_c (v := .int 1)) (atI_of (i := 1) rfl))) fun H4 e4 => ⟨⟨some x, ?_⟩, ((e.trans eb).trans e3).trans e4⟩
      rw [take_snoc hi, windM_snoc, if_pos (of_decide_eq_true hc)]
      rfl
    · refine ⟨⟨some x, ?_⟩, (e.trans eb).trans e3⟩
      rw [take_snoc hi, windM_snoc, if_neg (of_decide_eq_false hc)]
  · obtain ⟨⟨z, rfl⟩, e⟩ := hP
    rw [List.take_length]
    have e0 : windM W t d = wind0 W t := by
      unfold wind0
      rw [eW]
      rfl
    rw [e0]
    obtain ⟨x, hx, hxd, hxn⟩ := pt_0 (ev_var (σ := [some pp, some w, some (.int t), some (.str (wind0 W t)), z]) (v := pp) (i := 0) (H := H') rfl) (hp.up e)
    exact s_ret (ev_tix (ss := Pt.winds) (fun H3 e3 Q3 q3 => hx H3 e3 Q3 fun H4 e4 => q3 _ _ e4 ⟨hxd.up (e3.trans e4), hxn.up (e3.trans e4)⟩) (ev_var (i := 3) rfl) (wind_mem gw t)) fun H3 e3 => q _ _ (e.trans e3) rfl
theorem p_Lcaught : PureOk (R_Lcaught K C) (t_Lcaught K C) N_Lcaught := by
  rintro vs H P Q ⟨pp, w, k, Pt, W, lnk, t, rfl, hp, hw, gw, hk, hlt, rfl⟩ q
  show t_Lcaught K C (endQ Q) [some pp, some w, some k, some (.int t), some (.int 0), none, none, none, none] H
  refine q_asg (ev_c (v := .non)) fun H1 e1 => ?_
  show tSeq _ _ _ [some pp, some w, some k, some (.int t), some (.int 0), some .non, none, none, none] H1
  have gl := gw.len
  have h1 : EvN K (tLc (iList K (tVar 1)) (gName 8) (tTest (tOp rGt (tOp (rIxT K) (tVar 8) (tC (.int 0))) (tVar 3))) (tOp (rIxT K) (tVar 8) (tC (.int 0))) [8]) [some pp, some w, some k, some (.int t), some (.int 0), some .non, none, none, none] H1 ((W.filterMap fun r => if t < r.1 then some r.1 else none).map .int) :=
    en_lc (eb := PyData.int) (ea := wrowD) (ei_list (ed_var (i := 1) rfl (hw.up e1))) _ no_int (by omega) fun a x Hb ha e hx => by
      have hxv : EvD K (tVar 8) [some pp, some w, some k, some (.int t), some (.int 0), some .non, none, none, some x] Hb (.tuple [.int a.1, .str a.2]) := ed_var (i := 8) rfl hx
      have hi := ed_ixT hxv (ev_c (v := .int 0)) (atI_of (i := 0) rfl)
      exact ⟨_, gs_name, rfl, decide (t < a.1), et_test (ev_gt (ev_int hi) (ev_var (i := 3) rfl)), fun hc => ⟨a.1, if_pos (of_decide_eq_true hc), hi⟩, fun hc => if_neg (of_decide_eq_false hc)⟩
  have h2 := en_cat (en_lst (K := K) (eda_cons (ed_int (ev_var (σ := [some pp, some w, some k, some (.int t), some (.int 0), some .non, none, none, none]) (H := H1) (i := 3) rfl)) eda_nil) (by simp)) h1 (by
    have := List.length_filterMap_le (fun r : Int × Str => if t < r.1 then some r.1 else none) W
    simp only [List.length_cons, List.length_nil, List.length_map]
    omega)
  have h3 : EvD K (tOp rCat (tLst (tCons (tVar 3) tNil)) (tLc (iList K (tVar 1)) (gName 8) (tTest (tOp rGt (tOp (rIxT K) (tVar 8) (tC (.int 0))) (tVar 3))) (tOp (rIxT K) (tVar 8) (tC (.int 0))) [8])) [some pp, some w, some k, some (.int t), some (.int 0), some .non, none, none, none] H1 (.list ((chancesM W t).map .int)) := by
    rw [chances_fm]
    exact h2.toD
  refine q_forN (K := K) (ea := PyData.int) (as := chancesM W t) (ei_list h3) (fun H2 i σ' H' => (∃ z6 z7 z8 : Option V, σ' = [some pp, some w, some k, some (.int t), some (.int 0), some (optV (lmin (((chancesM W t).take i).filterMap fun s => (numAt Pt.winds W (leastRow lnk) s).map (s + ·)))), z6, z7, z8]) ∧ Ex H2 H' ∧ Ex H H')
    (fun H2 e2 => ⟨⟨none, none, none, rfl⟩, Ex.refl _, e1.trans e2⟩) (fun H2 i σ' H' hP => hP.2.1) (fun H2 i s x σ' H' Hb hi hP eb hx => ?_) (fun H2 σ' H' hP => ?_)
  · obtain ⟨⟨z6, z7, z8, rfl⟩, e2, e⟩ := hP
    have ex := dp_int hx
    subst ex
    refine ⟨_, gs_name, ?_⟩
    have eB := e.trans eb
    generalize hcl : (((chancesM W t).take i).filterMap fun s => (numAt Pt.winds W (leastRow lnk) s).map (s + ·)) = cl
    show tSeq _ _ _ [some pp, some w, some k, some (.int t), some (.int 0), some (optV (lmin cl)), some (.int s), z7, z8] Hb
    have hwv : Ev (tCall (spOf (R_Lwind K C)) [] E0 (tCons (tVar 0) (tCons (tVar 1) (tCons (tVar 6) tNil)))) [some pp, some w, some k, some (.int t), some (.int 0), some (optV (lmin cl)), some (.int s), z7, z8] Hb (.int ((Pt.winds.idxOf (wind0 W s) : Nat) : Int)) :=
      ev_own (ea_cons (ev_var (i := 0) rfl) (ea_cons (ev_var (i := 1) rfl) (ea_cons (ev_var (i := 6) rfl) ea_nil))) fun H3 e3 => ⟨pp, w, Pt, W, s, rfl, (hp.up eB).up e3, (hw.up eB).up e3, gw, rfl⟩
    have hil : Pt.winds.idxOf (wind0 W s) < lnk.times.length := by
      rw [hlt]
      exact List.idxOf_lt_length_of_mem (wind_mem gw s)
    have htm : EvD K (tOp (rIxT K) (tVar 2) (tC (.int 3))) [some pp, some w, some k, some (.int t), some (.int 0), some (optV (lmin cl)), some (.int s), z7, z8] Hb (.tuple (lnk.times.map pairO)) := ed_ixT (ed_var (d := linkD lnk) (i := 2) rfl (hk.up eB)) (ev_c (v := .int 3)) (atI_of (i := 3) rfl)
    have hbd := ed_ixT htm hwv (atI_of (v := pairO (lnk.times[Pt.winds.idxOf (wind0 W s)])) (by rw [List.getElem?_map, List.getElem?_eq_getElem hil]; rfl))
    have hnum : numAt Pt.winds W (leastRow lnk) s = (lnk.times[Pt.winds.idxOf (wind0 W s)]).map (·.1) := by
      unfold numAt leastRow
      rw [List.getElem?_map, List.getElem?_eq_getElem hil]
      rfl
    generalize lnk.times[Pt.winds.idxOf (wind0 W s)] = ob at hbd hnum
    refine q_asgD hbd fun v H3 e3 hv => ?_
    show tIfS _ _ _ _ [some pp, some w, some k, some (.int t), some (.int 0), some (optV (lmin cl)), some (.int s), some v, z8] H3
    have eC := eB.trans e3
    cases ob with
    | none =>
      have ev := dp_non hv
      subst ev
      refine s_when (b := false) (et_and (a := false) (b := false) (et_BT (ev_notN (ev_var (v := .non) (i := 7) rfl)) rfl) fun z => by cases z) (fun z => by cases z) fun _ H4 e4 => ⟨⟨some (.int s), some .non, z8, ?_⟩, ((e2.trans eb).trans e3).trans e4, eC.trans e4⟩
      rw [fm_take hi, hnum, hcl]
      show _ = [some pp, some w, some k, some (.int t), some (.int 0), some (optV (lmin (cl ++ []))), some (.int s), some .non, z8]
      rw [List.append_nil]
    | some pr =>
      have hvd : Dp K H3 v (.tuple [.int pr.1, .int pr.2]) := hv
      have hne : (!decide (v = .non)) = true := by
        obtain ⟨_, _, ev, _⟩ := dp_tup hvd
        rw [ev]
        rfl
      have sum : ∀ H4, Ex H3 H4 → Ev (tOp rAddI (tVar 6) (tOp (rIxT K) (tVar 7) (tVar 4))) [some pp, some w, some k, some (.int t), some (.int 0), some (optV (lmin cl)), some (.int s), some v, z8] H4 (.int (s + pr.1)) := fun H4 e4 =>
        ev_add (ev_var rfl) (ev_int (ed_ixT (ed_var (i := 7) rfl (hvd.up e4)) (ev_var (v := .int 0) (i := 4) rfl) (atI_of (i := 0) rfl)))
      have fin : ∀ (c : Int) (z : Option V) (H4 : Hp), lmin (cl ++ [s + pr.1]) = some c → Ex H3 H4 → (∃ z6 z7 z8 : Option V, ([some pp, some w, some k, some (.int t), some (.int 0), some (.int c), some (.int s), some v, z] : L2.St) = [some pp, some w, some k, some (.int t), some (.int 0), some (optV (lmin (((chancesM W t).take (i + 1)).filterMap fun s => (numAt Pt.winds W (leastRow lnk) s).map (s + ·)))), z6, z7, z8]) ∧ Ex H2 H4 ∧ Ex H H4 := fun c z H4 hc e4 => by
        refine ⟨⟨some (.int s), some v, z, ?_⟩, ((e2.trans eb).trans e3).trans e4, eC.trans e4⟩
        rw [fm_take hi, hnum, hcl]
        show _ = [some pp, some w, some k, some (.int t), some (.int 0), some (optV (lmin (cl ++ [s + pr.1]))), some (.int s), some v, z]
        rw [hc]
        rfl
      have ls := lmin_snoc cl (s + pr.1)
      cases hm : lmin cl with
      | none =>
        rw [hm] at ls
        rw [hm] at sum
        refine s_when (b := true) (et_and (a := true) (b := true) (et_BT (ev_notN (ev_var (v := v) (i := 7) rfl)) hne) fun _ => et_or (a := true) (b := true) (et_BT (ev_isN (ev_var (v := .non) (i := 5) rfl)) rfl) fun z => by cases z) (fun _ H4 e4 => ?_) (fun z => by cases z)
        exact s_asg (sum H4 e4) fun H5 e5 => fin _ _ H5 ls (e4.trans e5)
      | some c0 =>
        rw [hm] at ls
        rw [hm] at sum
        have hlt2 := ev_lt (sum H3 (Ex.refl _)) (ev_var (v := .int c0) (i := 5) rfl)
        refine s_when (et_and (a := true) (et_BT (ev_notN (ev_var (v := v) (i := 7) rfl)) hne) fun _ => et_or (a := false) (et_BT (ev_isN (ev_var (v := .int c0) (i := 5) rfl)) rfl) fun _ => et_test hlt2) (fun hc H4 e4 => ?_) (fun hc H4 e4 => ?_)
        · have hc2 : s + pr.1 < c0 := of_decide_eq_true (by simpa using hc)
          refine s_asg (sum H4 e4) fun H5 e5 => fin _ _ H5 ?_ (e4.trans e5)
          rw [ls]
          show some (if s + pr.1 < c0 then s + pr.1 else c0) = _
          rw [if_pos hc2]
        · have hc2 : ¬ s + pr.1 < c0 := of_decide_eq_false (by simpa using hc)
          refine fin _ _ H4 ?_ e4
          rw [ls]
          show some (if s + pr.1 < c0 then s + pr.1 else c0) = _
          rw [if_neg hc2]
  · obtain ⟨⟨z6, z7, z8, rfl⟩, e2, e⟩ := hP
    rw [List.take_length]
    exact s_ret (ev_var (i := 5) rfl) fun H3 e3 => q _ _ (e.trans e3) rfl
end
end Ef
/-! ==== EfP10 -/
set_option Elab.async false
set_option linter.all false
set_option maxRecDepth 100000
set_option maxHeartbeats 4000000
/-! The law's defs, second part. -/
namespace Ef
open PySem L2 Evl
section
variable {K : Frg} {C : Addr}
/-- a loop over range(n) -/
theorem q_rng {ta : TA} {j : Nat} {n : Nat} {σ : L2.St} {H : Hp} {tb tz : TS} {D : Ends} (h : EvA ta σ H [.int (n : Int)]) (hn : n ≤ 100000) (Pv : Nat → L2.St → Hp → Prop) (h0 : ∀ H1, Ex H H1 → Pv 0 σ H1)
    (hs : ∀ (i : Nat) σ' H', i < n → Pv i σ' H' → tb { D with nx := Pv (i + 1), ct := Pv (i + 1), bk := tz D } (σ'.set j (some (.int (i : Int)))) H') (hd : ∀ σ' H', Pv n σ' H' → tz D σ' H') : tSeq (tFor (iRng1 ta) (gName j) tb) tz D σ H :=
  q_forR1 (n := (n : Int)) h ⟨by omega, by omega⟩ Pv h0 (fun i σ' H' hi p => hs i σ' H' (by omega) p) (fun σ' H' p => hd σ' H' (by simpa using p))
theorem s_rng {ta : TA} {j : Nat} {n : Nat} {σ : L2.St} {H : Hp} {tb : TS} {D : Ends} (h : EvA ta σ H [.int (n : Int)]) (hn : n ≤ 100000) (Pv : Nat → L2.St → Hp → Prop) (h0 : ∀ H1, Ex H H1 → Pv 0 σ H1)
    (hs : ∀ (i : Nat) σ' H', i < n → Pv i σ' H' → tb { D with nx := Pv (i + 1), ct := Pv (i + 1), bk := D.nx } (σ'.set j (some (.int (i : Int)))) H') (hd : ∀ σ' H', Pv n σ' H' → D.nx σ' H') : tFor (iRng1 ta) (gName j) tb D σ H :=
  s_forR1 (n := (n : Int)) h ⟨by omega, by omega⟩ Pv h0 (fun i σ' H' hi p => hs i σ' H' (by omega) p) (fun σ' H' p => hd σ' H' (by simpa using p))
theorem p_Lis_safe : PureOk (R_Lis_safe K C) (t_Lis_safe K C) N_Lis_safe := by
  rintro vs H P Q ⟨pp, fv, r, Pt, fl, rows, rfl, hp, g, ⟨af, rfl, haf⟩, hr, hS, hrl, rfl⟩ q
  show t_Lis_safe K C (endQ Q) [some pp, some (.ref af), some r, none, none, none, none, none, none] H
  have hne : rows.length ≠ 0 := fun z => hS.ne (List.eq_nil_of_length_eq_zero z)
  have hlen : ∀ (z3 z4 z5 z6 z7 z8 : Option V) (H1 : Hp), Ex H H1 → Ev (tCB (rLen2 K) (tCons (tVar 2) tNil)) [some pp, some (.ref af), some r, z3, z4, z5, z6, z7, z8] H1 (.int (rows.length : Nat)) := fun z3 z4 z5 z6 z7 z8 H1 e1 => by
    have h := ev_lenL (ed_var (σ := [some pp, some (.ref af), some r, z3, z4, z5, z6, z7, z8]) (i := 2) (H := H1) rfl (hr.up e1))
    rw [List.length_map] at h
    exact h
  have row : ∀ (z3 z4 z5 z6 z7 z8 : Option V) (H1 : Hp) (te : TE) (i : Nat) (a : Str × Int), Ex H H1 → Ev te [some pp, some (.ref af), some r, z3, z4, z5, z6, z7, z8] H1 (.int (i : Int)) → rows[i]? = some a → EvD K (tOp (rIxL K) (tVar 2) te) [some pp, some (.ref af), some r, z3, z4, z5, z6, z7, z8] H1 (rowD a) := fun z3 z4 z5 z6 z7 z8 H1 te i a e1 hte hi =>
    ed_ixL (ed_var (i := 2) rfl (hr.up e1)) hte (atI_of (by rw [List.getElem?_map, hi]; rfl))
  have hla : rows[rows.length - 1]? = some (rows[rows.length - 1]'(by omega)) := List.getElem?_eq_getElem _
  generalize rows[rows.length - 1]'(by omega) = z at hla
  have t1 := ev_eqI (hlen none none none none none none H (Ex.refl _)) (ev_c (v := .int 0))
  rw [decide_eq_false (show ¬ ((rows.length : Nat) : Int) = 0 by omega)] at t1
  have hsub := ev_sub (hlen none none none none none none H (Ex.refl _)) (ev_c (v := .int 1))
  rw [show ((rows.length : Nat) : Int) - 1 = ((rows.length - 1 : Nat) : Int) by omega] at hsub
  have t2 := ev_dinI (ev_str (ed_ixT (ds := [.str z.1, .int z.2]) (row none none none none none none H _ (rows.length - 1) z (Ex.refl _) hsub hla) (ev_c (v := .int 0)) (atI_of (i := 0) rfl))) (ev_var (v := .ref af) (i := 1) rfl) haf
  rw [hS.last z hla] at t2
  refine q_guard (et_orF (et_test t1) (et_B t2)) fun H1 e1 => ?_
  refine q_rng (j := 3) (n := rows.length) (ea_cons (hlen _ _ _ _ _ _ H1 e1) ea_nil) (by omega) (fun i σ' H' => (∃ z3 z4 z5 z6 z7 z8 : Option V, σ' = [some pp, some (.ref af), some r, z3, z4, z5, z6, z7, z8]) ∧ Ex H H') (fun H2 e2 => ⟨⟨_, _, _, _, _, _, rfl⟩, e1.trans e2⟩) (fun i σ' H' hi hP => ?_) (fun σ' H' hP => ?_)
  · obtain ⟨⟨z3, z4, z5, z6, z7, z8, rfl⟩, e⟩ := hP
    have hai : rows[i]? = some rows[i] := List.getElem?_eq_getElem hi
    generalize rows[i] = a at hai
    show tSeq _ _ _ [some pp, some (.ref af), some r, some (.int (i : Int)), z4, z5, z6, z7, z8] H'
    refine q_asgG (K := K) (row _ z4 z5 z6 z7 z8 H' _ i a e (ev_var rfl) hai) fun v H2 e2 hv => ?_
    obtain ⟨v1, v2, d1, d2, hg⟩ := gs_pair (g1 := gName 4) (g2 := gName 5) hv
    have x1 := dp_str d1
    have x2 := dp_int d2
    subst x1 x2
    refine ⟨_, hg gs_name gs_name, ?_⟩
    show tSeq _ _ _ [some pp, some (.ref af), some r, some (.int (i : Int)), some (.str a.1), some (.int a.2), z6, z7, z8] H2
    have eA := e.trans e2
    have ha := List.mem_of_getElem? hai
    have u1 := ev_lt (ta := tVar 5) (tb := tC (.int 0)) (σ := [some pp, some (.ref af), some r, some (.int (i : Int)), some (.str a.1), some (.int a.2), z6, z7, z8]) (H := H2) (i := a.2) (j := 0) (ev_var rfl) ev_c
    rw [decide_eq_false (show ¬ a.2 < 0 by have := hS.nn a ha; omega)] at u1
    have burn : ∀ (te : TE) (m : Int) (z6 z7 z8 : Option V) (H3 : Hp), Ex H H3 → Free (lk fl) a.1 m → Ev te [some pp, some (.ref af), some r, some (.int (i : Int)), some (.str a.1), some (.int a.2), z6, z7, z8] H3 (.int m) →
        EvT (tAnd (tB (tDIn (tVar 4) (tVar 1))) (tTest (tOp rGe te (tDGet (tVar 1) (tVar 4))))) [some pp, some (.ref af), some r, some (.int (i : Int)), some (.str a.1), some (.int a.2), z6, z7, z8] H3 false := fun te m z6 z7 z8 H3 e3 hfr hte => by
      have j1 := ev_dinI (l := fl) (ta := tVar 4) (td := tVar 1) (σ := [some pp, some (.ref af), some r, some (.int (i : Int)), some (.str a.1), some (.int a.2), z6, z7, z8]) (p := a.1) (ev_var rfl) (ev_var rfl) (e3 _ _ haf)
      cases hy : lk fl a.1 with
      | none =>
        rw [hy] at j1
        exact et_and (a := false) (b := false) (et_B j1) fun z => by cases z
      | some y =>
        rw [hy] at j1
        have j2 := ev_ge hte (ev_dgetI (l := fl) (p := a.1) (td := tVar 1) (ta := tVar 4) (ev_var rfl) (ev_var rfl) (e3 _ _ haf) hy)
        have := hfr y hy
        rw [decide_eq_false (show ¬ y ≤ m by omega)] at j2
        exact et_and (a := true) (b := false) (et_B j1) fun _ => et_test j2
    refine q_guard (et_orF (et_test u1) (burn (tVar 5) a.2 _ _ _ H2 eA (hS.fr a ha) (ev_var rfl))) fun H3 e3 => ?_
    have eB := eA.trans e3
    have u2 := ev_lt (ta := tOp rAddI (tVar 3) (tC (.int 1))) (σ := [some pp, some (.ref af), some r, some (.int (i : Int)), some (.str a.1), some (.int a.2), z6, z7, z8]) (H := H3) (ev_add (i := (i : Int)) (ev_var rfl) (ev_c (v := .int 1))) (hlen _ _ _ _ _ _ H3 eB)
    refine s_when (et_test u2) (fun hc H4 e4 => ?_) (fun hc H4 e4 => ⟨⟨_, _, _, _, _, _, rfl⟩, eB.trans e4⟩)
    have hi1 : i + 1 < rows.length := by
      have := of_decide_eq_true hc
      omega
    have hbi : rows[i + 1]? = some rows[i + 1] := List.getElem?_eq_getElem hi1
    generalize rows[i + 1] = b at hbi
    obtain ⟨d, hd1, hd2, hd3⟩ := hS.st i a b hai hbi
    obtain ⟨rest, hrest⟩ := lk_fm hd1
    have eC := eB.trans e4
    have next : ∀ (z6 z7 z8 : Option V) (H5 : Hp), Ex H H5 → EvD K (tOp (rIxL K) (tVar 2) (tOp rAddI (tVar 3) (tC (.int 1)))) [some pp, some (.ref af), some r, some (.int (i : Int)), some (.str a.1), some (.int a.2), z6, z7, z8] H5 (.tuple [.str b.1, .int b.2]) := fun z6 z7 z8 H5 e5 => by
      have hx := ev_add (ta := tVar 3) (tb := tC (.int 1)) (σ := [some pp, some (.ref af), some r, some (.int (i : Int)), some (.str a.1), some (.int a.2), z6, z7, z8]) (H := H5) (i := (i : Int)) (ev_var rfl) (ev_c (v := .int 1))
      exact row _ _ _ _ _ _ H5 _ (i + 1) b e5 (by rw [show (((i + 1 : Nat)) : Int) = (i : Int) + 1 by omega]; exact hx) hbi
    have hwk : EvD K (tCall (spOf (R_Lwalks K C)) [] E0 (tCons (tVar 0) (tCons (tVar 4) tNil))) [some pp, some (.ref af), some r, some (.int (i : Int)), some (.str a.1), some (.int a.2), z6, z7, z8] H4 (.list ((walksM Pt.paths a.1).map pairD)) :=
      EvP.toD (ep_own (ea_cons (ev_var (i := 0) rfl) (ea_cons (ev_var (i := 4) rfl) ea_nil)) fun H5 e5 => ⟨_, ⟨pp, Pt, a.1, rfl, (hp.up eC).up e5, g, rfl⟩, fun _ _ _ h => h⟩)
    have hways : EvN K (tLc (iList K (tCall (spOf (R_Lwalks K C)) [] E0 (tCons (tVar 0) (tCons (tVar 4) tNil)))) (gTup K 2 (gCons (gName 7) (gCons (gName 8) (gNil)))) (tTest (tOp rEq (tVar 7) (tOp (rIxT K) (tOp (rIxL K) (tVar 2) (tOp (rAddI) (tVar 3) (tC (.int 1)))) (tC (.int 0))))) (tVar 8) [7, 8]) [some pp, some (.ref af), some r, some (.int (i : Int)), some (.str a.1), some (.int a.2), z6, z7, z8] H4 (((walksM Pt.paths a.1).filterMap fun w => if w.1 = b.1 then some w.2 else none).map .int) :=
      en_lc (eb := PyData.int) (ea := pairD) (ei_list hwk) _ no_int (by
        have h1 := List.length_filterMap_le (walkOf a.1) Pt.paths
        have h2 := g.h2
        unfold walksM
        omega) fun w x Hb hw eb hx => by
        obtain ⟨v1, v2, d1, d2, hg⟩ := gs_pair (g1 := gName 7) (g2 := gName 8) hx
        have x1 := dp_str d1
        have x2 := dp_int d2
        subst x1 x2
        refine ⟨_, hg gs_name gs_name, rfl, decide (w.1 = b.1), et_test (ev_eqS (ev_var (i := 7) rfl) (ev_str (ed_ixT (next _ _ _ Hb (eC.trans eb)) (ev_c (v := .int 0)) (atI_of (i := 0) rfl)))), fun hc => ⟨w.2, if_pos (of_decide_eq_true hc), ed_int (ev_var (i := 8) rfl)⟩, fun hc => if_neg (of_decide_eq_false hc)⟩
    rw [hrest] at hways
    refine q_asgD hways.toD fun vw H5 e5 hvw => ?_
    show tSeq _ _ _ [some pp, some (.ref af), some r, some (.int (i : Int)), some (.str a.1), some (.int a.2), some vw, z7, z8] H5
    have eD := eC.trans e5
    have hl5 := ev_lenL (ed_var (σ := [some pp, some (.ref af), some r, some (.int (i : Int)), some (.str a.1), some (.int a.2), some vw, z7, z8]) (i := 6) (H := H5) rfl hvw)
    have w1 := ev_eqI hl5 (ev_c (v := .int 0))
    rw [decide_eq_false (by rw [List.length_map, List.length_cons]; omega)] at w1
    have way : ∀ H6, Ex H5 H6 → Ev (tOp (rIxL K) (tVar 6) (tC (.int 0))) [some pp, some (.ref af), some r, some (.int (i : Int)), some (.str a.1), some (.int a.2), some vw, z7, z8] H6 (.int d) := fun H6 e6 => ev_int (ed_ixL (ed_var (i := 6) rfl (hvw.up e6)) (ev_c (v := .int 0)) (atI_of (i := 0) rfl))
    have dif : ∀ H6, Ex H5 H6 → Ev (tOp (rSubI) (tOp (rIxT K) (tOp (rIxL K) (tVar 2) (tOp (rAddI) (tVar 3) (tC (.int 1)))) (tC (.int 1))) (tOp (rIxL K) (tVar 6) (tC (.int 0)))) [some pp, some (.ref af), some r, some (.int (i : Int)), some (.str a.1), some (.int a.2), some vw, z7, z8] H6 (.int (b.2 - d)) := fun H6 e6 =>
      ev_sub (ev_int (ed_ixT (next _ _ _ H6 (eD.trans e6)) (ev_c (v := .int 1)) (atI_of (i := 1) rfl))) (way H6 e6)
    have w2 := ev_lt (dif H5 (Ex.refl _)) (ev_var (v := .int a.2) (i := 5) rfl)
    rw [decide_eq_false (show ¬ b.2 - d < a.2 by omega)] at w2
    refine q_guard (et_orF (et_test w1) (et_test w2)) fun H6 e6 => ?_
    exact s_guard (burn _ (b.2 - d) _ _ _ H6 (eD.trans e6) hd3 (dif H6 e6)) fun H7 e7 => ⟨⟨_, _, _, _, _, _, rfl⟩, (eD.trans e6).trans e7⟩
  · obtain ⟨⟨z3, z4, z5, z6, z7, z8, rfl⟩, e⟩ := hP
    exact s_ret ev_c fun H2 e2 => q _ _ (e.trans e2) rfl
theorem p_Lrow : PureOk (R_Lrow K C) (t_Lrow K C) N_Lrow := by
  rintro vs H P Q ⟨cell, many, rfl, hm, rfl⟩ q
  show t_Lrow K C (endQ Q) [some (.int cell), some (.int (many : Nat)), none, none, none, none] H
  refine q_acc0 (K := K) fun p H1 hp e1 acc => ?_
  refine q_asg (ev_abs (ev_var (i := 0) rfl)) fun H2 e2 => ?_
  generalize (if cell < 0 then -cell else cell) = rest
  show tSeq _ _ _ [some (.int cell), some (.int (many : Nat)), some (.ref p), some (.int rest), none, none] H2
  refine q_asg (ev_mod (ev_int1 (ev_add (ev_mul (ev_var (v := .int rest) (i := 3) rfl) (ev_c (v := .int 48271)) (.inr ⟨by decide, by decide⟩)) (ev_c (v := .int 69621)))) (ev_c (v := .int 2147483647)) (by decide)) fun H3 e3 => ?_
  generalize (rest * 48271 + 69621) % 2147483647 = mixed
  show tSeq _ _ _ [some (.int cell), some (.int (many : Nat)), some (.ref p), some (.int rest), some (.int mixed), none] H3
  refine q_rng (j := 5) (n := many) (ea_cons (ev_var (i := 1) rfl) ea_nil) (by omega) (fun i σ' H' => ∃ (rest mixed : Int) (z5 : Option V) (ns : List Int), σ' = [some (.int cell), some (.int (many : Nat)), some (.ref p), some (.int rest), some (.int mixed), z5] ∧ Acc K H p .int ns H' ∧ ns.length = i ∧ ∀ n ∈ ns, 0 ≤ n ∧ n < 1009)
    (fun H4 e4 => ⟨rest, mixed, none, [], rfl, (((acc _ PyData.int).up e2).up e3).up e4, rfl, fun n h => by cases h⟩) (fun i σ' H' hi hP => ?_) (fun σ' H' hP => ?_)
  · obtain ⟨rest, mixed, z5, ns, rfl, A, hl, hr⟩ := hP
    show tSeq _ _ _ [some (.int cell), some (.int (many : Nat)), some (.ref p), some (.int rest), some (.int mixed), some (.int (i : Int))] H'
    refine q_asg (ev_mod (ev_int1 (ev_add (ev_mul (ev_var (v := .int mixed) (i := 4) rfl) (ev_c (v := .int 16807)) (.inr ⟨by decide, by decide⟩)) (ev_mul (ev_c (v := .int 271)) (ev_add (ev_var (v := .int (i : Int)) (i := 5) rfl) (ev_c (v := .int 3))) (.inl ⟨by decide, by decide⟩)))) (ev_c (v := .int 2147483629)) (by decide)) fun H4 e4 => ?_
    generalize (mixed * 16807 + 271 * ((i : Int) + 3)) % 2147483629 = mixed
    show tIfS _ _ _ _ [some (.int cell), some (.int (many : Nat)), some (.ref p), some (.int rest), some (.int mixed), some (.int (i : Int))] H4
    have A4 := A.up e4
    have grow : ∀ n : Int, 0 ≤ n ∧ n < 1009 → (ns ++ [n]).length = i + 1 ∧ ∀ k ∈ ns ++ [n], 0 ≤ k ∧ k < 1009 := fun n hn => by
      refine ⟨by rw [List.length_append, hl]; rfl, fun k hk => ?_⟩
      rcases List.mem_append.mp hk with h | h
      · exact hr k h
      · rw [List.mem_singleton.mp h]
        exact hn
    have hpow : Ev (tOp rPowI (tC (.int 10)) (tC (.int 18))) [some (.int cell), some (.int (many : Nat)), some (.ref p), some (.int rest), some (.int mixed), some (.int (i : Int))] H4 (.int (10 ^ 18)) := ev_IC (g := fun i j => .int (i ^ j.toNat)) (C := CPow) ev_c ev_c ⟨by decide, by decide, by decide⟩
    refine s_if (et_test (ev_ge (ev_abs (ev_var (v := .int cell) (i := 0) rfl)) hpow)) (fun _ H5 e5 => ?_) (fun _ H5 e5 => ?_)
    · have rg := emod_rng (i := rest) (m := 1009) (by decide)
      refine q_acc (A4.up e5) no_int (ev_var (i := 2) rfl) (b := rest % 1009) (ed_int (ev_mod (ev_int1 (ev_var (i := 3) rfl)) (ev_c (v := .int 1009)) (by decide))) (by omega) fun H6 A6 _ => ?_
      exact s_asg (ev_div (ev_var (v := .int rest) (i := 3) rfl) (ev_c (v := .int 1009)) ⟨by decide, by decide⟩) fun H7 e7 => ⟨_, _, _, _, rfl, A6.up e7, grow _ rg⟩
    · have rg := emod_rng (i := mixed / 7) (m := 1009) (by decide)
      exact s_acc (A4.up e5) no_int (ev_var (i := 2) rfl) (b := mixed / 7 % 1009) (ed_int (ev_mod (ev_int1 (ev_div (ev_var (i := 4) rfl) (ev_c (v := .int 7)) ⟨by decide, by decide⟩)) (ev_c (v := .int 1009)) (by decide))) (by omega) fun H6 A6 _ => ⟨_, _, _, _, rfl, A6, grow _ rg⟩
  · obtain ⟨rest, mixed, z5, ns, rfl, A, hl, hr⟩ := hP
    exact s_ret (ev_var (i := 2) rfl) fun H4 e4 => q _ _ (A.ex.trans e4) ⟨ns, (A.up e4).newL, hl, hr⟩
end
end Ef
/-! ==== EfU4 -/
set_option Elab.async false
set_option linter.all false
set_option maxRecDepth 100000
set_option maxHeartbeats 4000000
/-! Words for what is drawn: values known up to a bound. -/
namespace Ef
open PySem L2 Evl
theorem atI_getD {α : Type} {l : List α} {i : Int} (h0 : 0 ≤ i) (h1 : i < (l.length : Int)) (d : α) : atI l i = some (l.getD i.toNat d) := by
  have e : i = ((i.toNat : Nat) : Int) := by omega
  have hl : i.toNat < l.length := by omega
  rw [e]
  refine atI_of ?_
  rw [Int.toNat_natCast, List.getD_eq_getElem?_getD, List.getElem?_eq_getElem hl]
  rfl
theorem atI_map {α β : Type} (f : α → β) (l : List α) (i : Int) : atI (l.map f) i = (atI l i).map f := by
  unfold atI
  rw [List.length_map]
  cases ixN l.length i with
  | none => rfl
  | some j =>
    show (l.map f)[j]? = (l[j]?).map f
    rw [List.getElem?_map]
theorem getD_mem {α : Type} {l : List α} {i : Nat} (h : i < l.length) (d : α) : l.getD i d ∈ l := by
  rw [List.getD_eq_getElem?_getD, List.getElem?_eq_getElem h]
  exact List.getElem_mem h
/-- a value known up to a bound -/
def IntB (b : Int) (v : V) (_ : Hp) : Prop := ∃ r, v = .int r ∧ 0 ≤ r ∧ r < b
section
variable {K : Frg} {C : Addr} {σ : L2.St} {H : Hp} {ta tb tc td te : TE} {g : TG} {tz : TS} {D : Ends} {α : Type} {ea : α → PyData} {as : List α} {s v : V} {ns : List Int}
theorem num_rng (hN : Nums ns) (k : Nat) : 0 ≤ ns.getD k 0 ∧ ns.getD k 0 < 1009 := by
  by_cases h : k < ns.length
  · exact hN.2 _ (getD_mem h 0)
  · rw [List.getD_eq_getElem?_getD, List.getElem?_eq_none (by omega)]
    exact ⟨by decide, by decide⟩
theorem ev_numD {k : Nat} (hs : Dp K H s (intsD ns)) (hN : Nums ns) (hv : Ev ta σ H s) (hi : Ev tb σ H (.int (k : Int))) (hk : k < 200) : Ev (tOp (rIxL K) ta tb) σ H (.int (ns.getD k 0)) := by
  refine ev_int (ed_ixL (evd_of hv hs) hi ?_)
  rw [atI_map, atI_getD (by omega) (by rw [hN.1]; omega) 0]
  rw [Int.toNat_natCast]
  rfl
theorem atI_ex {α : Type} {ea : α → PyData} {as : List α} {r : Int} (h0 : 0 ≤ r) (h1 : r < (as.length : Int)) : ∃ a ∈ as, atI (as.map ea) r = some (ea a) := by
  obtain ⟨i, rfl⟩ := Int.eq_ofNat_of_zero_le h0
  have hl : i < as.length := by omega
  exact ⟨as[i], List.getElem_mem hl, atI_of (by rw [List.getElem?_map, List.getElem?_eq_getElem hl]; rfl)⟩
theorem ep_ixT {n : Int} (ha : EvD K ta σ H (.tuple (as.map ea))) (hb : EvP tb σ H (IntB n)) (hn : n ≤ as.length) : EvP (tOp (rIxT K) ta tb) σ H (fun v H' => ∃ a ∈ as, Dp K H' v (ea a)) := fun H1 e Q q => ha H1 e _ fun v H2 e2 hv => hb H2 (e.trans e2) _ fun w H3 e3 hw => by
  obtain ⟨r, rfl, r0, r1⟩ := hw
  obtain ⟨p, xs, rfl, hs, hx⟩ := dp_tup (hv.up e3)
  obtain ⟨b, hb, hat⟩ := atI_ex (ea := ea) r0 (by omega : r < (as.length : Int))
  obtain ⟨u, hu, hud⟩ := dps_atI hx hat
  exact ⟨p, xs, r, u, rfl, rfl, hs, hu, q u H3 (e2.trans e3) ⟨b, hb, hud⟩⟩
theorem ep_ixL {n : Int} (ha : EvD K ta σ H (.list (as.map ea))) (hb : EvP tb σ H (IntB n)) (hn : n ≤ as.length) : EvP (tOp (rIxL K) ta tb) σ H (fun v H' => ∃ a ∈ as, Dp K H' v (ea a)) := fun H1 e Q q => ha H1 e _ fun v H2 e2 hv => hb H2 (e.trans e2) _ fun w H3 e3 hw => by
  obtain ⟨r, rfl, r0, r1⟩ := hw
  obtain ⟨p, xs, rfl, hs, hx⟩ := dp_lst (hv.up e3)
  obtain ⟨b, hb, hat⟩ := atI_ex (ea := ea) r0 (by omega : r < (as.length : Int))
  obtain ⟨u, hu, hud⟩ := dps_atI hx hat
  exact ⟨p, xs, r, u, rfl, rfl, hs, hu, q u H3 (e2.trans e3) ⟨b, hb, hud⟩⟩
theorem ep_add {i : Int} {P : V → Hp → Prop} (ha : Ev ta σ H (.int i)) (hb : EvP tb σ H P) (hp : ∀ v H1, P v H1 → ∃ c, v = .int c) : EvP (tOp rAddI ta tb) σ H (fun v H' => ∃ c, v = .int (i + c) ∧ P (.int c) H') := fun H1 e Q q => ha H1 e _ fun H2 e2 => hb H2 (e.trans e2) _ fun w H3 e3 hw => by
  obtain ⟨c, rfl⟩ := hp w H3 hw
  exact ⟨i, c, rfl, rfl, q _ H3 (e2.trans e3) ⟨c, rfl, hw⟩⟩
/-- a draw -/
theorem ep_pick {k : Nat} {most : Int} (hs : Dp K H s (intsD ns)) (hN : Nums ns) (hv : Ev ta σ H s) (hi : Ev tb σ H (.int (k : Int))) (hk : k < 200) (hm : Ev tc σ H (.int most)) (h0 : 0 < most) :
    EvP (tCall (spOf (R_Lpick K C)) [] E0 (tCons ta (tCons tb (tCons tc tNil)))) σ H (IntB most) :=
  ep_own (ea_cons hv (ea_cons hi (ea_cons hm ea_nil))) fun H1 e1 => ⟨_, ⟨s, ns, k, most, rfl, hs.up e1, hN, hk, h0, rfl⟩, fun _ _ _ h => h⟩
/-- a loop over range(n), n drawn -/
theorem q_rngP {j : Nat} {b : Nat} {tbd : TS} (h : EvP te σ H (IntB (b : Int))) (hb : b ≤ 100000) (k : ∀ n : Nat, n < b → ∃ Pv : Nat → L2.St → Hp → Prop, (∀ H1, Ex H H1 → Pv 0 σ H1) ∧
    (∀ (i : Nat) σ' H', i < n → Pv i σ' H' → tbd { D with nx := Pv (i + 1), ct := Pv (i + 1), bk := tz D } (σ'.set j (some (.int (i : Int)))) H') ∧ (∀ σ' H', Pv n σ' H' → tz D σ' H')) : tSeq (tFor (iRng1 (tCons te tNil)) (gName j) tbd) tz D σ H := by
  refine h H (Ex.refl _) _ fun v H1 e1 hv => ?_
  obtain ⟨r, rfl, r0, r1⟩ := hv
  obtain ⟨Pv, h0, hs, hd⟩ := k r.toNat (by omega)
  exact ⟨r, rfl, by omega, by omega, for_range (D := { D with nx := tz D }) (lo := 0) (n := r.toNat) Pv (h0 H1 e1) (fun i σ' H' hi p => by
    have e0 : (0 : Int) + (i : Int) = (i : Int) := Int.zero_add _
    show tbd { D with nx := Pv (i + 1), ct := Pv (i + 1), bk := tz D } (σ'.set j (some (.int ((0 : Int) + (i : Int))))) H'
    rw [e0]
    exact hs i σ' H' (by omega) p) hd⟩
/-- a list of four made on the way -/
theorem ep_lst4 {P1 P2 P3 P4 : V → Hp → Prop} (h1 : EvP ta σ H P1) (h2 : EvP tb σ H P2) (h3 : EvP tc σ H P3) (h4 : EvP td σ H P4) (m1 : ∀ v H1 H2, Ex H1 H2 → P1 v H1 → P1 v H2) (m2 : ∀ v H1 H2, Ex H1 H2 → P2 v H1 → P2 v H2) (m3 : ∀ v H1 H2, Ex H1 H2 → P3 v H1 → P3 v H2) (m4 : ∀ v H1 H2, Ex H1 H2 → P4 v H1 → P4 v H2) :
    EvP (tLst (tCons ta (tCons tb (tCons tc (tCons td tNil))))) σ H (fun v H' => ∃ a x1 x2 x3 x4, v = .ref a ∧ SqL K H' a [x1, x2, x3, x4] ∧ P1 x1 H' ∧ P2 x2 H' ∧ P3 x3 H' ∧ P4 x4 H') := fun H1 e Q q =>
  h1 H1 e _ fun x1 H2 e2 p1 => h2 H2 (e.trans e2) _ fun x2 H3 e3 p2 => h3 H3 ((e.trans e2).trans e3) _ fun x3 H4 e4 p3 => h4 H4 (((e.trans e2).trans e3).trans e4) _ fun x4 H5 e5 p4 =>
    ⟨sz_of (by simp), fun p hp => by
      have en := Ex.new (o := .lst [x1, x2, x3, x4]) hp
      exact q _ _ ((((e2.trans e3).trans e4).trans e5).trans en) ⟨p, x1, x2, x3, x4, rfl, sq_of upd_same, m1 _ _ _ (((e3.trans e4).trans e5).trans en) p1, m2 _ _ _ ((e4.trans e5).trans en) p2, m3 _ _ _ (e5.trans en) p3, m4 _ _ _ en p4⟩⟩
theorem ep_tup4 {P1 P2 P3 P4 : V → Hp → Prop} (h1 : EvP ta σ H P1) (h2 : EvP tb σ H P2) (h3 : EvP tc σ H P3) (h4 : EvP td σ H P4) (m1 : ∀ v H1 H2, Ex H1 H2 → P1 v H1 → P1 v H2) (m2 : ∀ v H1 H2, Ex H1 H2 → P2 v H1 → P2 v H2) (m3 : ∀ v H1 H2, Ex H1 H2 → P3 v H1 → P3 v H2) (m4 : ∀ v H1 H2, Ex H1 H2 → P4 v H1 → P4 v H2) :
    EvP (tTup (tCons ta (tCons tb (tCons tc (tCons td tNil))))) σ H (fun v H' => ∃ a x1 x2 x3 x4, v = .ref a ∧ SqT K H' a [x1, x2, x3, x4] ∧ P1 x1 H' ∧ P2 x2 H' ∧ P3 x3 H' ∧ P4 x4 H') := fun H1 e Q q =>
  h1 H1 e _ fun x1 H2 e2 p1 => h2 H2 (e.trans e2) _ fun x2 H3 e3 p2 => h3 H3 ((e.trans e2).trans e3) _ fun x3 H4 e4 p3 => h4 H4 (((e.trans e2).trans e3).trans e4) _ fun x4 H5 e5 p4 =>
    ⟨sz_of (by simp), fun p hp => by
      have en := Ex.new (o := .tup [x1, x2, x3, x4]) hp
      exact q _ _ ((((e2.trans e3).trans e4).trans e5).trans en) ⟨p, x1, x2, x3, x4, rfl, st_of upd_same, m1 _ _ _ (((e3.trans e4).trans e5).trans en) p1, m2 _ _ _ ((e4.trans e5).trans en) p2, m3 _ _ _ (e5.trans en) p3, m4 _ _ _ en p4⟩⟩
theorem evp_of (h : Ev te σ H v) {P : V → Hp → Prop} (hp : ∀ H1, Ex H H1 → P v H1) : EvP te σ H P := fun H1 e Q q => h H1 e Q fun H2 e2 => q v H2 e2 (hp H2 (e.trans e2))
theorem evp_imp {P P' : V → Hp → Prop} (h : EvP te σ H P) (hp : ∀ v H1, Ex H H1 → P v H1 → P' v H1) : EvP te σ H P' := fun H1 e Q q => h H1 e Q fun v H2 e2 p => q v H2 e2 (hp v H2 (e.trans e2) p)
/-- two tuples joined -/
theorem ed_catT {ds es : List PyData} (h1 : EvD K ta σ H (.tuple ds)) (h2 : EvD K tb σ H (.tuple es)) (n1 : ds ≠ []) (n2 : es ≠ []) (hl : ds.length + es.length ≤ 100000) : EvD K (tOp (rCatT K) ta tb) σ H (.tuple (ds ++ es)) := fun H1 a Q q => h1 H1 a _ fun v H2 e2 hv => h2 H2 (a.trans e2) _ fun w H3 e3 hw => by
  obtain ⟨p, xs, rfl, hs, hx⟩ := dp_tup (hv.up e3)
  obtain ⟨p2, ys, rfl, hs2, hy⟩ := dp_tup hw
  have nx : xs ≠ [] := fun z => n1 (List.eq_nil_of_length_eq_zero (by rw [← dps_len hx, z]; rfl))
  have ny : ys ≠ [] := fun z => n2 (List.eq_nil_of_length_eq_zero (by rw [← dps_len hy, z]; rfl))
  refine ⟨p, p2, xs, ys, rfl, rfl, hs, hs2, nx, by rw [dps_len hx, dps_len hy]; exact sz_of hl, fun z => absurd z ny, fun _ l hl => ?_⟩
  exact q _ _ ((e2.trans e3).trans (Ex.new hl)) (.tup (st_of upd_same) (dps_app (hx.up (Ex.new hl)) (hy.up (Ex.new hl))))
end
/-- a loop over a list made on the way, what it tells being known after -/
theorem s_forE {K : Frg} {σ : L2.St} {H : Hp} {tl : TE} {g : TG} {tb : TS} {D : Ends} {α : Type} {ea : α → PyData} {PP : V → Hp → Prop} (hl : EvP tl σ H PP) (hn : ∀ b, noL (ea b) = true)
    (k : ∀ v H2, Ex H H2 → PP v H2 → ∃ (as : List α) (a : Addr) (xs : List V), v = .ref a ∧ SqL K H2 a xs ∧ DpAll K H2 xs (as.map ea) ∧ ∃ Pv : Nat → L2.St → Hp → Prop, Pv 0 σ H2 ∧ (∀ i σ' H', Pv i σ' H' → SqL K H' a xs ∧ KeepT H2 H') ∧
      (∀ i b x σ' H' Hb, as[i]? = some b → Pv i σ' H' → Ex H' Hb → Dp K Hb x (ea b) → ∃ σ2, GSet g x σ' Hb σ2 ∧ tb { D with nx := Pv (i + 1), ct := Pv (i + 1), bk := D.nx } σ2 Hb) ∧ (∀ σ' H', Pv as.length σ' H' → D.nx σ' H')) : tFor (iList K tl) g tb D σ H := hl H (Ex.refl _) _ fun v H2 e2 pv => by
  obtain ⟨as, a, xs, rfl, hs, hd, Pv, h0, hG, hst, hdn⟩ := k v H2 e2 pv
  have hlen : xs.length = as.length := by rw [dps_len hd, List.length_map]
  have w : Walk (Itl K a) as.length (fun H' => SqL K H' a xs ∧ KeepT H2 H') (fun i Ha x Hb => Ha = Hb ∧ ∃ b, as[i]? = some b ∧ Dp K Hb x (ea b)) := by
    rw [← hlen]
    refine walk_list.mono (fun H' e => e.1) fun i Ha x Hb hi e y => ?_
    obtain ⟨rfl, y⟩ := y
    obtain ⟨c, h1, h2⟩ := dps_mem hd y
    exact ⟨rfl, c, h1, dp_keep e.2 _ _ (hn c) h2⟩
  refine ⟨a, rfl, ⟨xs, hs⟩, for_it w Pv h0 (fun i σ' H' _ p => hG i σ' H' p) (fun i x σ' Ha Hb hi p y => ?_) hdn⟩
  obtain ⟨rfl, c, y2, y3⟩ := y
  obtain ⟨σ2, h1, h2⟩ := hst i c x σ' Ha Ha y2 p (Ex.refl _) y3
  exact h1 Ha (Ex.refl _) _ h2
end Ef
/-! ==== EfP11 -/
set_option Elab.async false
set_option linter.all false
set_option maxRecDepth 100000
set_option maxHeartbeats 4000000
/-! The law's defs, third part: numbers, rows, weather. -/
namespace Ef
open PySem L2 Evl
theorem asc_snoc : ∀ {W : Wea} {q : Int × Str}, Asc W → (∀ r ∈ W, r.1 < q.1) → Asc (W ++ [q])
  | [], q, _, _ => ⟨fun r h => (by cases h), trivial⟩
  | r :: W, q, h, hq => ⟨fun x hx => by
      rcases List.mem_append.mp hx with z | z
      · exact h.1 x z
      · rw [List.mem_singleton.mp z]
        exact hq r List.mem_cons_self, asc_snoc h.2 fun x hx => hq x (List.mem_cons_of_mem _ hx)⟩
section
variable {K : Frg} {C : Addr}
theorem p_Lnumbers : PureOk (R_Lnumbers K C) (t_Lnumbers K C) N_Lnumbers := by
  rintro vs H P Q ⟨s, ns, rfl, hs, rfl⟩ q
  show t_Lnumbers K C (endQ Q) [some s, some (.int 200), none, none, none, none, none] H
  have hsl := en_slL (K := K) (tl := tNoPart) (th := tPart (tC (.int 63))) (ed_var (σ := [some s, some (.int 200), none, none, none, none, none]) (i := 0) (H := H) rfl hs) eo_none (eo_some (ev_c (v := .int 63)))
  have ecut : cutD (ns.map PyData.int) none (some 63) = (ns.take (min 63 ns.length)).map .int := by
    show ((ns.map PyData.int).drop 0).take (HT.sIx (ns.map PyData.int).length (ns.map PyData.int).length (some ((63 : Nat) : Int)) - 0) = _
    rw [HT.sIx_nat, List.drop_zero, List.length_map, List.map_take]
    rfl
  rw [ecut] at hsl
  have hcl : (ns.take (min 63 ns.length)).length ≤ 63 := by
    rw [List.length_take]
    omega
  generalize ns.take (min 63 ns.length) = cs at hsl hcl
  refine q_asgN (K := K) hsl fun pc xs H1 hpc e1 hxc hdc => ?_
  show tSeq _ _ _ [some s, some (.int 200), some (.ref pc), none, none, none, none] H1
  have hlc := ev_lenL (ed_var (σ := [some s, some (.int 200), some (.ref pc), none, none, none, none]) (i := 2) (H := H1) rfl (.lst (sq_of hxc) hdc))
  rw [List.length_map] at hlc
  have hmx := ev_max2 (ev_c (v := .int 1)) hlc
  have hv : 1 ≤ (if ((cs.length : Nat) : Int) > 1 then ((cs.length : Nat) : Int) else 1) ∧ (if ((cs.length : Nat) : Int) > 1 then ((cs.length : Nat) : Int) else 1) ≤ 63 := by split <;> omega
  generalize (if ((cs.length : Nat) : Int) > 1 then ((cs.length : Nat) : Int) else 1) = mx at hmx hv
  have hea := ev_add (ev_c (v := .int 1)) (ev_div (ev_var (v := .int 200) (i := 1) rfl) hmx ⟨by omega, by omega⟩)
  have hq1 : 0 ≤ 200 / mx := Int.ediv_nonneg (by decide) (by omega)
  have hq2 : 200 / mx ≤ 200 := Int.ediv_le_self _ (by decide)
  have hen : ∃ en : Nat, 1 + 200 / mx = (en : Int) ∧ en ≤ 201 := ⟨(1 + 200 / mx).toNat, by omega, by omega⟩
  obtain ⟨en, hen1, hen2⟩ := hen
  rw [hen1] at hea
  refine q_asg hea fun H2 e2 => ?_
  show tSeq _ _ _ [some s, some (.int 200), some (.ref pc), some (.int (en : Int)), none, none, none] H2
  refine q_acc0 (K := K) fun p H3 hp e3 acc => ?_
  show tSeq _ _ _ [some s, some (.int 200), some (.ref pc), some (.int (en : Int)), some (.ref p), none, none] H3
  have hxc3 := e3 _ _ (e2 _ _ hxc)
  have npc : pc ≠ p := fun z => by
    rw [z] at hxc
    rw [e2 _ _ hxc] at hp
    cases hp
  have e13 := (e1.trans e2)
  have A0 : Acc K H p .int [] H3 := (acc _ PyData.int).back e13
  refine s_forE (K := K) (ea := PyData.int) (PP := fun v H' => v = .ref pc ∧ Ex H3 H') (D := { endQ Q with nx := tSeq (tWhile (tTest (tOp rLt (tCB (rLen2 K) (tCons (tVar 4) tNil)) (tVar 1))) (tDrop (tBM K "list" rAppend (tVar 4) (tCons (tC (.int 0)) tNil)))) (tRet (tSl (rSlL K) (tVar 4) (tNoPart) (tPart (tVar 1)))) (endQ Q) })
    (fun H4 e4 Q4 q4 => ev_var (σ := [some s, some (.int 200), some (.ref pc), some (.int (en : Int)), some (.ref p), none, none]) (H := H3) (v := .ref pc) (i := 2) rfl H4 e4 Q4 fun H5 e5 => q4 _ H5 e5 ⟨rfl, e4.trans e5⟩) no_int fun v H4 e4 hv4 => ?_
  obtain ⟨rfl, e4b⟩ := hv4
  refine ⟨cs, pc, xs, rfl, sq_of (e4 _ _ hxc3), hdc.up ((e2.trans e3).trans e4), fun i σ' H' => ∃ (z5 z6 : Option V) (ms : List Int), σ' = [some s, some (.int 200), some (.ref pc), some (.int (en : Int)), some (.ref p), z5, z6] ∧ Acc K H p .int ms H' ∧ (∀ n ∈ ms, 0 ≤ n ∧ n < 1009) ∧ ms.length ≤ i * 201 ∧ SqL K H' pc xs ∧ KeepT H4 H',
    ⟨none, none, [], rfl, A0.up e4, (fun n h => by cases h), Nat.zero_le _, sq_of (e4 _ _ hxc3), KeepT.refl _⟩, (fun i σ' H' hP => by obtain ⟨_, _, _, _, _, _, _, h1, h2⟩ := hP; exact ⟨h1, h2⟩), (fun i c x σ' H' Hb hi hP eb hx => ?_), fun σ' H' hP => ?_⟩
  · obtain ⟨z5, z6, ms, rfl, A, hr, hl, hsq, hkt⟩ := hP
    have ex := dp_int hx
    subst ex
    refine ⟨_, gs_name, ?_⟩
    have hi63 := get_lt hi
    have A2 := A.up eb
    refine s_forE (K := K) (ea := PyData.int) (PP := fun v H' => ∃ ks : List Int, NewL K Hb H' v (ks.map .int) ∧ ks.length = en ∧ (∀ n ∈ ks, 0 ≤ n ∧ n < 1009) ∧ Ex Hb H') (fun H5 e5 Q5 q5 => ep_own (σ := [some s, some (.int 200), some (.ref pc), some (.int (en : Int)), some (.ref p), some (.int c), z6]) (H := Hb) (P := fun v H' => ∃ ks : List Int, NewL K Hb H' v (ks.map .int) ∧ ks.length = en ∧ ∀ n ∈ ks, 0 ≤ n ∧ n < 1009) (ea_cons (ev_var (i := 5) rfl) (ea_cons (ev_var (i := 3) rfl) ea_nil)) (fun H6 e6 => ⟨_, ⟨c, en, rfl, by omega, rfl⟩, fun v H7 e7 h => by
      obtain ⟨ks, ⟨a, ys, h1, h2, h3, h4⟩, h5, h6⟩ := h
      exact ⟨ks, ⟨a, ys, h1, fresh_back e6 h2, h3, h4⟩, h5, h6⟩⟩) H5 e5 Q5 fun v H8 e8 h => by
        obtain ⟨ks, h1, h2, h3⟩ := h
        exact q5 v H8 e8 ⟨ks, h1, h2, h3, e5.trans e8⟩) no_int fun v H5 e5 hv5 => ?_
    obtain ⟨ks, ⟨a, ys, rfl, ha, hay, had⟩, hkl, hkr, _⟩ := hv5
    have nap : a ≠ p := fun z => by
      obtain ⟨us, hu, _⟩ := A2.at_
      rw [z, hu] at ha
      cases ha
    refine ⟨ks, a, ys, rfl, sq_of hay, had, fun j σ' H' => ∃ z6 : Option V, σ' = [some s, some (.int 200), some (.ref pc), some (.int (en : Int)), some (.ref p), some (.int c), z6] ∧ Acc K H p .int (ms ++ ks.take j) H' ∧ SqL K H' a ys ∧ SqL K H' pc xs ∧ KeepT H5 H',
      ⟨_, rfl, by rw [List.take_zero, List.append_nil]; exact A2.up e5, sq_of hay, ex_l e5 (ex_l eb hsq), KeepT.refl _⟩, (fun j σ' H' hP => by obtain ⟨_, _, _, h1, _, h2⟩ := hP; exact ⟨h1, h2⟩), (fun j n x σ' H' Hc hj hP ec hx => ?_), fun σ' H' hP => ?_⟩
    · obtain ⟨z6, rfl, B, hs1, hs2, hk⟩ := hP
      have ex := dp_int hx
      subst ex
      refine ⟨_, gs_name, ?_⟩
      have B2 := B.up ec
      refine s_acc B2 no_int (ev_var (i := 4) rfl) (b := n) (ed_int (ev_var (i := 6) rfl)) (by
        rw [List.length_append, List.length_take]
        have : i * 201 ≤ 63 * 201 := Nat.mul_le_mul_right _ (by omega)
        omega) fun H6 B6 b6 => ⟨_, rfl, ?_, b6.sql nap (ex_l ec hs1), b6.sql npc (ex_l ec hs2), (hk.trans (KeepT.of ec)).trans (b6.keepT B2.noT)⟩
      rw [take_snoc hj, ← List.append_assoc]
      exact B6
    · obtain ⟨z6, rfl, B, hs1, hs2, hk⟩ := hP
      rw [List.take_length] at B
      refine ⟨_, _, ms ++ ks, rfl, B, fun n hn => ?_, ?_, hs2, ((hkt.trans (KeepT.of eb)).trans (KeepT.of e5)).trans hk⟩
      · rcases List.mem_append.mp hn with h | h
        · exact hr n h
        · exact hkr n h
      · rw [List.length_append, hkl, Nat.add_mul]
        omega
  · obtain ⟨z5, z6, ms, rfl, A, hr, hl, hsq, hkt⟩ := hP
    have hcl2 : cs.length * 201 ≤ 63 * 201 := Nat.mul_le_mul_right _ hcl
    refine q_while (fun k σ' H' => ∃ ms : List Int, σ' = [some s, some (.int 200), some (.ref pc), some (.int (en : Int)), some (.ref p), z5, z6] ∧ Acc K H p .int ms H' ∧ (∀ n ∈ ms, 0 ≤ n ∧ n < 1009) ∧ ms.length ≤ 20000 ∧ k = 200 - ms.length) _ ⟨ms, rfl, A, hr, by omega, rfl⟩ fun k σ' H' hW => ?_
    obtain ⟨ms, rfl, A, hr, hl, rfl⟩ := hW
    have hlen := ev_lenL (ed_var (σ := [some s, some (.int 200), some (.ref pc), some (.int (en : Int)), some (.ref p), z5, z6]) (i := 4) (H := H') rfl A.dp)
    rw [List.length_map] at hlen
    refine ⟨_, et_test (ev_lt hlen (ev_var (v := .int 200) (i := 1) rfl)), fun hb H5 e5 => ?_, fun hb H5 e5 => ?_⟩
    · have hlt : ((ms.length : Nat) : Int) < 200 := of_decide_eq_true hb
      refine ⟨fun σ2 H2 => ∃ k', k' < _ ∧ _, fun σ2 H2 h => h, ?_⟩
      refine s_acc (A.up e5) no_int (ev_var (i := 4) rfl) (b := 0) (ed_int ev_c) (by omega) fun H6 A6 _ => ⟨_, ?_, ms ++ [0], rfl, A6, fun n hn => ?_, ?_, rfl⟩
      · rw [List.length_append]
        show 200 - (ms.length + 1) < _
        omega
      · rcases List.mem_append.mp hn with h | h
        · exact hr n h
        · rw [List.mem_singleton.mp h]
          exact ⟨by decide, by decide⟩
      · rw [List.length_append]
        show ms.length + 1 ≤ _
        omega
    · have hge : ¬ ((ms.length : Nat) : Int) < 200 := of_decide_eq_false hb
      have A5 := A.up e5
      have hs5 := en_slL (K := K) (tl := tNoPart) (th := tPart (tVar 1)) (ed_var (σ := [some s, some (.int 200), some (.ref pc), some (.int (en : Int)), some (.ref p), z5, z6]) (i := 4) (H := H5) rfl A5.dp) eo_none (eo_some (ev_var (v := .int 200) (i := 1) rfl))
      rw [show cutD (ms.map PyData.int) none (some 200) = (ms.take 200).map .int by rw [List.map_take]; exact cut_take (i := 200) (by rw [List.length_map]; omega)] at hs5
      exact s_retD hs5.toD fun v H6 e6 hv => q _ _ (A5.ex.trans e6) ⟨ms.take 200, hv, by rw [List.length_take]; omega, fun n hn => hr n (List.mem_of_mem_take hn)⟩
end
end Ef
/-! ==== EfP12 -/
set_option Elab.async false
set_option linter.all false
set_option maxRecDepth 100000
set_option maxHeartbeats 4000000
/-! The law's defs, fourth part: rows, weather, land, case. -/
namespace Ef
open PySem L2 Evl
/-- a test of any outcome -/
def EvTA (t : TT) (σ : L2.St) (H : Hp) : Prop := ∀ H1, Ex H H1 → ∀ Q : Bool → Hp → Prop, (∀ b H2, Ex H1 H2 → Q b H2) → t σ H1 Q
section
variable {K : Frg} {C : Addr} {σ : L2.St} {H : Hp} {ta tb te : TE} {t u : TT} {tr : TA} {tz tu tw : TS} {D : Ends} {n : Int}
theorem eta_test (h : EvP te σ H (fun v _ => ∃ b, v = .bl b)) : EvTA (tTest te) σ H := fun H1 e Q q => h H1 e _ fun v H2 e2 hv => by
  obtain ⟨b, rfl⟩ := hv
  exact ⟨b, rfl, q b H2 e2⟩
theorem eta_of {b : Bool} (h : EvT t σ H b) : EvTA t σ H := fun H1 e Q q => h H1 e Q fun H2 e2 => q b H2 e2
theorem eta_and (h1 : EvTA t σ H) (h2 : EvTA u σ H) : EvTA (tAnd t u) σ H := fun H1 e Q q => h1 H1 e _ fun b H2 e2 => by
  cases b with
  | true =>
    show u σ H2 Q
    exact h2 H2 (e.trans e2) Q fun b H3 e3 => q b H3 (e2.trans e3)
  | false =>
    show Q false H2
    exact q false H2 e2
theorem q_any (h : EvTA t σ H) (k1 : ∀ H1, Ex H H1 → tu { D with nx := tz D } σ H1) (k2 : ∀ H1, Ex H H1 → tz D σ H1) : tSeq (tIfS t tu tNext) tz D σ H := h H (Ex.refl _) _ fun b H1 e => by
  cases b with
  | true => exact k1 H1 e
  | false => exact k2 H1 e
theorem ep_gtB (ha : EvP ta σ H (IntB n)) {j : Int} (hb : Ev tb σ H (.int j)) : EvP (tOp rGt ta tb) σ H (fun v _ => ∃ b, v = .bl b) := fun H1 e Q q => ha H1 e _ fun v H2 e2 hv => hb H2 (e.trans e2) _ fun H3 e3 => by
  obtain ⟨r, rfl, _⟩ := hv
  exact ⟨r, j, rfl, rfl, q _ H3 (e2.trans e3) ⟨_, rfl⟩⟩
theorem epa_p {P : V → Hp → Prop} {PR : List V → Hp → Prop} (h : EvP te σ H P) (hr : EvPA tr σ H PR) (m : ∀ v H1 H2, Ex H1 H2 → P v H1 → P v H2) : EvPA (tCons te tr) σ H (fun ws H' => ∃ w r, ws = w :: r ∧ P w H' ∧ PR r H') := fun H1 a Q q =>
  h H1 a _ fun w H2 e2 pw => hr H2 (a.trans e2) _ fun vs H3 e3 pr => q _ H3 (e2.trans e3) ⟨w, vs, rfl, m _ _ _ e3 pw, pr⟩
theorem intB_up (v : V) (H1 H2 : Hp) (_ : Ex H1 H2) (h : IntB n v H1) : IntB n v H2 := h
end
section
variable {K : Frg} {C : Addr}
theorem p_Lrows : PureOk (R_Lrows K C) (t_Lrows K C) N_Lrows := by
  rintro vs H P Q ⟨s, pp, ns, Pt, i, many, most, rfl, hs, hN, hp, g, hm, hmany, hi, rfl⟩ q
  show t_Lrows K C (endQ Q) [some s, some (.int (i : Nat)), some (.int (many : Nat)), some pp, some (.int most), none] H
  have p1 := g.p1
  have hlc : EvN K (tLc (iRng1 (tCons (tVar 2) tNil)) (gName 5) (tYes) (tTup (tCons (tOp (rIxT K) (tOp (rIxL K) (tVar 3) (tC (.int 1))) (tOp (rModI) (tCB (rInt1) (tCons (tOp (rIxL K) (tVar 0) (tOp (rAddI) (tVar 1) (tOp (rMulI) (tC (.int 2)) (tVar 5)))) tNil)) (tCB (rLen2 K) (tCons (tOp (rIxL K) (tVar 3) (tC (.int 1))) tNil)))) (tCons (tOp (rModI) (tCB (rInt1) (tCons (tOp (rIxL K) (tVar 0) (tOp (rAddI) (tOp (rAddI) (tVar 1) (tOp (rMulI) (tC (.int 2)) (tVar 5))) (tC (.int 1)))) tNil)) (tVar 4)) tNil))) [5]) [some s, some (.int (i : Nat)), some (.int (many : Nat)), some pp, some (.int most), none] H
      (((List.range many).map fun k => ((Pt.places.getD (ns.getD (i + 2 * k) 0 % (Pt.places.length : Int)).toNat ⟨#[]⟩, ns.getD (i + 2 * k + 1) 0 % most) : Str × Int)).map rowD) :=
    en_map (eb := rowD) (ea := fun i : Nat => .int i) (ei_range (n := (many : Nat)) (ea_cons (ev_var (i := 2) rfl) ea_nil) (by omega) (by omega)).it _ no_row (by rw [List.length_range]; omega) fun k x Hb hk e hx => by
      have ex := dp_int hx
      subst ex
      have hk2 : k < many := by
        have := List.mem_range.mp hk
        simpa using this
      refine ⟨_, gs_name, rfl, ?_⟩
      obtain ⟨xp, hxp, hxd⟩ := pt_1 (ta := tVar 3) (σ := [some s, some (.int (i : Nat)), some (.int (many : Nat)), some pp, some (.int most), some (.int (k : Int))]) (H := Hb) (ev_var rfl) (hp.up e)
      have hix : Ev (tOp (rAddI) (tVar 1) (tOp (rMulI) (tC (.int 2)) (tVar 5))) [some s, some (.int (i : Nat)), some (.int (many : Nat)), some pp, some (.int most), some (.int (k : Int))] Hb (.int ((i + 2 * k : Nat) : Int)) := by
        rw [show ((i + 2 * k : Nat) : Int) = (i : Int) + 2 * (k : Int) by omega]
        exact ev_add (ev_var rfl) (ev_mul ev_c (ev_var rfl) (.inl ⟨by decide, by decide⟩))
      have hix2 : Ev (tOp rAddI (tOp (rAddI) (tVar 1) (tOp (rMulI) (tC (.int 2)) (tVar 5))) (tC (.int 1))) [some s, some (.int (i : Nat)), some (.int (many : Nat)), some pp, some (.int most), some (.int (k : Int))] Hb (.int ((i + 2 * k + 1 : Nat) : Int)) := by
        rw [show ((i + 2 * k + 1 : Nat) : Int) = ((i + 2 * k : Nat) : Int) + 1 by omega]
        exact ev_add hix ev_c
      have hlen := ev_lenT (evd_of hxp hxd)
      rw [List.length_map] at hlen
      have rg := emod_rng (i := ns.getD (i + 2 * k) 0) (m := (Pt.places.length : Int)) (by omega)
      refine ed_tup (eda_cons (ed_ixT (evd_of hxp hxd) (ev_mod (ev_int1 (ev_numD (hs.up e) hN (ev_var rfl) hix (by omega))) hlen (by omega)) (by rw [atI_map, atI_getD rg.1 rg.2 ⟨#[]⟩]; rfl)) (eda_cons (ed_int (ev_mod (ev_int1 (ev_numD (hs.up e) hN (ev_var rfl) hix2 (by omega))) (ev_var rfl) hm)) eda_nil)) (by simp)
  refine s_retD hlc.toD fun v H1 e1 hv => q _ _ e1 ⟨_, hv, ⟨fun r hr => ?_, fun r hr => ?_, ?_⟩⟩
  · obtain ⟨k, hk, rfl⟩ := List.mem_map.mp hr
    have rg := emod_rng (i := ns.getD (i + 2 * k) 0) (m := (Pt.places.length : Int)) (by omega)
    exact getD_mem (by omega) _
  · obtain ⟨k, hk, rfl⟩ := List.mem_map.mp hr
    exact (emod_rng hm).1
  · rw [List.length_map, List.length_range]
    omega
theorem p_Lweather : PureOk (R_Lweather K C) (t_Lweather K C) N_Lweather := by
  rintro vs H P Q ⟨s, pp, ns, Pt, rfl, hs, hN, hp, g, rfl⟩ q
  show t_Lweather K C (endQ Q) [some s, some (.int 110), some pp, none, none] H
  have w1 := g.w1
  have wind : ∀ (z3 z4 : Option V) (H1 : Hp) (ti : TE) (k : Nat), Ex H H1 → Ev ti [some s, some (.int 110), some pp, z3, z4] H1 (.int (k : Int)) → k < 200 →
      EvD K (tOp (rIxT K) (tOp (rIxL K) (tVar 2) (tC (.int 0))) (tOp (rModI) (tCB (rInt1) (tCons (tOp (rIxL K) (tVar 0) ti) tNil)) (tCB (rLen2 K) (tCons (tOp (rIxL K) (tVar 2) (tC (.int 0))) tNil)))) [some s, some (.int 110), some pp, z3, z4] H1 (.str (Pt.winds.getD (ns.getD k 0 % (Pt.winds.length : Int)).toNat ⟨#[]⟩)) := fun z3 z4 H1 ti k e hti hk => by
    obtain ⟨x, hx, hxd, _⟩ := pt_0 (ta := tVar 2) (σ := [some s, some (.int 110), some pp, z3, z4]) (H := H1) (ev_var rfl) (hp.up e)
    have hlen := ev_lenT (evd_of hx hxd)
    rw [List.length_map] at hlen
    have rg := emod_rng (i := ns.getD k 0) (m := (Pt.winds.length : Int)) (by omega)
    exact ed_ixT (evd_of hx hxd) (ev_mod (ev_int1 (ev_numD (hs.up e) hN (ev_var rfl) hti hk)) hlen (by omega)) (by rw [atI_map, atI_getD rg.1 rg.2 ⟨#[]⟩]; rfl)
  have wmem : ∀ k, Pt.winds.getD (ns.getD k 0 % (Pt.winds.length : Int)).toNat ⟨#[]⟩ ∈ Pt.winds := fun k => by
    have rg := emod_rng (i := ns.getD k 0) (m := (Pt.winds.length : Int)) (by omega)
    exact getD_mem (by omega) _
  refine q_asgN (K := K) (ds := [wrowD (0, Pt.winds.getD (ns.getD 110 0 % (Pt.winds.length : Int)).toNat ⟨#[]⟩)]) (en_lst (eda_cons (ed_tup (eda_cons (ed_int (ev_c (v := .int 0))) (eda_cons (wind none none H (tVar 1) 110 (Ex.refl _) (ev_var rfl) (by decide)) eda_nil)) (by simp)) eda_nil) (by simp)) fun p xs H1 hp1 e1 hx hd => ?_
  have hd110 := wmem 110
  generalize Pt.winds.getD (ns.getD 110 0 % (Pt.winds.length : Int)).toNat ⟨#[]⟩ = d0 at hd hd110
  have A0 : Acc K H p wrowD [(0, d0)] H1 := ⟨hp1, e1, xs, hx, hd⟩
  show tSeq _ _ _ [some s, some (.int 110), some pp, some (.ref p), none] H1
  have hi1 : ∀ H2, Ev (tOp rAddI (tVar 1) (tC (.int 1))) [some s, some (.int 110), some pp, some (.ref p), none] H2 (.int ((111 : Nat) : Int)) := fun H2 => ev_add (i := 110) (j := 1) (ev_var rfl) ev_c
  have rg4 := emod_rng (i := ns.getD 111 0) (m := 4) (by decide)
  have hrange : Ev (tOp (rModI) (tCB (rInt1) (tCons (tOp (rIxL K) (tVar 0) (tOp rAddI (tVar 1) (tC (.int 1)))) tNil)) (tC (.int 4))) [some s, some (.int 110), some pp, some (.ref p), none] H1 (.int (((ns.getD 111 0 % 4).toNat : Nat) : Int)) := by
    rw [show (((ns.getD 111 0 % 4).toNat : Nat) : Int) = ns.getD 111 0 % 4 by omega]
    exact ev_mod (ev_int1 (ev_numD (hs.up e1) hN (ev_var rfl) (hi1 H1) (by decide))) ev_c (by decide)
  have hn4 : (ns.getD 111 0 % 4).toNat ≤ 3 := by omega
  generalize (ns.getD 111 0 % 4).toNat = n4 at hrange hn4
  refine q_rng (j := 4) (n := n4) (ea_cons hrange ea_nil) (by omega) (fun i σ' H' => ∃ (z4 : Option V) (W : Wea) (m : Int) (w : Str), σ' = [some s, some (.int 110), some pp, some (.ref p), z4] ∧ Acc K H p wrowD W H' ∧ W.length = i + 1 ∧ Asc W ∧ (∃ d W', W = (0, d) :: W') ∧ (∀ r ∈ W, r.2 ∈ Pt.winds) ∧ W[i]? = some (m, w) ∧ (∀ r ∈ W, r.1 ≤ m) ∧ m ≤ 20 * (i : Int))
    (fun H2 e2 => ⟨none, [(0, d0)], 0, d0, rfl, A0.up e2, rfl, ⟨fun r h => (by cases h), trivial⟩, ⟨d0, [], rfl⟩, (fun r hr => by rw [List.mem_singleton.mp hr]; exact hd110), rfl, (fun r hr => by rw [List.mem_singleton.mp hr]; exact Int.le_refl _), by omega⟩) (fun i σ' H' hi hP => ?_) (fun σ' H' hP => ?_)
  · obtain ⟨z4, W, m, w, rfl, A, hl, ha, hz, hw, hm, hmx, hm20⟩ := hP
    show tDrop _ _ [some s, some (.int 110), some pp, some (.ref p), some (.int (i : Int))] H'
    have hcell : Ev (tOp (rIxT K) (tOp (rIxL K) (tVar 3) (tVar 4)) (tC (.int 0))) [some s, some (.int 110), some pp, some (.ref p), some (.int (i : Int))] H' (.int m) :=
      ev_int (ed_ixT (ds := [.int m, .str w]) (ed_ixL (d := wrowD (m, w)) (ed_var (i := 3) rfl A.dp) (ev_var (v := .int (i : Int)) (i := 4) rfl) (atI_of (by rw [List.getElem?_map, hm]; rfl))) (ev_c (v := .int 0)) (atI_of (i := 0) rfl))
    have hi2 : ∀ c : Nat, Ev (tOp (rAddI) (tOp (rAddI) (tVar 1) (tC (.int (c : Int)))) (tVar 4)) [some s, some (.int 110), some pp, some (.ref p), some (.int (i : Int))] H' (.int ((110 + c + i : Nat) : Int)) := fun c => by
      rw [show ((110 + c + i : Nat) : Int) = 110 + (c : Int) + (i : Int) by omega]
      exact ev_add (ev_add (ev_var rfl) ev_c) (ev_var rfl)
    have rg := emod_rng (i := ns.getD (110 + 2 + i) 0) (m := 12) (by decide)
    have hnew := ev_add (ev_add hcell (ev_c (v := .int 1))) (ev_mod (ev_int1 (ev_numD (ta := tVar 0) (hs.up A.ex) hN (ev_var rfl) (hi2 2) (by omega))) (ev_c (v := .int 12)) (by decide))
    have hwi := wind (some (.ref p)) (some (.int (i : Int))) H' _ (110 + 5 + i) A.ex (hi2 5) (by omega)
    have hwm := wmem (110 + 5 + i)
    generalize Pt.winds.getD (ns.getD (110 + 5 + i) 0 % (Pt.winds.length : Int)).toNat ⟨#[]⟩ = w' at hwi hwm
    generalize ns.getD (110 + 2 + i) 0 % 12 = r at rg hnew
    refine s_acc A no_wrow (ev_var (i := 3) rfl) (b := (m + 1 + r, w')) (ed_tup (eda_cons (ed_int hnew) (eda_cons hwi eda_nil)) (by simp)) (by omega) fun H2 A2 _ => ⟨_, W ++ [(m + 1 + r, w')], m + 1 + r, w', rfl, A2, by rw [List.length_append, hl]; rfl, asc_snoc ha fun x hx => ?_, ?_, fun x hx => ?_, ?_, fun x hx => ?_, by omega⟩
    · have := hmx x hx
      show x.1 < m + 1 + r
      omega
    · obtain ⟨d, W', eW⟩ := hz
      exact ⟨d, W' ++ [(m + 1 + r, w')], by rw [eW]; rfl⟩
    · rcases List.mem_append.mp hx with h | h
      · exact hw x h
      · rw [List.mem_singleton.mp h]
        exact hwm
    · rw [List.getElem?_append_right (by omega), hl, Nat.sub_self]
      rfl
    · rcases List.mem_append.mp hx with h | h
      · have := hmx x h
        omega
      · rw [List.mem_singleton.mp h]
        exact Int.le_refl _
  · obtain ⟨z4, W, m, w, rfl, A, hl, ha, hz, hw, hm, hmx, hm20⟩ := hP
    exact s_retD (ed_var (i := 3) rfl A.dp) fun v H2 e2 hv => q _ _ (A.ex.trans e2) ⟨W, hv, ha, hz, hw, by omega, fun r hr => by have := hmx r hr; omega⟩
theorem s_land {σ : L2.St} {H : Hp} {D : Ends} {tk : TA} {sp : Sp} {ds : List PyData} (ha : EvDA K tk σ H ds) (k : ∀ zs H2, Ex H H2 → DpAll K H2 zs ds → zs.length = 4 ∧ ∀ x dx, H2 x = none → H2 dx = none → dx ≠ x →
    sp (.ref x :: zs) (upd (upd H2 dx (.own x)) x (.ins C dx [])) (fun v H3 => v = .non ∧ D.rt (.ref x) H3) E0) : tRet (tMakeK C 0 4 sp (fun us ws => us ++ ws) E0 tNil tk) D σ H :=
  ha H (Ex.refl _) _ fun zs H2 e2 hz => ⟨rfl, (k zs H2 e2 hz).1, (k zs H2 e2 hz).2⟩
theorem p_Lland : PureOk (R_Lland K C) (t_Lland K C) N_Lland := by
  rintro vs H P Q ⟨pp, Pt, rfl, hp, g, rfl⟩ q
  show t_Lland K C (endQ Q) [some pp] H
  obtain ⟨x1, h1, d1, _⟩ := pt_0 (ta := tVar 0) (σ := [some pp]) (H := H) (ev_var rfl) hp
  obtain ⟨x2, h2, d2⟩ := pt_1 (ta := tVar 0) (σ := [some pp]) (H := H) (ev_var rfl) hp
  obtain ⟨x3, h3, d3⟩ := pt_2 (ta := tVar 0) (σ := [some pp]) (H := H) (ev_var rfl) hp
  obtain ⟨x4, h4, d4⟩ := pt_3 (ta := tVar 0) (σ := [some pp]) (H := H) (ev_var rfl) hp
  have ha := eda_cons (en_lstT (evd_of h1 d1)).toD (eda_cons (en_lstT (evd_of h2 d2)).toD (eda_cons (en_lstT (evd_of h3 d3)).toD (eda_cons (en_lstT (evd_of h4 d4)).toD eda_nil)))
  unfold t_Lland
  refine s_land ha fun zs H2 e2 hz => ?_
  cases hz with
  | cons k1 t =>
  cases t with
  | cons k2 t =>
  cases t with
  | cons k3 t =>
  cases t with
  | cons k4 t =>
  cases t
  refine ⟨rfl, fun x dx hx hdx ne => ?_⟩
  have hx' : (upd H2 dx (.own x)) x = none := by
    rw [upd_ne (fun z => ne z.symm)]
    exact hx
  have eu : Ex H2 (upd (upd H2 dx (.own x)) x (.ins C dx [])) := (Ex.new hdx).trans (Ex.new hx')
  refine ⟨x, dx, _, _, _, _, Pt, rfl, upd_same, g, k1.up eu, k2.up eu, k3.up eu, k4.up eu, fun H3 keep hL => ⟨rfl, ?_⟩⟩
  refine q _ _ (fun b o hb => keep b o (eu b o (e2 b o hb)) fun z => ?_) hL
  rw [← z, e2 b o hb] at hx
  cases hx
theorem p_Lcase : PureOk (R_Lcase K C) (t_Lcase K C) N_Lcase := by
  rintro vs H P Q ⟨s, ns, rfl, hs, hN, rfl⟩ q
  show t_Lcase K C (endQ Q) [some s, none, none, none, none] H
  refine q_asgP (P := fun v H' => ∃ Pt, PartsAt K H' v Pt ∧ GoodP Pt ∧ Pt.links.length ≤ 10 ∧ Pt.winds.length ≤ 3) (ep_own (ea_cons (ev_var (i := 0) rfl) (ea_cons (ev_c (v := .int 0)) ea_nil)) fun H1 e1 => ⟨_, ⟨s, ns, rfl, hs.up e1, hN, rfl⟩, fun _ _ _ h => h⟩) fun pv H1 e1 hpv => ?_
  obtain ⟨Pt, hp, g, gl, gw⟩ := hpv
  show tSeq _ _ _ [some s, some pv, none, none, none] H1
  refine q_asgP (P := fun v H' => ∃ W, Dp K H' v (weaD W) ∧ GoodW Pt W) (ep_own (ea_cons (ev_var (i := 0) rfl) (ea_cons (ev_c (v := .int 110)) (ea_cons (ev_var (i := 1) rfl) ea_nil))) fun H2 e2 => ⟨_, ⟨s, pv, ns, Pt, rfl, (hs.up e1).up e2, hN, hp.up e2, g, rfl⟩, fun _ _ _ h => h⟩) fun wv H2 e2 hwv => ?_
  obtain ⟨W, hw, hgw⟩ := hwv
  have e12 := e1.trans e2
  have hp2 := hp.up e2
  show tSeq _ _ _ [some s, some pv, some wv, none, none] H2
  have rows : ∀ (z3 z4 : Option V) (H3 : Hp) (i1 i2 : Nat) (most : Int), Ex H2 H3 → i1 + 8 ≤ 200 → i2 < 200 → 0 < most →
      EvP (tCall (spOf (R_Lrows K C)) [] E0 (tCons (tVar 0) (tCons (tC (.int (i1 : Int))) (tCons (tCall (spOf (R_Lpick K C)) [] E0 (tCons (tVar 0) (tCons (tC (.int (i2 : Int))) (tCons (tC (.int 4)) tNil)))) (tCons (tVar 1) (tCons (tC (.int most)) tNil)))))) [some s, some pv, some wv, z3, z4] H3 (fun v H' => ∃ rs, Dp K H' v (rowsD rs) ∧ GoodR Pt rs) := fun z3 z4 H3 i1 i2 most e3 h1 h2 h3 =>
    ep_ownA (epa_v (ev_var (i := 0) rfl) (epa_v (ev_c (v := .int (i1 : Int))) (epa_p (ep_pick (K := K) (C := C) (s := s) (ns := ns) (most := 4) (hs.up (e12.trans e3)) hN (ev_var (i := 0) rfl) ev_c h2 ev_c (by decide)) (EvA.p (ea_cons (ev_var (v := pv) (i := 1) rfl) (ea_cons (ev_c (v := .int most)) ea_nil))) intB_up))) fun vs H4 e4 hv => by
      obtain ⟨r1, rfl, r2, rfl, w, r3, rfl, ⟨c, rfl, c0, c1⟩, rfl⟩ := hv
      refine ⟨_, ⟨s, pv, ns, Pt, i1, c.toNat, most, ?_, (hs.up (e12.trans e3)).up e4, hN, (hp2.up e3).up e4, g, h3, by omega, by omega, rfl⟩, fun _ _ _ h => h⟩
      rw [show ((c.toNat : Nat) : Int) = c by omega]
  refine q_asgP (rows none none H2 120 119 12 (Ex.refl _) (by decide) (by decide) (by decide)) fun sv H3 e3 hsv => ?_
  obtain ⟨S, hS, gS⟩ := hsv
  show tSeq _ _ _ [some s, some pv, some wv, some sv, none] H3
  have fin : ∀ (sv : V) (S : Rws) (H4 : Hp), Ex H2 H4 → Dp K H4 sv (rowsD S) → GoodR Pt S → (tSeq (tAsg (tCall (spOf (R_Lrows K C)) [] E0 (tCons (tVar 0) (tCons (tC (.int 128)) (tCons (tCall (spOf (R_Lpick K C)) [] E0 (tCons (tVar 0) (tCons (tC (.int 127)) (tCons (tC (.int 4)) tNil)))) (tCons (tVar 1) (tCons (tC (.int 30)) tNil)))))) (gName 4)) (tRet (tTup (tCons (tVar 1) (tCons (tVar 2) (tCons (tVar 3) (tCons (tVar 4) tNil))))))) (endQ Q) [some s, some pv, some wv, some sv, none] H4 := fun sv S H4 e4 hS gS => by
    refine q_asgP (rows (some sv) none H4 128 127 30 e4 (by decide) (by decide) (by decide)) fun bv H5 e5 hbv => ?_
    obtain ⟨B, hB, gB⟩ := hbv
    show tRet _ _ [some s, some pv, some wv, some sv, some bv] H5
    have e25 := e4.trans e5
    refine s_retP (ep_tup4 (K := K) (P1 := fun v H' => PartsAt K H' v Pt) (P2 := fun v H' => Dp K H' v (weaD W)) (P3 := fun v H' => Dp K H' v (rowsD S)) (P4 := fun v H' => Dp K H' v (rowsD B))
      (evp_of (ev_var (i := 1) rfl) fun H6 e6 => (hp2.up e25).up e6) (evp_of (ev_var (i := 2) rfl) fun H6 e6 => (hw.up e25).up e6) (evp_of (ev_var (i := 3) rfl) fun H6 e6 => (hS.up e5).up e6) (evp_of (ev_var (i := 4) rfl) fun H6 e6 => hB.up e6)
      (fun _ _ _ e h => h.up e) (fun _ _ _ e h => h.up e) (fun _ _ _ e h => h.up e) (fun _ _ _ e h => h.up e)) fun v H6 e6 hv => ?_
    obtain ⟨a, x1, x2, x3, x4, rfl, h1, h2, h3, h4, h5⟩ := hv
    exact q _ _ ((e12.trans e25).trans e6) ⟨Pt, W, S, B, a, x1, x2, x3, x4, rfl, h1, h2, gl, gw, h3, h4, h5, g, hgw, gS, gB⟩
  have hlen := ev_lenL (ed_var (σ := [some s, some pv, some wv, some sv, none]) (i := 3) (H := H3) rfl hS)
  refine q_any (eta_and (eta_of (et_test (ev_eqI hlen (ev_c (v := .int 0))))) (eta_test (ep_gtB (ep_pick (K := K) (C := C) (s := s) (ns := ns) (k := 118) (most := 4) (hs.up (e12.trans e3)) hN (ev_var (i := 0) rfl) ev_c (by decide) ev_c (by decide)) (ev_c (v := .int 0))))) (fun H4 e4 => ?_) (fun H4 e4 => fin sv S H4 (e3.trans e4) (hS.up e4) gS)
  have e14 := (e12.trans e3).trans e4
  refine q_asgP (tz := tNext) (D := { endQ Q with nx := tSeq (tAsg (tCall (spOf (R_Lrows K C)) [] E0 (tCons (tVar 0) (tCons (tC (.int 128)) (tCons (tCall (spOf (R_Lpick K C)) [] E0 (tCons (tVar 0) (tCons (tC (.int 127)) (tCons (tC (.int 4)) tNil)))) (tCons (tVar 1) (tCons (tC (.int 30)) tNil)))))) (gName 4)) (tRet (tTup (tCons (tVar 1) (tCons (tVar 2) (tCons (tVar 3) (tCons (tVar 4) tNil)))))) (endQ Q) }) (P := fun v H' => ∃ rs, Dp K H' v (rowsD rs) ∧ GoodR Pt rs) (ep_own (ea_cons (ev_var (i := 0) rfl) (ea_cons (ev_c (v := .int 120)) (ea_cons (ev_c (v := .int 1)) (ea_cons (ev_var (i := 1) rfl) (ea_cons (ev_c (v := .int 4)) ea_nil))))) fun H5 e5 => ⟨_, ⟨s, pv, ns, Pt, 120, 1, 4, rfl, (hs.up e14).up e5, hN, ((hp2.up e3).up e4).up e5, g, by decide, by decide, by decide, rfl⟩, fun _ _ _ h => h⟩) fun sv2 H5 e5 hsv2 => ?_
  obtain ⟨S2, hS2, gS2⟩ := hsv2
  exact fin sv2 S2 H5 ((e3.trans e4).trans e5) hS2 gS2
end
end Ef
/-! ==== EfP13 -/
set_option Elab.async false
set_option linter.all false
set_option maxRecDepth 100000
set_option maxHeartbeats 1000000
/-! The law's defs, fifth part: drawn numbers, the drawn walk. -/
namespace Ef
open PySem L2 Evl
/-- the j-th drawn number is not under the least -/
def TimeOk (l : Link) (ts : List (Option (Int × Int))) : Prop := ∀ (m : Nat) x, ts[m]? = some (some x) → ∃ p, l.times[m]? = some (some p) ∧ p.1 ≤ x.1
theorem timeOk_le {l : Link} {ts : List (Option (Int × Int))} (h : TimeOk l ts) (n o p : Str) : RowLe (leastRow l) (leastRow ⟨n, o, p, ts⟩) := fun i d hd => by
  unfold leastRow at hd ⊢
  rw [List.getElem?_map] at hd ⊢
  cases e : ts[i]? with
  | none => rw [show (Link.mk n o p ts).times[i]? = none from e] at hd; cases hd
  | some x =>
    rw [show (Link.mk n o p ts).times[i]? = some x from e] at hd
    cases x with
    | none => cases hd
    | some x =>
      have e2 : x.1 = d := Option.some.inj hd
      obtain ⟨pr, h1, h2⟩ := h i x e
      rw [h1]
      exact ⟨pr.1, rfl, by omega⟩
theorem timeOk_snoc {l : Link} {ts : List (Option (Int × Int))} (h : TimeOk l ts) {o : Option (Int × Int)} (ho : ∀ x, o = some x → ∃ p, l.times[ts.length]? = some (some p) ∧ p.1 ≤ x.1) : TimeOk l (ts ++ [o]) := fun m x hx => by
  by_cases c : m < ts.length
  · rw [List.getElem?_append_left c] at hx
    exact h m x hx
  · by_cases c2 : m = ts.length
    · subst c2
      rw [List.getElem?_append_right (Nat.le_refl _), Nat.sub_self] at hx
      exact ho x (Option.some.inj hx)
    · rw [List.getElem?_eq_none (by rw [List.length_append]; show ts.length + 1 ≤ m; omega)] at hx
      cases hx
section
variable {K : Frg} {C : Addr}
theorem p_Lnumbers_of : PureOk (R_Lnumbers_of K C) (t_Lnumbers_of K C) N_Lnumbers_of := by
  rintro vs H P Q ⟨s, pp, ns, Pt, rfl, hs, hN, hp, g, gl, gw, rfl⟩ q
  show t_Lnumbers_of K C (endQ Q) [some s, some (.int 150), some pp, none, none, none, none, none, none] H
  refine q_acc0 (K := K) fun p H1 hp1 e1 acc => ?_
  show tSeq _ _ _ [some s, some (.int 150), some pp, some (.ref p), none, none, none, none, none] H1
  have lks : ∀ (z3 z4 z5 z6 z7 z8 : Option V) (H2 : Hp), Ex H H2 → ∃ x, Ev (tOp (rIxL K) (tVar 2) (tC (.int 2))) [some s, some (.int 150), some pp, z3, z4, z5, z6, z7, z8] H2 x ∧ Dp K H2 x (.tuple (Pt.links.map linkD)) := fun z3 z4 z5 z6 z7 z8 H2 e2 => pt_2 (ev_var rfl) (hp.up e2)
  have wds : ∀ (z3 z4 z5 z6 z7 z8 : Option V) (H2 : Hp), Ex H H2 → ∃ x, Ev (tOp (rIxL K) (tVar 2) (tC (.int 0))) [some s, some (.int 150), some pp, z3, z4, z5, z6, z7, z8] H2 x ∧ Dp K H2 x (.tuple (Pt.winds.map .str)) ∧ NoDk H2 x := fun z3 z4 z5 z6 z7 z8 H2 e2 => pt_0 (ev_var rfl) (hp.up e2)
  obtain ⟨x0, hx0, hxd0⟩ := lks (some (.ref p)) none none none none none H1 e1
  have hl0 := ev_lenT (evd_of hx0 hxd0)
  rw [List.length_map] at hl0
  refine q_rng (j := 4) (n := Pt.links.length) (ea_cons hl0 ea_nil) (by omega) (fun i σ' H' => ∃ (z4 z5 z6 z7 z8 : Option V) (ls : List Link), σ' = [some s, some (.int 150), some pp, some (.ref p), z4, z5, z6, z7, z8] ∧ Acc K H p linkD ls H' ∧ ls.length = i ∧ ∀ l' ∈ ls, (∃ l ∈ Pt.links, l.one = l'.one ∧ l.other = l'.other ∧ RowLe (leastRow l) (leastRow l')) ∧ l'.times.length = Pt.winds.length)
    (fun H2 e2 => ⟨none, none, none, none, none, [], rfl, (acc _ linkD).up e2, rfl, fun l h => by cases h⟩) (fun i σ' H' hi hP => ?_) (fun σ' H' hP => ?_)
  · obtain ⟨z4, z5, z6, z7, z8, ls, rfl, A, hll, hls⟩ := hP
    show tSeq _ _ _ [some s, some (.int 150), some pp, some (.ref p), some (.int (i : Int)), z5, z6, z7, z8] H'
    have hli : Pt.links[i]? = some Pt.links[i] := List.getElem?_eq_getElem hi
    generalize Pt.links[i] = lk0 at hli
    have hlm := List.mem_of_getElem? hli
    have hlt := g.lt lk0 hlm
    refine q_acc0 (K := K) fun pt H2 hpt e2 acct => ?_
    have npp : p ≠ pt := fun z => by
      obtain ⟨us, hu, _⟩ := A.at_
      rw [z, hpt] at hu
      cases hu
    have A2 := A.up e2
    show tSeq _ _ _ [some s, some (.int 150), some pp, some (.ref p), some (.int (i : Int)), some (.ref pt), z6, z7, z8] H2
    obtain ⟨x1, hx1, hxd1, _⟩ := wds (some (.ref p)) (some (.int (i : Int))) (some (.ref pt)) z6 z7 z8 H2 A2.ex
    have hl1 := ev_lenT (evd_of hx1 hxd1)
    rw [List.length_map] at hl1
    have cell : ∀ (z5 z6 z7 z8 : Option V) (H3 : Hp), Ex H H3 → EvD K (tOp (rIxT K) (tOp (rIxL K) (tVar 2) (tC (.int 2))) (tVar 4)) [some s, some (.int 150), some pp, some (.ref p), some (.int (i : Int)), z5, z6, z7, z8] H3 (linkD lk0) := fun z5 z6 z7 z8 H3 e3 => by
      obtain ⟨x, hx, hxd⟩ := lks (some (.ref p)) (some (.int (i : Int))) z5 z6 z7 z8 H3 e3
      exact ed_ixT (evd_of hx hxd) (ev_var rfl) (atI_of (by rw [List.getElem?_map, hli]; rfl))
    refine q_rng (j := 6) (n := Pt.winds.length) (ea_cons hl1 ea_nil) (by omega) (fun j σ' H' => ∃ (z6 z7 z8 : Option V) (ts : List (Option (Int × Int))), σ' = [some s, some (.int 150), some pp, some (.ref p), some (.int (i : Int)), some (.ref pt), z6, z7, z8] ∧ Acc K H p linkD ls H' ∧ Acc K H pt pairO ts H' ∧ ts.length = j ∧ TimeOk lk0 ts)
      (fun H3 e3 => ⟨z6, z7, z8, [], rfl, A2.up e3, ((acct _ pairO).back A.ex).up e3, rfl, fun m x hx => by cases hx⟩) (fun j σ' H' hj hP => ?_) (fun σ' H' hP => ?_)
    · obtain ⟨z6, z7, z8, ts, rfl, B, Bt, htl, hto⟩ := hP
      show tSeq _ _ _ [some s, some (.int 150), some pp, some (.ref p), some (.int (i : Int)), some (.ref pt), some (.int (j : Int)), z7, z8] H'
      have hjt : j < lk0.times.length := by rw [hlt]; exact hj
      have htj : lk0.times[j]? = some lk0.times[j] := List.getElem?_eq_getElem hjt
      generalize lk0.times[j] = ob at htj
      have hbd := ed_ixT (ed_ixT (ds := [.str lk0.name, .str lk0.one, .str lk0.other, .tuple (lk0.times.map pairO)]) (cell (some (.ref pt)) (some (.int (j : Int))) z7 z8 H' B.ex) (ev_c (v := .int 3)) (atI_of (i := 3) rfl)) (ev_var (v := .int (j : Int)) (i := 6) rfl) (atI_of (v := pairO ob) (by rw [List.getElem?_map, htj]; rfl))
      refine q_asgD hbd fun v H3 e3 hv => ?_
      show tIfS _ _ _ _ [some s, some (.int 150), some pp, some (.ref p), some (.int (i : Int)), some (.ref pt), some (.int (j : Int)), some v, z8] H3
      have B3 := B.up e3
      have Bt3 := Bt.up e3
      have fin : ∀ (o : Option (Int × Int)) (z8 : Option V) (H4 H5 : Hp), Acc K H p linkD ls H4 → Acc K H pt pairO (ts ++ [o]) H5 → ExB pt H4 H5 → NoT H4 pt → (∀ x, o = some x → ∃ p, lk0.times[ts.length]? = some (some p) ∧ p.1 ≤ x.1) →
          ∃ (z6 z7 z8' : Option V) (ts' : List (Option (Int × Int))), ([some s, some (.int 150), some pp, some (.ref p), some (.int (i : Int)), some (.ref pt), some (.int (j : Int)), some v, z8] : L2.St) = [some s, some (.int 150), some pp, some (.ref p), some (.int (i : Int)), some (.ref pt), z6, z7, z8'] ∧ Acc K H p linkD ls H5 ∧ Acc K H pt pairO ts' H5 ∧ ts'.length = j + 1 ∧ TimeOk lk0 ts' := fun o z8 H4 H5 B4 Bt5 b nt ho =>
        ⟨_, _, _, ts ++ [o], rfl, B4.other no_link b npp (b.ex B4.ex Bt5.new) nt, Bt5, by rw [List.length_append, htl]; rfl, timeOk_snoc hto ho⟩
      cases ob with
      | none =>
        have ev := dp_non hv
        subst ev
        refine s_if (b := true) (et_BT (ev_isN (ev_var (v := .non) (i := 7) rfl)) rfl) (fun _ H4 e4 => ?_) (fun z => by cases z)
        exact s_acc (Bt3.up e4) no_pairO (ev_var (i := 5) rfl) (b := none) (ed_non ev_c) (by omega) fun H5 Bt5 b5 => fin none _ H4 H5 (B3.up e4) Bt5 b5 (Bt3.up e4).noT fun x hx => by cases hx
      | some pr =>
        have hvd : Dp K H3 v (.tuple [.int pr.1, .int pr.2]) := hv
        have hne : decide (v = .non) = false := by
          obtain ⟨_, _, ev, _⟩ := dp_tup hvd
          rw [ev]
          rfl
        refine s_if (b := false) (et_BT (ev_isN (ev_var (v := v) (i := 7) rfl)) hne) (fun z => by cases z) (fun _ H4 e4 => ?_)
        have hv4 : EvD K (tVar 7) [some s, some (.int 150), some pp, some (.ref p), some (.int (i : Int)), some (.ref pt), some (.int (j : Int)), some v, z8] H4 (.tuple [.int pr.1, .int pr.2]) := ed_var (i := 7) rfl (hvd.up e4)
        have lo := ev_int (ed_ixT hv4 (ev_c (v := .int 0)) (atI_of (i := 0) rfl))
        have hi' := ev_int (ed_ixT hv4 (ev_c (v := .int 1)) (atI_of (i := 1) rfl))
        obtain ⟨g1, g2, g3⟩ := g.lv lk0 hlm pr (List.mem_of_getElem? htj)
        have hix : Ev (tOp (rAddI) (tOp (rAddI) (tVar 1) (tOp (rMulI) (tC (.int 3)) (tVar 4))) (tVar 6)) [some s, some (.int 150), some pp, some (.ref p), some (.int (i : Int)), some (.ref pt), some (.int (j : Int)), some v, z8] H4 (.int ((150 + 3 * i + j : Nat) : Int)) := by
          rw [show ((150 + 3 * i + j : Nat) : Int) = 150 + 3 * (i : Int) + (j : Int) by omega]
          exact ev_add (ev_add (ev_var rfl) (ev_mul ev_c (ev_var rfl) (.inl ⟨by decide, by decide⟩))) (ev_var rfl)
        have hpk := ep_pick (K := K) (C := C) (s := s) (ns := ns) (ta := tVar 0) ((hs.up B3.ex).up e4) hN (ev_var rfl) hix (by omega) (ev_add (ev_sub hi' lo) (ev_c (v := .int 1))) (by omega)
        refine q_asgP (ep_add lo hpk fun v H5 hv => by obtain ⟨r, h, _⟩ := hv; exact ⟨r, h⟩) fun w H5 e5 hw => ?_
        obtain ⟨c, rfl, c', hc', c0, c1⟩ := hw
        cases hc'
        show tDrop _ _ [some s, some (.int 150), some pp, some (.ref p), some (.int (i : Int)), some (.ref pt), some (.int (j : Int)), some v, some (.int (pr.1 + c))] H5
        exact s_acc ((Bt3.up e4).up e5) no_pairO (ev_var (i := 5) rfl) (b := some (pr.1 + c, pr.1 + c)) (ed_tup (eda_cons (ed_int (ev_var (i := 8) rfl)) (eda_cons (ed_int (ev_var (i := 8) rfl)) eda_nil)) (by simp)) (by omega) fun H6 Bt6 b6 => fin _ _ H5 H6 ((B3.up e4).up e5) Bt6 b6 ((Bt3.up e4).up e5).noT fun x hx => by
          cases hx
          exact ⟨pr, by rw [htl]; exact htj, by show pr.1 ≤ pr.1 + c; omega⟩
    · obtain ⟨z6, z7, z8, ts, rfl, B, Bt, htl, hto⟩ := hP
      have hsl := ed_slT (K := K) (tl := tNoPart) (th := tPart (tC (.int 3))) (ds := [.str lk0.name, .str lk0.one, .str lk0.other, .tuple (lk0.times.map pairO)]) (cell (some (.ref pt)) z6 z7 z8 H' B.ex) eo_none (eo_some (ev_c (v := .int 3))) (by
        rintro ⟨_, z⟩
        cases z)
      have hcat := ed_catT (es := [.tuple (ts.map pairO)]) hsl (ed_tup (eda_cons (ed_tup2 (ed_var (i := 5) rfl Bt.dp)) eda_nil) (by simp)) (fun z => by cases z) (fun z => by cases z) (by
        show 3 + 1 ≤ 100000
        decide)
      have ecut : cutD [.str lk0.name, .str lk0.one, .str lk0.other, .tuple (lk0.times.map pairO)] none (some 3) = [.str lk0.name, .str lk0.one, .str lk0.other] := cut_take (i := 3) (by show 3 ≤ 4; decide)
      rw [ecut] at hcat
      refine s_acc (eb := linkD) B no_link (ev_var (i := 3) rfl) (b := Link.mk lk0.name lk0.one lk0.other ts) hcat (by omega) fun H3 A3 _ => ⟨_, _, _, _, _, ls ++ [⟨lk0.name, lk0.one, lk0.other, ts⟩], rfl, A3, by rw [List.length_append, hll]; rfl, fun l' hl' => ?_⟩
      rcases List.mem_append.mp hl' with h | h
      · exact hls l' h
      · rw [List.mem_singleton.mp h]
        exact ⟨⟨lk0, hlm, rfl, rfl, timeOk_le hto _ _ _⟩, htl⟩
  · obtain ⟨z4, z5, z6, z7, z8, ls, rfl, A, hll, hls⟩ := hP
    obtain ⟨y1, hy1, hyd1, hyn1⟩ := wds (some (.ref p)) z4 z5 z6 z7 z8 H' A.ex
    obtain ⟨y2, hy2, hyd2⟩ := pt_1 (ta := tVar 2) (σ := [some s, some (.int 150), some pp, some (.ref p), z4, z5, z6, z7, z8]) (H := H') (ev_var rfl) (hp.up A.ex)
    obtain ⟨y4, hy4, hyd4⟩ := pt_3 (ta := tVar 2) (σ := [some s, some (.int 150), some pp, some (.ref p), z4, z5, z6, z7, z8]) (H := H') (ev_var rfl) (hp.up A.ex)
    refine s_retP (ep_lst4 (K := K) (P1 := fun v H' => Dp K H' v (.tuple (Pt.winds.map .str)) ∧ NoDk H' v) (P2 := fun v H' => Dp K H' v (.tuple (Pt.places.map .str))) (P3 := fun v H' => Dp K H' v (.tuple (ls.map linkD))) (P4 := fun v H' => Dp K H' v (.tuple (Pt.paths.map pathD)))
      (evp_of hy1 fun H3 e3 => ⟨hyd1.up e3, hyn1.up e3⟩) (evp_of hy2 fun H3 e3 => hyd2.up e3) (ed_tup2 (ed_var (i := 3) rfl A.dp)) (evp_of hy4 fun H3 e3 => hyd4.up e3) (fun _ _ _ e h => ⟨h.1.up e, h.2.up e⟩) (fun _ _ _ e h => h.up e) (fun _ _ _ e h => h.up e) (fun _ _ _ e h => h.up e)) fun v H3 e3 hv => ?_
    obtain ⟨a, x1, x2, x3, x4, rfl, h1, h2, h3, h4, h5⟩ := hv
    exact q _ _ (A.ex.trans e3) ⟨ls, ⟨a, x1, x2, x3, x4, rfl, h1, h2.2, h2.1, h3, h4, h5⟩, ⟨fun l' hl' => (hls l' hl').1⟩, hll, fun l' hl' => (hls l' hl').2⟩
theorem p_Ldrawn_walk : PureOk (R_Ldrawn_walk K C) (t_Ldrawn_walk K C) N_Ldrawn_walk := by
  rintro vs H P Q ⟨pp, s, ns, Pt, rfl, hp, g, hs, hN, rfl⟩ q
  show t_Ldrawn_walk K C (endQ Q) [some pp, some s, some (.int 185), none, none, none, none, none, none] H
  have p1 := g.p1
  obtain ⟨x1, hx1, hxd1⟩ := pt_1 (ta := tVar 0) (σ := [some pp, some s, some (.int 185), none, none, none, none, none, none]) (H := H) (ev_var rfl) hp
  have hl1 := ev_lenT (evd_of hx1 hxd1)
  rw [List.length_map] at hl1
  refine q_asgP (ep_ixT (ea := PyData.str) (as := Pt.places) (evd_of hx1 hxd1) (ep_pick (K := K) (C := C) (k := 185) hs hN (ev_var (i := 1) rfl) (ev_var (i := 2) rfl) (by decide) hl1 (by omega)) (Int.le_refl _)) fun v H1 e1 hv => ?_
  obtain ⟨q0, hq0, hv⟩ := hv
  have ev := dp_str hv
  subst ev
  show tSeq _ _ _ [some pp, some s, some (.int 185), some (.str q0), none, none, none, none, none] H1
  have idx : ∀ (z3 z4 z5 z6 z7 z8 : Option V) (H2 : Hp) (c : Nat), Ev (tOp rAddI (tVar 2) (tC (.int (c : Int)))) [some pp, some s, some (.int 185), z3, z4, z5, z6, z7, z8] H2 (.int ((185 + c : Nat) : Int)) := fun z3 z4 z5 z6 z7 z8 H2 c => by
    rw [show ((185 + c : Nat) : Int) = 185 + (c : Int) by omega]
    exact ev_add (ev_var rfl) ev_c
  refine q_asgP (ep_pick (K := K) (C := C) (most := 12) (hs.up e1) hN (ev_var (i := 1) rfl) (idx _ _ _ _ _ _ H1 1) (by decide) ev_c (by decide)) fun v H2 e2 hv => ?_
  obtain ⟨m0, rfl, hm0, _⟩ := hv
  show tSeq _ _ _ [some pp, some s, some (.int 185), some (.str q0), some (.int m0), none, none, none, none] H2
  refine q_asgN (K := K) (ds := [rowD (q0, m0)]) (en_lst (eda_cons (ed_tup (eda_cons (ed_str (ev_var (i := 3) rfl)) (eda_cons (ed_int (ev_var (i := 4) rfl)) eda_nil)) (by simp)) eda_nil) (by simp)) fun p xs H3 hp3 e3 hx hd => ?_
  have e12 := e1.trans e2
  have A0 : Acc K H p rowD [(q0, m0)] H3 := Acc.back ⟨hp3, e3, xs, hx, hd⟩ e12
  show tSeq _ _ _ [some pp, some s, some (.int 185), some (.str q0), some (.int m0), some (.ref p), none, none, none] H3
  refine q_rngP (b := 4) (j := 6) (ep_pick (K := K) (C := C) (most := 4) (hs.up A0.ex) hN (ev_var (i := 1) rfl) (idx _ _ _ _ _ _ H3 2) (by decide) ev_c (by decide)) (by decide) fun n hn => ⟨fun i σ' H' => ∃ (pl : Str) (mi : Int) (z6 z7 z8 : Option V) (r : Rws), σ' = [some pp, some s, some (.int 185), some (.str pl), some (.int mi), some (.ref p), z6, z7, z8] ∧ pl ∈ Pt.places ∧ Acc K H p rowD ((q0, m0) :: r) H' ∧ (∀ x ∈ r, x.1 ∈ Pt.places) ∧ r.length ≤ i,
    (fun H4 e4 => ⟨q0, m0, none, none, none, [], rfl, hq0, A0.up e4, (fun x h => by cases h), Nat.le_refl _⟩), (fun i σ' H' hi hP => ?_), fun σ' H' hP => ?_⟩
  · obtain ⟨pl, mi, z6, z7, z8, r, rfl, hpl, A, hr, hrl⟩ := hP
    show tSeq _ _ _ [some pp, some s, some (.int 185), some (.str pl), some (.int mi), some (.ref p), some (.int (i : Int)), z7, z8] H'
    have hwk : EvD K (tCall (spOf (R_Lwalks K C)) [] E0 (tCons (tVar 0) (tCons (tVar 3) tNil))) [some pp, some s, some (.int 185), some (.str pl), some (.int mi), some (.ref p), some (.int (i : Int)), z7, z8] H' (.list ((walksM Pt.paths pl).map pairD)) :=
      EvP.toD (ep_own (ea_cons (ev_var (i := 0) rfl) (ea_cons (ev_var (i := 3) rfl) ea_nil)) fun H5 e5 => ⟨_, ⟨pp, Pt, pl, rfl, (hp.up A.ex).up e5, g, rfl⟩, fun _ _ _ h => h⟩)
    refine q_asgD hwk fun vw H4 e4 hvw => ?_
    have A4 := A.up e4
    show tIfS _ _ _ _ [some pp, some s, some (.int 185), some (.str pl), some (.int mi), some (.ref p), some (.int (i : Int)), some vw, z8] H4
    have hlw := ev_lenL (ed_var (σ := [some pp, some s, some (.int 185), some (.str pl), some (.int mi), some (.ref p), some (.int (i : Int)), some vw, z8]) (i := 7) (H := H4) rfl hvw)
    rw [List.length_map] at hlw
    refine s_when (et_test (ev_gt hlw (ev_c (v := .int 0)))) (fun hc H5 e5 => ?_) (fun hc H5 e5 => ⟨pl, mi, _, _, _, r, rfl, hpl, A4.up e5, hr, Nat.le_succ_of_le hrl⟩)
    have hpos : (0 : Int) < ((walksM Pt.paths pl).length : Nat) := of_decide_eq_true hc
    have A5 := A4.up e5
    have idx2 : ∀ (c : Nat) (z3 z4 z7 z8 : Option V) (H6 : Hp), Ev (tOp (rAddI) (tOp (rAddI) (tVar 2) (tC (.int (c : Int)))) (tOp (rMulI) (tC (.int 2)) (tVar 6))) [some pp, some s, some (.int 185), z3, z4, some (.ref p), some (.int (i : Int)), z7, z8] H6 (.int ((185 + c + 2 * i : Nat) : Int)) := fun c z3 z4 z7 z8 H6 => by
      rw [show ((185 + c + 2 * i : Nat) : Int) = 185 + (c : Int) + 2 * (i : Int) by omega]
      exact ev_add (ev_add (ev_var rfl) ev_c) (ev_mul ev_c (ev_var rfl) (.inl ⟨by decide, by decide⟩))
    have hlw5 := hlw.mono e5
    refine q_asgGP (ep_ixL (ea := pairD) (as := walksM Pt.paths pl) (ed_var (i := 7) rfl (hvw.up e5)) (ep_pick (K := K) (C := C) (hs.up A5.ex) hN (ev_var (i := 1) rfl) (idx2 3 _ _ _ _ H5) (by omega) hlw5 hpos) (Int.le_refl _)) fun v H6 e6 hv => ?_
    obtain ⟨w, hw, hv⟩ := hv
    obtain ⟨v1, v2, d1, d2, hg⟩ := gs_pair (g1 := gName 3) (g2 := gName 8) hv
    have y1 := dp_str d1
    have y2 := dp_int d2
    subst y1 y2
    refine ⟨_, hg gs_name gs_name, ?_⟩
    have A6 := A5.up e6
    show tSeq _ _ _ [some pp, some s, some (.int 185), some (.str w.1), some (.int mi), some (.ref p), some (.int (i : Int)), some vw, some (.int w.2)] H6
    have hwp := (walks_pos g (show (w.1, w.2) ∈ walksM Pt.paths pl from hw)).2.1
    have hl4 : EvD K (tLst (tCons (tC (.int 0)) (tCons (tC (.int 0)) (tCons (tC (.int 1)) (tCons (tC (.int 3)) tNil))))) [some pp, some s, some (.int 185), some (.str w.1), some (.int mi), some (.ref p), some (.int (i : Int)), some vw, some (.int w.2)] H6 (.list (([0, 0, 1, 3] : List Int).map .int)) :=
      (en_lst (eda_cons (ed_int ev_c) (eda_cons (ed_int ev_c) (eda_cons (ed_int ev_c) (eda_cons (ed_int ev_c) eda_nil)))) (by simp)).toD
    have hex := ep_ixL (ea := PyData.int) hl4 (ep_pick (K := K) (C := C) (most := 4) (hs.up A6.ex) hN (ev_var (i := 1) rfl) (idx2 4 _ _ _ _ H6) (by omega) ev_c (by decide)) (Int.le_refl _)
    refine q_asgP (ep_add (ev_add (i := mi) (j := w.2) (ev_var rfl) (ev_var rfl)) hex fun v H7 hv => by
      obtain ⟨c, _, hc⟩ := hv
      exact ⟨c, dp_int hc⟩) fun v H7 e7 hv => ?_
    obtain ⟨c, rfl, _⟩ := hv
    show tDrop _ _ [some pp, some s, some (.int 185), some (.str w.1), some (.int (mi + w.2 + c)), some (.ref p), some (.int (i : Int)), some vw, some (.int w.2)] H7
    refine s_acc (A6.up e7) no_row (ev_var (i := 5) rfl) (b := (w.1, mi + w.2 + c)) (ed_tup (eda_cons (ed_str (ev_var (i := 3) rfl)) (eda_cons (ed_int (ev_var (i := 4) rfl)) eda_nil)) (by simp)) (by rw [List.length_cons]; omega) fun H8 A8 _ => ⟨w.1, mi + w.2 + c, _, _, _, r ++ [(w.1, mi + w.2 + c)], rfl, hwp, A8, fun x hx => ?_, ?_⟩
    · rcases List.mem_append.mp hx with h | h
      · exact hr x h
      · rw [List.mem_singleton.mp h]
        exact hwp
    · rw [List.length_append]
      exact Nat.succ_le_succ hrl
  · obtain ⟨pl, mi, z6, z7, z8, r, rfl, hpl, A, hr, hrl⟩ := hP
    refine s_retD (ed_var (i := 5) rfl A.dp) fun v H4 e4 hv => q _ _ (A.ex.trans e4) ⟨q0, m0, r, hv, fun x hx => ?_, hm0, by omega⟩
    rcases List.mem_cons.mp hx with h | h
    · rw [h]
      exact hq0
    · exact hr x h
end
end Ef
/-! ==== EfP14 -/
set_option Elab.async false
set_option linter.all false
set_option maxRecDepth 100000
set_option maxHeartbeats 1000000
/-! The law's defs, sixth part: its fire, the law. -/
namespace Ef
open PySem L2 Evl
/-- the heap of the law's fire -/
structure FiH (H H' : Hp) (ea ba : Addr) (el bl : List (Str × Int)) : Prop where
  ex : Ex H H'
  e : H' ea = some (.dK (dk el))
  b : H' ba = some (.dK (dk bl))
theorem FiH.up {H H1 H2 : Hp} {ea ba : Addr} {el bl : List (Str × Int)} (h : FiH H H1 ea ba el bl) (e : Ex H1 H2) : FiH H H2 ea ba el bl := ⟨h.ex.trans e, e _ _ h.e, e _ _ h.b⟩
theorem FiH.putB {H H1 : Hp} {ea ba : Addr} {el bl bl' : List (Str × Int)} (h : FiH H H1 ea ba el bl) (nb : H ba = none) (ne : ea ≠ ba) : FiH H (upd H1 ba (.dK (dk bl'))) ea ba el bl' := ⟨Ex.mut h.ex nb, by rw [upd_ne ne]; exact h.e, upd_same⟩
def AllR (winds : List Str) (links : List Link) (W : Wea) (S B : Rws) (bl : List (Str × Int)) : Prop := ∀ q m, lk bl q = some m → Reach winds links W S B q m
theorem allR_put {winds : List Str} {links : List Link} {W : Wea} {S B : Rws} {bl : List (Str × Int)} (h : AllR winds links W S B bl) {p : Str} {m : Int} (hr : Reach winds links W S B p m) : AllR winds links W S B (putL bl p m) := fun q n hq => by
  rw [lk_put] at hq
  by_cases c : q = p
  · rw [if_pos c] at hq
    rw [c, ← Option.some.inj hq]
    exact hr
  · rw [if_neg c] at hq
    exact h q n hq
section
variable {K : Frg} {C : Addr}
theorem p_Lfire : PureOk (R_Lfire K C) (t_Lfire K C) N_Lfire := by
  rintro vs H P Q ⟨pp, w, s, b, Pt, W, S, B, rfl, hp, hw, gw, pl, ll, lt, hs, hb, sl, bll, le, sk, rfl⟩ q
  show t_Lfire K C (endQ Q) [some pp, some w, some s, some b, some (.int 0), none, none, none, none, none, none, none] H
  refine q_dnew fun ea hea => ?_
  show tSeq _ _ _ [some pp, some w, some s, some b, some (.int 0), some (.ref ea), none, none, none, none, none, none] _
  refine q_for0 (K := K) (ea := rowD) (as := B) (H0 := H) (ei_list0 (K := K) (ev_var (i := 3) rfl) hb) (Ex.new hea) (fun i σ' H' => ∃ (z1 z2 : Option V) (l : List (Str × Int)), σ' = [some pp, some w, some s, some b, some (.int 0), some (.ref ea), z1, z2, none, none, none, none] ∧ DAcc H ea l H' ∧ LeastOf (B.take i) (lk l) ∧ l.length ≤ i)
    (fun H1 e1 => ⟨none, none, [], rfl, ⟨hea, (Ex.new hea).trans e1, e1 _ _ upd_same⟩, by rw [List.take_zero]; exact least_nil, Nat.le_refl _⟩) (fun i σ' H' hP => by obtain ⟨_, _, _, _, A, _⟩ := hP; exact A.ex) (fun i a x σ' H' Hb hi hP eb hx => ?_) fun σ' H' hP => ?_
  · obtain ⟨z1, z2, l, rfl, A, hle, hlen⟩ := hP
    have A2 := A.up eb
    obtain ⟨v1, v2, d1, d2, hg⟩ := gs_pair (g1 := gName 6) (g2 := gName 7) hx
    have x1 := dp_str d1
    have x2 := dp_int d2
    subst x1 x2
    refine ⟨_, hg gs_name gs_name, ?_⟩
    have hi2 := get_lt hi
    refine s_dputI (l := l) (p := a.1) (ev_min2 (ev_var (i := 7) rfl) (ev_dget2I (ev_var (i := 5) rfl) (ev_var (i := 6) rfl) (ev_var (i := 7) rfl) A2.at_)) (ev_var (i := 5) rfl) (ev_var (i := 6) rfl) A2.at_ (by omega) fun H1 e1 => ⟨_, _, _, rfl, A2.upd e1, ?_, ?_⟩
    · rw [take_snoc hi]
      exact least_step hle a
    · exact Nat.le_trans (len_put _ _ _) (Nat.succ_le_succ hlen)
  obtain ⟨z1, z2, el, rfl, Ae, hle, hlen⟩ := hP
  rw [List.take_length] at hle
  refine q_dnew fun ba hba => ?_
  have nb : H ba = none := fresh_back Ae.ex hba
  have neb : ea ≠ ba := fun z => by
    rw [← z, Ae.at_] at hba
    cases hba
  have en := Ex.new (o := .dK []) hba
  have F0 : FiH H (upd H' ba (.dK [])) ea ba el [] := ⟨Ae.ex.trans en, en _ _ Ae.at_, upd_same⟩
  show tSeq _ _ _ [some pp, some w, some s, some b, some (.int 0), some (.ref ea), z1, z2, some (.ref ba), none, none, none] _
  refine q_for0 (K := K) (ea := rowD) (as := S) (H0 := H) (ei_list0 (K := K) (ev_var (i := 2) rfl) hs) F0.ex (fun i σ' H' => ∃ (z1 z2 : Option V) (bl : List (Str × Int)), σ' = [some pp, some w, some s, some b, some (.int 0), some (.ref ea), z1, z2, some (.ref ba), none, none, none] ∧ FiH H H' ea ba el bl ∧ KOk Pt.places bl ∧ AllR Pt.winds Pt.links W S B bl)
    (fun H1 e1 => ⟨_, _, [], rfl, F0.up e1, KOk.nil _, fun q m h => by cases h⟩) (fun i σ' H' hP => by obtain ⟨_, _, _, _, A, _⟩ := hP; exact A.ex) (fun i a x σ' H' Hb hi hP eb hx => ?_) fun σ' H' hP => ?_
  · obtain ⟨z1, z2, bl, rfl, A, hk, hR⟩ := hP
    have A2 := A.up eb
    obtain ⟨v1, v2, d1, d2, hg⟩ := gs_pair (g1 := gName 6) (g2 := gName 7) hx
    have x1 := dp_str d1
    have x2 := dp_int d2
    subst x1 x2
    refine ⟨_, hg gs_name gs_name, ?_⟩
    show tIfS _ _ _ _ [some pp, some w, some s, some b, some (.int 0), some (.ref ea), some (.str a.1), some (.int a.2), some (.ref ba), none, none, none] Hb
    have t1 := et_ahead (bl := el) (ev_var (σ := [some pp, some w, some s, some b, some (.int 0), some (.ref ea), some (.str a.1), some (.int a.2), some (.ref ba), none, none, none]) (v := .str a.1) (i := 6) rfl) (ev_var (v := .ref ea) (i := 5) rfl) (ev_var (v := .int a.2) (i := 7) rfl) A2.e
    have t2 := et_ahead (bl := bl) (ev_var (σ := [some pp, some w, some s, some b, some (.int 0), some (.ref ea), some (.str a.1), some (.int a.2), some (.ref ba), none, none, none]) (v := .str a.1) (i := 6) rfl) (ev_var (v := .ref ba) (i := 8) rfl) (ev_var (v := .int a.2) (i := 7) rfl) A2.b
    refine s_when (et_and t1 fun _ => t2) (fun hc H3 e3 => ?_) (fun hc H3 e3 => ⟨_, _, bl, rfl, A2.up e3, hk, hR⟩)
    obtain ⟨c1, c2⟩ := Bool.and_eq_true_iff.mp hc
    have ham := List.mem_of_getElem? hi
    refine s_dputI (l := bl) (p := a.1) (ev_var (i := 7) rfl) (ev_var (i := 8) rfl) (ev_var (i := 6) rfl) (A2.up e3).b (by have := hk.len; omega) fun H4 e4 => ⟨_, _, _, rfl, ((A2.up e3).up e4).putB nb neb, hk.put (sk a ham) _, allR_put hR (.start ham ((hle.ahead _ _).mpr (aheadB_iff.mp c1)))⟩
  obtain ⟨z1, z2, bl, rfl, A, hk, hR⟩ := hP
  have pls : ∀ (z6 z7 z9 z10 z11 : Option V) (H2 : Hp), Ex H H2 → Ev (tOp (rAddI) (tCB (rLen2 K) (tCons (tOp (rIxL K) (tVar 0) (tC (.int 1))) tNil)) (tC (.int 1))) [some pp, some w, some s, some b, some (.int 0), some (.ref ea), z6, z7, some (.ref ba), z9, z10, z11] H2 (.int ((Pt.places.length + 1 : Nat) : Int)) := fun z6 z7 z9 z10 z11 H2 e2 => by
    obtain ⟨x, hx, hxd⟩ := pt_1 (ta := tVar 0) (σ := [some pp, some w, some s, some b, some (.int 0), some (.ref ea), z6, z7, some (.ref ba), z9, z10, z11]) (H := H2) (ev_var rfl) (hp.up e2)
    have h := ev_add (ev_lenT (evd_of hx hxd)) (ev_c (v := .int 1))
    rw [List.length_map] at h
    exact h
  refine q_rng (j := 9) (n := Pt.places.length + 1) (ea_cons (pls _ _ _ _ _ _ A.ex) ea_nil) (by omega) (fun i σ' H' => ∃ (z6 z7 z9 z10 z11 : Option V) (bl : List (Str × Int)), σ' = [some pp, some w, some s, some b, some (.int 0), some (.ref ea), z6, z7, some (.ref ba), z9, z10, z11] ∧ FiH H H' ea ba el bl ∧ KOk Pt.places bl ∧ AllR Pt.winds Pt.links W S B bl)
    (fun H2 e2 => ⟨_, _, _, _, _, bl, rfl, A.up e2, hk, hR⟩) (fun i σ' H' hi hP => ?_) (fun σ' H' hP => ?_)
  · obtain ⟨z6, z7, z9, z10, z11, bl, rfl, A, hk, hR⟩ := hP
    obtain ⟨xl, hxl, hxld⟩ := pt_2 (ta := tVar 0) (σ := [some pp, some w, some s, some b, some (.int 0), some (.ref ea), z6, z7, some (.ref ba), some (.int (i : Int)), z10, z11]) (H := H) (ev_var rfl) hp
    show tFor _ _ _ _ [some pp, some w, some s, some b, some (.int 0), some (.ref ea), z6, z7, some (.ref ba), some (.int (i : Int)), z10, z11] H'
    refine s_for0 (K := K) (ea := linkD) (as := Pt.links) (H0 := H) (ei_tup0 (K := K) hxl hxld) A.ex (fun j σ' H' => ∃ (z10 z11 : Option V) (bl : List (Str × Int)), σ' = [some pp, some w, some s, some b, some (.int 0), some (.ref ea), z6, z7, some (.ref ba), some (.int (i : Int)), z10, z11] ∧ FiH H H' ea ba el bl ∧ KOk Pt.places bl ∧ AllR Pt.winds Pt.links W S B bl)
      (fun H2 e2 => ⟨_, _, bl, rfl, A.up e2, hk, hR⟩) (fun j σ' H' hP => by obtain ⟨_, _, _, _, A, _⟩ := hP; exact A.ex) (fun j l x σ' H' Hb hj hP eb hx => ?_) (fun σ' H' hP => ?_)
    · obtain ⟨z10, z11, bl, rfl, A, hk, hR⟩ := hP
      have A2 := A.up eb
      have hlm := List.mem_of_getElem? hj
      refine ⟨_, gs_name, ?_⟩
      show tIfS _ _ _ _ [some pp, some w, some s, some b, some (.int 0), some (.ref ea), z6, z7, some (.ref ba), some (.int (i : Int)), some x, z11] Hb
      have one : ∀ (z11 : Option V) (H3 : Hp), Ex Hb H3 → Ev (tOp (rIxT K) (tVar 10) (tC (.int 1))) [some pp, some w, some s, some b, some (.int 0), some (.ref ea), z6, z7, some (.ref ba), some (.int (i : Int)), some x, z11] H3 (.str l.one) := fun z11 H3 e3 => ev_str (ed_ixT (ed_var (d := linkD l) (i := 10) rfl (hx.up e3)) (ev_c (v := .int 1)) (atI_of (i := 1) rfl))
      have oth : ∀ (z11 : Option V) (H3 : Hp), Ex Hb H3 → Ev (tOp (rIxT K) (tVar 10) (tC (.int 2))) [some pp, some w, some s, some b, some (.int 0), some (.ref ea), z6, z7, some (.ref ba), some (.int (i : Int)), some x, z11] H3 (.str l.other) := fun z11 H3 e3 => ev_str (ed_ixT (ed_var (d := linkD l) (i := 10) rfl (hx.up e3)) (ev_c (v := .int 2)) (atI_of (i := 2) rfl))
      have t1 := ev_dinI (l := bl) (td := tVar 8) (one z11 Hb (Ex.refl _)) (ev_var rfl) A2.b
      refine s_when (et_B t1) (fun hc H3 e3 => ?_) (fun hc H3 e3 => ⟨_, _, bl, rfl, A2.up e3, hk, hR⟩)
      obtain ⟨m, hm⟩ := Option.isSome_iff_exists.mp hc
      have A3 := A2.up e3
      have hca : Ev (tCall (spOf (R_Lcaught K C)) [] E0 (tCons (tVar 0) (tCons (tVar 1) (tCons (tVar 10) (tCons (tDGet (tVar 8) (tOp (rIxT K) (tVar 10) (tC (.int 1)))) (tCons (tVar 4) tNil)))))) [some pp, some w, some s, some b, some (.int 0), some (.ref ea), z6, z7, some (.ref ba), some (.int (i : Int)), some x, z11] H3 (optV (caughtM Pt.winds W (leastRow l) m)) :=
        ev_own (ea_cons (ev_var (i := 0) rfl) (ea_cons (ev_var (i := 1) rfl) (ea_cons (ev_var (i := 10) rfl) (ea_cons (ev_dgetI (td := tVar 8) (ev_var rfl) (one z11 H3 e3) A3.b hm) (ea_cons (ev_var (i := 4) rfl) ea_nil))))) fun H4 e4 => ⟨pp, w, x, Pt, W, l, m, rfl, (hp.up A3.ex).up e4, (hw.up A3.ex).up e4, gw, (hx.up e3).up e4, lt l hlm, rfl⟩
      refine q_asg hca fun H4 e4 => ?_
      have A4 := A3.up e4
      show tIfS _ _ _ _ [some pp, some w, some s, some b, some (.int 0), some (.ref ea), z6, z7, some (.ref ba), some (.int (i : Int)), some x, some (optV (caughtM Pt.winds W (leastRow l) m))] H4
      cases ec : caughtM Pt.winds W (leastRow l) m with
      | none => exact s_when (b := false) (et_and (a := false) (b := false) (et_BT (ev_notN (ev_var (v := .non) (i := 11) rfl)) rfl) fun z => by cases z) (fun z => by cases z) fun _ H5 e5 => ⟨_, _, bl, rfl, A4.up e5, hk, hR⟩
      | some e =>
        have e34 := e3.trans e4
        have ta := et_ahead (bl := el) (oth (some (.int e)) H4 e34) (ev_var (v := .ref ea) (i := 5) rfl) (ev_var (v := .int e) (i := 11) rfl) A4.e
        refine s_when (et_and (a := true) (et_BT (ev_notN (ev_var (v := .int e) (i := 11) rfl)) rfl) fun _ => ta) (fun hc2 H5 e5 => ?_) (fun hc2 H5 e5 => ⟨_, _, bl, rfl, A4.up e5, hk, hR⟩)
        have hc3 : aheadB el l.other e = true := by simpa using hc2
        have A5 := A4.up e5
        have tb := et_ahead (bl := bl) (oth (some (.int e)) H5 (e34.trans e5)) (ev_var (v := .ref ba) (i := 8) rfl) (ev_var (v := .int e) (i := 11) rfl) A5.b
        refine s_when tb (fun hc4 H6 e6 => ?_) (fun hc4 H6 e6 => ⟨_, _, bl, rfl, A5.up e6, hk, hR⟩)
        refine s_dputI (l := bl) (p := l.other) (ev_var (v := .int e) (i := 11) rfl) (ev_var (i := 8) rfl) (oth _ H6 ((e34.trans e5).trans e6)) (A5.up e6).b (by have := hk.len; omega) fun H7 e7 => ⟨_, _, _, rfl, ((A5.up e6).up e7).putB nb neb, hk.put (le l hlm).2 _, allR_put hR (.step (hR _ _ hm) hlm ec ((hle.ahead _ _).mpr (aheadB_iff.mp hc3)))⟩
    · obtain ⟨z10, z11, bl, rfl, A, hk, hR⟩ := hP
      exact ⟨_, _, _, _, _, bl, rfl, A, hk, hR⟩
  · obtain ⟨z6, z7, z9, z10, z11, bl, rfl, A, hk, hR⟩ := hP
    exact s_ret (ev_var (i := 8) rfl) fun H2 e2 => q _ _ (A.ex.trans e2) ⟨bl, ⟨ba, rfl, e2 _ _ A.b⟩, hR⟩
theorem gs_fourV {σ : L2.St} {H : Hp} {a : Addr} {v1 v2 v3 v4 : V} {i j k l : Nat} (hs : SqT K H a [v1, v2, v3, v4]) : GSet (gTup K 4 (gCons (gName i) (gCons (gName j) (gCons (gName k) (gCons (gName l) gNil))))) (.ref a) σ H ((((σ.set i (some v1)).set j (some v2)).set k (some v3)).set l (some v4)) :=
  fun H1 e Q q => ⟨a, _, rfl, ex_t e hs, rfl, _, _, rfl, _, _, rfl, _, _, rfl, _, _, rfl, rfl, q⟩
/-- if not e: .. -/
theorem q_notP {te : TE} {tu tz : TS} {D : Ends} {σ : L2.St} {H : Hp} {P : V → Hp → Prop} (h : EvP te σ H P) (hp : ∀ v H1, Ex H H1 → P v H1 → ∃ c, v = .bl c ∧ (c = false → tu { D with nx := tz D } σ H1) ∧ (c = true → tz D σ H1)) : tSeq (tIfS (tNot (tB te)) tu tNext) tz D σ H := h H (Ex.refl _) _ fun v H1 e1 hv => by
  obtain ⟨c, rfl, k1, k2⟩ := hp v H1 e1 hv
  refine ⟨c, rfl, ?_⟩
  cases c with
  | true => exact k2 rfl
  | false => exact k1 rfl
theorem ev_inP {ta tb : TE} {σ : L2.St} {H : Hp} {s : Str} (ha : Ev ta σ H (.str s)) (hb : EvP tb σ H (fun v H' => ∃ ps : List Str, Dp K H' v (strsD ps) ∧ s ∈ ps)) : Ev (tOp (rIn K false) ta tb) σ H (.bl true) := fun H1 a Q q =>
  ha H1 a _ fun H2 e2 => hb H2 (a.trans e2) _ fun v H3 e3 hv => by
    obtain ⟨ps, hv, hm⟩ := hv
    obtain ⟨p, xs, rfl, hs, hx⟩ := dp_lst hv
    have ex := of_strs hx
    subst ex
    refine ⟨p, _, rfl, .inl hs, rfl, flat_str ps, ?_⟩
    have z := q H3 (e2.trans e3)
    show Q (.bl (inV _ _)) H3
    rw [inV_str, decide_eq_true hm]
    exact z
theorem p_law : PureOk (R_law K C) (t_law K C) N_law := by
  rintro vs H P Q ⟨s, ns, rfl, hs, rfl⟩ q
  show t_law K C (endQ Q) [some s, none, none, none, none, none, none, none, none, none, none] H
  refine q_asgP (P := fun v H' => ∃ ms, Dp K H' v (intsD ms) ∧ Nums ms) (ep_own (ea_cons (ev_var (i := 0) rfl) (ea_cons (ev_c (v := .int 200)) ea_nil)) fun H1 e1 => ⟨_, ⟨s, ns, rfl, hs.up e1, rfl⟩, fun _ _ _ h => h⟩) fun nv H1 e1 hnv => ?_
  obtain ⟨ms, hn, hN⟩ := hnv
  show tSeq _ _ _ [some s, some nv, none, none, none, none, none, none, none, none, none] H1
  refine q_asgGP (P := fun v H' => ∃ Pt W S B a p w s b, v = .ref a ∧ SqT K H' a [p, w, s, b] ∧ PartsAt K H' p Pt ∧ Pt.links.length ≤ 10 ∧ Pt.winds.length ≤ 3 ∧ Dp K H' w (weaD W) ∧ Dp K H' s (rowsD S) ∧ Dp K H' b (rowsD B) ∧ GoodP Pt ∧ GoodW Pt W ∧ GoodR Pt S ∧ GoodR Pt B)
    (ep_own (ea_cons (ev_var (i := 1) rfl) ea_nil) fun H2 e2 => ⟨_, ⟨nv, ms, rfl, hn.up e2, hN, rfl⟩, fun _ _ _ h => h⟩) fun v H2 e2 hv => ?_
  obtain ⟨Pt, W, S, B, a, pv, wv, sv, bv, rfl, hsq, hp, gl, gwn, hw, hS, hB, g, gw, gS, gB⟩ := hv
  refine ⟨_, gs_fourV hsq, ?_⟩
  have hn2 := hn.up e2
  show tSeq _ _ _ [some s, some nv, some pv, some wv, some sv, some bv, none, none, none, none, none] H2
  refine q_asgP (P := fun v H' => LandAt K C H' v Pt) (ep_own (ea_cons (ev_var (i := 2) rfl) ea_nil) fun H3 e3 => ⟨_, ⟨pv, Pt, rfl, hp.up e3, g, rfl⟩, fun _ _ _ h => h⟩) fun lv H3 e3 hl => ?_
  show tSeq _ _ _ [some s, some nv, some pv, some wv, some sv, some bv, some lv, none, none, none, none] H3
  have hdr : EvP (tCall (spOf (R_Lnumbers_of K C)) [] E0 (tCons (tVar 1) (tCons (tC (.int 150)) (tCons (tVar 2) tNil)))) [some s, some nv, some pv, some wv, some sv, some bv, some lv, none, none, none, none] H3 (fun v H' => ∃ ls, PartsAt K H' v { Pt with links := ls } ∧ Drawn Pt.links ls ∧ ls.length = Pt.links.length ∧ ∀ l ∈ ls, l.times.length = Pt.winds.length) :=
    ep_own (ea_cons (ev_var (i := 1) rfl) (ea_cons ev_c (ea_cons (ev_var (i := 2) rfl) ea_nil))) fun H4 e4 => ⟨_, ⟨nv, pv, ms, Pt, rfl, (hn2.up e3).up e4, hN, (hp.up e3).up e4, g, gl, gwn, rfl⟩, fun _ _ _ h => h⟩
  refine q_asgP (P := fun v H' => ∃ ls fl, DicI H' v fl ∧ Drawn Pt.links ls ∧ ∀ q m, lk fl q = some m → Reach Pt.winds ls W S B q m)
    (ep_ownA (epa_p hdr (EvA.p (ea_cons (ev_var (v := wv) (i := 3) rfl) (ea_cons (ev_var (v := sv) (i := 4) rfl) (ea_cons (ev_var (v := bv) (i := 5) rfl) (ea_cons (ev_c (v := .int 0)) ea_nil))))) fun v H1 H2 e h => by
      obtain ⟨ls, h1, h2⟩ := h
      exact ⟨ls, h1.up e, h2⟩) fun vs H4 e4 hv => by
      obtain ⟨x, r, rfl, ⟨ls, h1, h2, h3, h4⟩, rfl⟩ := hv
      have g2 := g.p2
      refine ⟨_, ⟨x, wv, sv, bv, { Pt with links := ls }, W, S, B, rfl, h1, (hw.up e3).up e4, ⟨gw.asc, gw.z, gw.wn, gw.len, gw.top⟩, (by show Pt.places.length ≤ 100; omega), (by show ls.length ≤ 100; omega), h4, (hS.up e3).up e4, (hB.up e3).up e4, gS.len, gB.len, fun l hl => ?_, gS.kn, rfl⟩, fun v H5 e5 h => ?_⟩
      · obtain ⟨l0, k1, k2, k3, _⟩ := h2.of l hl
        have := g.le l0 k1
        exact ⟨by rw [← k2]; exact this.1, by rw [← k3]; exact this.2.1⟩
      · obtain ⟨fl, h5, h6⟩ := h
        exact ⟨ls, fl, h5, h2, h6⟩) fun fv H4 e4 hfv => ?_
  obtain ⟨ls, fl, hfl, hdw, hre⟩ := hfv
  show tSeq _ _ _ [some s, some nv, some pv, some wv, some sv, some bv, some lv, some fv, none, none, none] H4
  have e24 := e3.trans e4
  have later : ∀ F, IsFast Pt.winds Pt.links W S B F → ∀ p m, lk fl p = some m → ∃ m', F p = some m' ∧ m' ≤ m := fun F hF p m h => fast_drawn gw.asc hF hdw (hre p m h)
  obtain ⟨x1, hx1, hxd1⟩ := pt_1 (ta := tVar 2) (σ := [some s, some nv, some pv, some wv, some sv, some bv, some lv, some fv, none, none, none]) (H := H4) (ev_var rfl) (hp.up e24)
  have hl1 := ev_lenT (evd_of hx1 hxd1)
  rw [List.length_map] at hl1
  have p1 := g.p1
  refine q_asgP (ep_ixT (ea := PyData.str) (as := Pt.places) (evd_of hx1 hxd1) (ep_pick (K := K) (C := C) (k := 140) (hn2.up e24) hN (ev_var (i := 1) rfl) ev_c (by decide) hl1 (by omega)) (Int.le_refl _)) fun v H5 e5 hv => ?_
  obtain ⟨q0, hq0, hv⟩ := hv
  have ev := dp_str hv
  subst ev
  have e25 := e24.trans e5
  show tSeq _ _ _ [some s, some nv, some pv, some wv, some sv, some bv, some lv, some fv, some (.str q0), none, none] H5
  refine q_asgP (P := fun v H' => ∃ F, IsFast Pt.winds Pt.links W S B F ∧ (v = .non ∨ ∃ rows, Dp K H' v (rowsD rows) ∧ SafeRows Pt.paths F rows ∧ rows.length ≤ 1000))
    (ep_ownA (epa_v (ev_var (i := 6) rfl) (epa_v (ev_var (i := 3) rfl) (epa_v (ev_var (i := 4) rfl) (epa_v (ev_var (i := 5) rfl) (epa_v (ev_var (i := 8) rfl) (epa_1 (ep_pick (K := K) (C := C) (s := nv) (ns := ms) (k := 141) (most := 30) (hn2.up e25) hN (ev_var (i := 1) rfl) ev_c (by decide) ev_c (by decide)))))))) fun vs H6 e6 hv => by
      obtain ⟨r1, rfl, r2, rfl, r3, rfl, r4, rfl, r5, rfl, c, rfl, c', rfl, c0, c1⟩ := hv
      exact ⟨_, ⟨lv, wv, sv, bv, q0, c', Pt, W, S, B, rfl, g, gw, gS, gB, ((hl.up e4).up e5).up e6, (hw.up e25).up e6, (hS.up e25).up e6, (hB.up e25).up e6, hq0, c0, rfl⟩, fun v H7 e7 h => by
        obtain ⟨F, hF, h⟩ := h
        refine ⟨F, hF, ?_⟩
        rcases h with ⟨h, _⟩ | ⟨rows, h1, h2, h3, _⟩
        · exact .inl h
        · exact .inr ⟨rows, h1, h2, h3⟩⟩) fun tv H6 e6 htv => ?_
  obtain ⟨F, hF, htv⟩ := htv
  have e26 := e25.trans e6
  show tSeq _ _ _ [some s, some nv, some pv, some wv, some sv, some bv, some lv, some fv, some (.str q0), some tv, none] H6
  have guard : EvT (tAnd (tB (tNotN (tVar 9))) (tNot (tB (tCall (spOf (R_Lis_safe K C)) [] E0 (tCons (tVar 2) (tCons (tVar 7) (tCons (tVar 9) tNil))))))) [some s, some nv, some pv, some wv, some sv, some bv, some lv, some fv, some (.str q0), some tv, none] H6 false := by
    rcases htv with rfl | ⟨rows, h1, h2, h3⟩
    · exact et_and (a := false) (b := false) (et_BT (ev_notN (ev_var (v := .non) (i := 9) rfl)) rfl) fun z => by cases z
    · have hne : (!decide (tv = .non)) = true := by
        obtain ⟨_, _, ev, _⟩ := dp_lst h1
        rw [ev]
        rfl
      refine et_and (a := true) (b := false) (et_BT (ev_notN (ev_var (v := tv) (i := 9) rfl)) hne) fun _ => et_notF (et_B (ev_own (ea_cons (ev_var (i := 2) rfl) (ea_cons (ev_var (i := 7) rfl) (ea_cons (ev_var (i := 9) rfl) ea_nil))) fun H7 e7 => ?_))
      exact ⟨pv, fv, tv, Pt, fl, rows, rfl, (hp.up e26).up e7, g, (hfl.up (e5.trans e6)).up e7, h1.up e7, h2.later (later F hF), h3, rfl⟩
  refine q_guard guard fun H7 e7 => ?_
  have e27 := e26.trans e7
  refine q_asgP (P := fun v H' => ∃ q m r, Dp K H' v (rowsD ((q, m) :: r)) ∧ (∀ x ∈ ((q, m) :: r : Rws), x.1 ∈ Pt.places) ∧ 0 ≤ m ∧ r.length ≤ 10)
    (ep_own (ea_cons (ev_var (i := 2) rfl) (ea_cons (ev_var (i := 1) rfl) (ea_cons (ev_c (v := .int 185)) ea_nil))) fun H8 e8 => ⟨_, ⟨pv, nv, ms, Pt, rfl, (hp.up e27).up e8, g, (hn2.up e27).up e8, hN, rfl⟩, fun _ _ _ h => h⟩) fun dv H8 e8 hdv => ?_
  obtain ⟨qd, md, rd, hdd, hdk, hd0, hdl⟩ := hdv
  have e28 := e27.trans e8
  have hl8 := hl.up ((((e4.trans e5).trans e6).trans e7).trans e8)
  have hfl8 := hfl.up (((e5.trans e6).trans e7).trans e8)
  show tSeq _ _ _ [some s, some nv, some pv, some wv, some sv, some bv, some lv, some fv, some (.str q0), some tv, some dv] H8
  have e08 : Ex H H8 := (e1.trans e2).trans e28
  have hds : EvP (tCall (spOf (R_is_safe_walk K C)) [] E0 (tCons (tVar 6) (tCons (tVar 3) (tCons (tVar 4) (tCons (tVar 5) (tCons (tVar 10) tNil)))))) [some s, some nv, some pv, some wv, some sv, some bv, some lv, some fv, some (.str q0), some tv, some dv] H8 (fun v _ => ∃ (c : Bool) (F : Str → Option Int), v = .bl c ∧ IsFast Pt.winds Pt.links W S B F ∧ (c = true → SafeRows Pt.paths F ((qd, md) :: rd))) :=
    ep_own (ea_cons (ev_var (i := 6) rfl) (ea_cons (ev_var (i := 3) rfl) (ea_cons (ev_var (i := 4) rfl) (ea_cons (ev_var (i := 5) rfl) (ea_cons (ev_var (i := 10) rfl) ea_nil))))) fun H9 e9 => ⟨_, ⟨lv, wv, sv, bv, dv, Pt, W, S, B, (qd, md) :: rd, rfl, g, gw, gS, gB, hl8.up e9, (hw.up e28).up e9, (hS.up e28).up e9, (hB.up e28).up e9, hdd.up e9, hdk, by rw [List.length_cons]; omega, rfl⟩, fun _ _ _ h => h⟩
  refine q_notP hds fun v H9 e9 hv => ?_
  obtain ⟨c, F2, rfl, hF2, hsafe⟩ := hv
  refine ⟨c, rfl, fun _ => s_ret ev_c fun H10 e10 => q _ _ ((e08.trans e9).trans e10) rfl, fun hc => ?_⟩
  have hsr := hsafe hc
  have e29 := e28.trans e9
  have h1 : Ev (tCall (spOf (R_Lis_safe K C)) [] E0 (tCons (tVar 2) (tCons (tVar 7) (tCons (tVar 10) tNil)))) [some s, some nv, some pv, some wv, some sv, some bv, some lv, some fv, some (.str q0), some tv, some dv] H9 (.bl true) :=
    ev_own (ea_cons (ev_var (i := 2) rfl) (ea_cons (ev_var (i := 7) rfl) (ea_cons (ev_var (i := 10) rfl) ea_nil))) fun H10 e10 => ⟨pv, fv, dv, Pt, fl, (qd, md) :: rd, rfl, (hp.up e29).up e10, g, (hfl8.up e9).up e10, (hdd.up e9).up e10, hsr.later (later F2 hF2), by rw [List.length_cons]; omega, rfl⟩
  have hrow0 : EvD K (tOp (rIxL K) (tVar 10) (tC (.int 0))) [some s, some nv, some pv, some wv, some sv, some bv, some lv, some fv, some (.str q0), some tv, some dv] H9 (.tuple [.str qd, .int md]) := ed_ixL (ed_var (i := 10) rfl (hdd.up e9)) (ev_c (v := .int 0)) (atI_of (i := 0) rfl)
  have h2 := ev_str (ed_ixT hrow0 (ev_c (v := .int 0)) (atI_of (i := 0) rfl))
  have h3 := ev_int (ed_ixT hrow0 (ev_c (v := .int 1)) (atI_of (i := 1) rfl))
  have h4 : EvP (tCall (spOf (R_refuges K C)) [] E0 (tCons (tVar 6) (tCons (tVar 3) (tCons (tVar 4) (tCons (tVar 5) (tCons (tOp (rIxT K) (tOp (rIxL K) (tVar 10) (tC (.int 0))) (tC (.int 1))) tNil)))))) [some s, some nv, some pv, some wv, some sv, some bv, some lv, some fv, some (.str q0), some tv, some dv] H9 (fun v H' => ∃ ps : List Str, Dp K H' v (strsD ps) ∧ qd ∈ ps) :=
    ep_own (ea_cons (ev_var (i := 6) rfl) (ea_cons (ev_var (i := 3) rfl) (ea_cons (ev_var (i := 4) rfl) (ea_cons (ev_var (i := 5) rfl) (ea_cons h3 ea_nil))))) fun H10 e10 => ⟨_, ⟨lv, wv, sv, bv, md, Pt, W, S, B, rfl, g, gw, gS, gB, (hl8.up e9).up e10, (hw.up e29).up e10, (hS.up e29).up e10, (hB.up e29).up e10, hd0, rfl⟩, fun v H11 e11 h => by
      obtain ⟨ps, k1, k2⟩ := h
      exact ⟨ps, k1, k2 qd (hdk (qd, md) List.mem_cons_self) F2 hF2 (hsr.esc g rfl)⟩⟩
  exact s_ret (ev_andT h1 (ev_inP h2 h4)) fun H10 e10 => q _ _ ((e08.trans e9).trans e10) rfl
end
end Ef
/-! ==== EfP15 -/
set_option Elab.async false
set_option linter.all false
set_option maxRecDepth 100000
set_option maxHeartbeats 1000000
/-! Land's __init__. -/
namespace Ef
open PySem L2 Evl
open PyProof.Rows in
theorem ltCps_tri : ∀ (a b : List Nat), Spec.ltCps a b = false → Spec.ltCps b a = false → a = b
  | [], [], _, _ => rfl
  | [], _ :: _, h, _ => by cases h
  | _ :: _, [], _, h => by cases h
  | x :: a, y :: b, h1, h2 => by
    have k1 : (decide (x < y) || (x == y && Spec.ltCps a b)) = false := h1
    have k2 : (decide (y < x) || (y == x && Spec.ltCps b a)) = false := h2
    obtain ⟨a1, a2⟩ := Bool.or_eq_false_iff.mp k1
    obtain ⟨b1, b2⟩ := Bool.or_eq_false_iff.mp k2
    have n1 := of_decide_eq_false a1
    have n2 := of_decide_eq_false b1
    have e : x = y := by omega
    subst e
    have c1 : Spec.ltCps a b = false := by simpa using a2
    have c2 : Spec.ltCps b a = false := by simpa using b2
    rw [ltCps_tri a b c1 c2]
/-- the pair in order -/
def sortP (a b : Str) : Str × Str := if PyProof.Rows.sortedS [a, b] = true then (a, b) else (b, a)
theorem sortP_is {a b : Str} {ys : List Str} (hp : ys.Perm [a, b]) (hs : PyProof.Rows.sortedS ys = true) : ys = [(sortP a b).1, (sortP a b).2] := by
  have hl := hp.length_eq
  match ys, hl with
  | [x, y], _ =>
    have hx : x ∈ [a, b] := hp.mem_iff.mp List.mem_cons_self
    have two : [x, y] = [a, b] ∨ [x, y] = [b, a] := by
      rcases List.mem_cons.mp hx with e | e
      · subst e
        have h2 := List.Perm.cons_inv hp
        have h3 := List.perm_singleton.mp h2
        exact .inl (by rw [h3])
      · have e2 : x = b := by simpa using e
        subst e2
        have h2 : [x, y].Perm [x, a] := hp.trans (List.Perm.swap _ _ _)
        have h3 := List.perm_singleton.mp (List.Perm.cons_inv h2)
        exact .inr (by rw [h3])
    unfold sortP
    rcases two with e | e
    · rw [e] at hs ⊢
      rw [if_pos hs]
    · rw [e] at hs ⊢
      by_cases c : PyProof.Rows.sortedS [a, b] = true
      · rw [if_pos c]
        have c1 : (!Spec.ltCps b.cps.toList a.cps.toList && true) = true := c
        have c2 : (!Spec.ltCps a.cps.toList b.cps.toList && true) = true := hs
        have e3 := ltCps_tri a.cps.toList b.cps.toList (by simpa using c2) (by simpa using c1)
        have e4 : a = b := by
          cases a with
          | mk ca =>
          cases b with
          | mk cb =>
          have e5 : ca = cb := Array.toList_inj.mp e3
          rw [e5]
        rw [e4]
      · rw [if_neg c]
theorem sortP_diff {a b : Path} (h : DiffEnds a b) : sortP a.1 a.2.1 ≠ sortP b.1 b.2.1 := fun e => by
  unfold sortP at e
  obtain ⟨h1, h2⟩ := h
  split at e <;> split at e
  · exact h1 ⟨(Prod.mk.inj e).1, (Prod.mk.inj e).2⟩
  · exact h2 ⟨(Prod.mk.inj e).1, (Prod.mk.inj e).2⟩
  · exact h2 ⟨(Prod.mk.inj e).2, (Prod.mk.inj e).1⟩
  · exact h1 ⟨(Prod.mk.inj e).2, (Prod.mk.inj e).1⟩
theorem nodup_sortP {paths : List Path} (h : paths.Pairwise DiffEnds) : (paths.map fun p => sortP p.1 p.2.1).Nodup := by
  induction paths with
  | nil => exact List.nodup_nil
  | cons a r ih =>
    rw [List.pairwise_cons] at h
    rw [List.map_cons, List.nodup_cons]
    refine ⟨fun hm => ?_, ih h.2⟩
    obtain ⟨b, hb, e⟩ := List.mem_map.mp hm
    exact sortP_diff (h.1 b hb) e.symm
theorem lkk_here {k : Str} {v : V} {r : List (Str × V)} : List.lookup k ((k, v) :: r) = some v := by
  have e : (k == k) = true := beq_self_eq_true k
  simp only [List.lookup, e]
theorem lkk_past {k g : Str} {v : V} {r : List (Str × V)} (h : (k == g) = false) : List.lookup k ((g, v) :: r) = List.lookup k r := by
  simp only [List.lookup, h]
theorem pf_past {f g : Str} {v x : V} {r : List (Str × V)} (h : ¬ g = f) : putF f v ((g, x) :: r) = (g, x) :: putF f v r := if_neg h
abbrev fW : Str := "winds"
abbrev fP : Str := "places"
abbrev fL : Str := "links"
abbrev fH : Str := "paths"
theorem pf1 {y : V} : putF fW y [] = [(fW, y)] := rfl
theorem pf2 {x y : V} : putF fP y [(fW, x)] = [(fW, x), (fP, y)] := (pf_past (by decide +kernel)).trans rfl
theorem pf3 {x y z : V} : putF fL z [(fW, x), (fP, y)] = [(fW, x), (fP, y), (fL, z)] := (pf_past (by decide +kernel)).trans (by rw [pf_past (by decide +kernel)]; rfl)
theorem pf4 {x y z u : V} : putF fH u [(fW, x), (fP, y), (fL, z)] = [(fW, x), (fP, y), (fL, z), (fH, u)] := (pf_past (by decide +kernel)).trans (by rw [pf_past (by decide +kernel), pf_past (by decide +kernel)]; rfl)
/-- no method's name among the fields -/
theorem fok_all {fs : List (Str × V)} (h : ∀ q ∈ fs, q.1 = fW ∨ q.1 = fP ∨ q.1 = fL ∨ q.1 = fH) : FOk fs := by
  have go : ∀ (m : Str), (m == fW) = false → (m == fP) = false → (m == fL) = false → (m == fH) = false → fs.lookup m = none := fun m h1 h2 h3 h4 => by
    induction fs with
    | nil => rfl
    | cons a r ih =>
      obtain ⟨k, v⟩ := a
      have hk := h (k, v) List.mem_cons_self
      rw [lkk_past (by rcases hk with e | e | e | e <;> (have e2 : k = _ := e; rw [e2]; assumption))]
      exact ih fun q hq => h q (List.mem_cons_of_mem _ hq)
  exact ⟨go _ (by decide +kernel) (by decide +kernel) (by decide +kernel) (by decide +kernel), go _ (by decide +kernel) (by decide +kernel) (by decide +kernel) (by decide +kernel), go _ (by decide +kernel) (by decide +kernel) (by decide +kernel) (by decide +kernel), go _ (by decide +kernel) (by decide +kernel) (by decide +kernel) (by decide +kernel), go _ (by decide +kernel) (by decide +kernel) (by decide +kernel) (by decide +kernel), go _ (by decide +kernel) (by decide +kernel) (by decide +kernel) (by decide +kernel), go _ (by decide +kernel) (by decide +kernel) (by decide +kernel) (by decide +kernel)⟩
theorem fok2 {x y : V} : FOk [(fW, x), (fP, y)] := fok_all fun q hq => by
  simp only [List.mem_cons, List.mem_nil_iff, or_false] at hq
  rcases hq with rfl | rfl
  · exact .inl rfl
  · exact .inr (.inl rfl)
theorem fok3 {x y z : V} : FOk [(fW, x), (fP, y), (fL, z)] := fok_all fun q hq => by
  simp only [List.mem_cons, List.mem_nil_iff, or_false] at hq
  rcases hq with rfl | rfl | rfl
  · exact .inl rfl
  · exact .inr (.inl rfl)
  · exact .inr (.inr (.inl rfl))
theorem fok4 {x y z u : V} : FOk [(fW, x), (fP, y), (fL, z), (fH, u)] := fok_all fun q hq => by
  simp only [List.mem_cons, List.mem_nil_iff, or_false] at hq
  rcases hq with rfl | rfl | rfl | rfl
  · exact .inl rfl
  · exact .inr (.inl rfl)
  · exact .inr (.inr (.inl rfl))
  · exact .inr (.inr (.inr rfl))
theorem noS_ins {H : Hp} {l C dx : Addr} {fs : List (Str × V)} (h : H l = some (.ins C dx fs)) : NoS H l := ⟨fun ys r => (by rcases r with r | ⟨o, r⟩ <;> rw [h] at r <;> cases r), fun ys r => (by rcases r with r | ⟨o, r⟩ <;> rw [h] at r <;> cases r)⟩
theorem NoDk.updI {H : Hp} {v : V} {l C dx : Addr} {fs : List (Str × V)} {u : HO} (h : NoDk H v) (hl : H l = some (.ins C dx fs)) : NoDk (upd H l u) v := by
  obtain ⟨a, o, w, rfl, h2, h3⟩ := h
  have ne : a ≠ l := fun z => by rw [z, hl] at h2; cases h2
  exact ⟨a, o, w, rfl, by rw [upd_ne ne]; exact h2, h3⟩
section
variable {K : Frg} {C : Addr} {σ : L2.St} {H : Hp} {ta tv te : TE} {tz : TS} {D : Ends}
theorem q_fld {P : V → Hp → Prop} {p dx : Addr} {fs : List (Str × V)} {f : Str} (hv : EvP tv σ H P) (ha : Ev ta σ H (.ref p)) (hp : H p = some (.ins C dx fs)) (hc : Cls K C) (hn : NoAttr K C f) (hl : fs.length < 1000)
    (k : ∀ y H1 H2, Ex H H1 → P y H1 → Ex H1 H2 → tz D σ (upd H2 p (.ins C dx (putF f y fs)))) : tSeq (sFld K ta tv f) tz D σ H := hv H (Ex.refl _) _ fun y H1 e1 py => ha H1 e1 _ fun H2 e2 =>
  ⟨p, C, dx, fs, rfl, e2 _ _ (e1 _ _ hp), hc, hn, hl, k y H1 H2 e1 py e2⟩
theorem ep_prop {R : RR} {P : V → Hp → Prop} {v : V} (ho : Ev ta σ H v) (hi : ∃ a dx fs, v = .ref a ∧ H a = some (.ins C dx fs)) (hr : ∀ H1, Ex H H1 → ∃ P1, R [v] H1 P1 ∧ ∀ v H2, Ex H1 H2 → P1 v H2 → P v H2) : EvP (tProp C (spOf R) [] E0 ta) σ H P := fun H1 a Q q => ho H1 a _ fun H2 e2 => by
  obtain ⟨p, dx, fs, rfl, hp⟩ := hi
  obtain ⟨P1, r, k⟩ := hr H2 (a.trans e2)
  exact ⟨p, dx, fs, rfl, (a.trans e2) _ _ hp, P1, r, fun v H3 e3 h => q v H3 (e2.trans e3) (k v H3 e3 h)⟩
theorem ev_names {ss : List Str} {v : V} {i j : Nat} {n : Nat} (hv : ∀ H1, Ex H H1 → Ev (tVar i) σ H1 v) (hd : Dp K H v (strsD ss)) (hg : ∀ s ∈ ss, GoodName s) (hl : ss.length ≤ 100)
    (hw : ∀ x, wipe ((wipe σ [j]).set j (some x)) [j] = wipe σ [j]) (hj : ∀ x, ((wipe σ [j]).set j (some x))[j]? = some (some x)) :
    Ev (tCB (rAll K) (tCons (tLc (iList K (tVar i)) (gName j) tYes (tCall (spOf (R_is_name K C)) [] E0 (tCons (tVar j) tNil)) [j]) tNil)) σ H (.bl true) := by
  have k := ev_all (K := K) (EvN.toD (en_map (eb := PyData.bool) (ei_list (evd_of (hv H (Ex.refl _)) hd)) (fun _ => true) no_bool (vs := [j]) (g := gName j) (te := tCall (spOf (R_is_name K C)) [] E0 (tCons (tVar j) tNil)) (by omega) fun a x Hb ha e hx => ⟨_, gs_name, hw x, by
    have ex := dp_str hx
    subst ex
    exact ed_bl (ev_own (ea_cons (ev_var (hj _)) ea_nil) fun H1 e1 => ⟨a, rfl, hg a ha, rfl⟩)⟩))
  rw [show (ss.map fun _ => true).all id = true by rw [List.all_map]; exact List.all_eq_true.mpr fun _ _ => rfl] at k
  exact k
theorem ev_diffS {ss : List Str} {v : V} (hv : Ev te σ H v) (hd : Dp K H v (strsD ss)) (hn : ss.Nodup) (hl : ss.length ≤ 100) : Ev (tCall (spOf (R_are_different K C)) [] E0 (tCons te tNil)) σ H (.bl true) :=
  ev_own (ea_cons hv ea_nil) fun H1 e1 => ⟨v, rfl, rfl, .inl ⟨ss, hn, by omega, .inl (hd.up e1)⟩⟩
/-- sorted(a pair) as a tuple -/
theorem ed_sortP {a b : Str} (h : EvD K te σ H (.tuple [.str a, .str b])) : EvD K (tCB (rTupOf2 K) (tCons (tCB (rSortedT K) (tCons te tNil)) tNil)) σ H (prD (sortP a b)) :=
  ed_tup2 (ds := [.str (sortP a b).1, .str (sortP a b).2]) fun H1 e Q q => h H1 e _ fun v H2 e2 hv => ⟨v, [a, b], rfl, hv, by simp, fun ys p hp hs hn => by
    have e3 := sortP_is hp hs
    subst e3
    exact q _ _ (e2.trans (Ex.new hn)) (.lst (sq_of upd_same) (.cons (.str _) (.cons (.str _) .nil)))⟩
theorem q_req2 (h : Ev te σ H (.bl true)) (k : ∀ H1, Ex H H1 → tz D σ H1) : tSeq (tDrop (tCall (spOf (R_require K C)) [] E0 (tCons te tNil))) tz D σ H := q_req h k
end
section
variable {K : Frg} {C : Addr}
theorem p_init (T : LTx K C) (vs : List V) (H : Hp) (Q : VK) (E : XK) (h : sp_init K C vs H Q E) : t_init K C (endQ Q) (start N_init vs) H := by
  obtain ⟨p, dx, w, ql, l, hh, Pt, rfl, hp, g, hw, hq, hl, hhd, q⟩ := h
  show t_init K C (endQ Q) [some (.ref p), some w, some ql, some l, some hh, none, none, none, none] H
  have w1 := g.w1
  have w2 := g.w2
  have p1 := g.p1
  have p2 := g.p2
  have l2 := g.l2
  have h2 := g.h2
  have hlw := ev_lenL (ed_var (σ := [some (.ref p), some w, some ql, some l, some hh, none, none, none, none]) (i := 1) (H := H) rfl hw)
  rw [List.length_map] at hlw
  have k1 := ev_chainLe (ev_c (v := .int 1)) hlw (ev_c (v := .int 4))
  rw [decide_eq_true (show (1 : Int) ≤ (Pt.winds.length : Nat) by omega), decide_eq_true (show ((Pt.winds.length : Nat) : Int) ≤ 4 by omega)] at k1
  refine q_req (ev_andT k1 (ev_andT (ev_names (n := 0) (fun _ _ => ev_var rfl) hw g.wn (by omega) (fun x => rfl) (fun x => rfl)) (ev_diffS (ev_var rfl) hw g.wd (by omega)))) fun H1 e1 => ?_
  have hlp := ev_lenL (ed_var (σ := [some (.ref p), some w, some ql, some l, some hh, none, none, none, none]) (i := 2) (H := H1) rfl (hq.up e1))
  rw [List.length_map] at hlp
  have k2 := ev_chainLe (ev_c (v := .int 1)) hlp (ev_c (v := .int 24))
  rw [decide_eq_true (show (1 : Int) ≤ (Pt.places.length : Nat) by omega), decide_eq_true (show ((Pt.places.length : Nat) : Int) ≤ 24 by omega)] at k2
  refine q_req (ev_andT k2 (ev_names (n := 0) (fun _ _ => ev_var rfl) (hq.up e1) g.pn (by omega) (fun x => rfl) (fun x => rfl))) fun H2 e2 => ?_
  have e02 := e1.trans e2
  refine q_req (ev_diffS (ev_var rfl) (hq.up e02) g.pd (by omega)) fun H3 e3 => ?_
  have e03 := e02.trans e3
  -- winds
  refine q_fld (K := K) (C := C) (ep_tupL (ed_var (i := 1) rfl (hw.up e03))) (ev_var (i := 0) rfl) (e03 _ _ hp) T.cl T.nw (by decide) fun x1 H4 H5 e4 hx1 e5 => ?_
  have e05 := (e03.trans e4).trans e5
  have hp5 := e05 _ _ hp
  obtain ⟨d1, n1⟩ := hx1
  have d1 := dp_updS (u := .ins C dx (putF fW x1 [])) (noS_ins hp5) _ _ (d1.up e5)
  have n1 := (n1.up e5).updI (u := .ins C dx (putF fW x1 [])) hp5
  have hq6 := dp_updS (u := .ins C dx (putF fW x1 [])) (noS_ins hp5) _ _ (hq.up e05)
  have hl6 := dp_updS (u := .ins C dx (putF fW x1 [])) (noS_ins hp5) _ _ (hl.up e05)
  have hh6 := dp_updS (u := .ins C dx (putF fW x1 [])) (noS_ins hp5) _ _ (hhd.up e05)
  have b6 : ExB p H (upd H5 p (.ins C dx (putF fW x1 []))) := ExB.upd e05
  have hp6 : (upd H5 p (.ins C dx (putF fW x1 []))) p = some (.ins C dx [(fW, x1)]) := upd_same
  generalize upd H5 p (.ins C dx (putF fW x1 [])) = H6 at d1 n1 hq6 hl6 hh6 b6 hp6
  -- places
  refine q_fld (K := K) (C := C) (P := fun v H' => Dp K H' v (.tuple (Pt.places.map .str))) (ed_tup2 (ed_var (i := 2) rfl hq6)) (ev_var (i := 0) rfl) hp6 T.cl T.np (by show 1 < 1000; decide) fun x2 H7 H8 e7 d2 e8 => ?_
  have e68 := e7.trans e8
  have hp8 := e68 _ _ hp6
  have d1 := dp_updS (u := .ins C dx (putF fP x2 [(fW, x1)])) (noS_ins hp8) _ _ (d1.up e68)
  have n1 := (n1.up e68).updI (u := .ins C dx (putF fP x2 [(fW, x1)])) hp8
  have d2 := dp_updS (u := .ins C dx (putF fP x2 [(fW, x1)])) (noS_ins hp8) _ _ (d2.up e8)
  have hl9 := dp_updS (u := .ins C dx (putF fP x2 [(fW, x1)])) (noS_ins hp8) _ _ (hl6.up e68)
  have hh9 := dp_updS (u := .ins C dx (putF fP x2 [(fW, x1)])) (noS_ins hp8) _ _ (hh6.up e68)
  have b9 : ExB p H (upd H8 p (.ins C dx (putF fP x2 [(fW, x1)]))) := b6.trans (ExB.upd e68)
  have hp9 : (upd H8 p (.ins C dx (putF fP x2 [(fW, x1)]))) p = some (.ins C dx [(fW, x1), (fP, x2)]) := by rw [upd_same, pf2]
  generalize upd H8 p (.ins C dx (putF fP x2 [(fW, x1)])) = H9 at d1 n1 d2 hl9 hh9 b9 hp9
  have FP : FldD K C H9 (.ref p) fP (.tuple (Pt.places.map .str)) := ⟨p, dx, _, x2, rfl, hp9, fok2, (lkk_past (by decide +kernel)).trans lkk_here, d2⟩
  have FW : FldD K C H9 (.ref p) fW (.tuple (Pt.winds.map .str)) := ⟨p, dx, _, x1, rfl, hp9, fok2, lkk_here, d1⟩
  -- links
  have hll := ev_lenL (ed_var (σ := [some (.ref p), some w, some ql, some l, some hh, none, none, none, none]) (i := 3) (H := H9) rfl hl9)
  rw [List.length_map] at hll
  have k3 := ev_le hll (ev_c (v := .int 60))
  rw [decide_eq_true (show ((Pt.links.length : Nat) : Int) ≤ 60 by omega)] at k3
  refine q_req k3 fun H10 e10 => ?_
  have hlc : EvN K (tLc (iList K (tVar 3)) (gName 7) tYes (tMeth C "checked_link" (spOf (R_checked_link K C)) [] E0 (tVar 0) (tCons (tVar 7) tNil)) [7]) [some (.ref p), some w, some ql, some l, some hh, none, none, none, none] H10 ((Pt.links.map id).map linkD) :=
    en_map (eb := linkD) (ea := linkD) (ei_list (ed_var (i := 3) rfl (hl9.up e10))) id no_link (by omega) fun a x Hb ha e hx => ⟨_, gs_name, rfl, by
      have eb := e10.trans e
      exact EvP.toD (ep_meth (ev_var (i := 0) rfl) (FP.up eb).o2 (ea_cons (ev_var (i := 7) rfl) ea_nil) fun H11 e11 => ⟨_, ⟨.ref p, x, Pt.places, Pt.winds, a, rfl, (FP.up eb).up e11, (FW.up eb).up e11, hx.up e11, g.ln a ha, (g.le a ha).1, (g.le a ha).2.1, (g.le a ha).2.2, g.lt a ha, w2, g.lv a ha, rfl⟩, fun _ _ _ h => h⟩)⟩
  rw [List.map_id] at hlc
  refine q_fld (K := K) (C := C) (P := fun v H' => Dp K H' v (.tuple (Pt.links.map linkD))) (ed_tup2 hlc.toD) (ev_var (i := 0) rfl) (e10 _ _ hp9) T.cl T.nl (by show 2 < 1000; decide) fun x3 H11 H12 e11 d3 e12 => ?_
  have e912 := (e10.trans e11).trans e12
  have hp12 := e912 _ _ hp9
  have d1 := dp_updS (u := .ins C dx (putF fL x3 [(fW, x1), (fP, x2)])) (noS_ins hp12) _ _ (d1.up e912)
  have n1 := (n1.up e912).updI (u := .ins C dx (putF fL x3 [(fW, x1), (fP, x2)])) hp12
  have d2 := dp_updS (u := .ins C dx (putF fL x3 [(fW, x1), (fP, x2)])) (noS_ins hp12) _ _ (d2.up e912)
  have d3 := dp_updS (u := .ins C dx (putF fL x3 [(fW, x1), (fP, x2)])) (noS_ins hp12) _ _ (d3.up e12)
  have hh13 := dp_updS (u := .ins C dx (putF fL x3 [(fW, x1), (fP, x2)])) (noS_ins hp12) _ _ (hh9.up e912)
  have b13 : ExB p H (upd H12 p (.ins C dx (putF fL x3 [(fW, x1), (fP, x2)]))) := b9.trans (ExB.upd e912)
  have hp13 : (upd H12 p (.ins C dx (putF fL x3 [(fW, x1), (fP, x2)]))) p = some (.ins C dx [(fW, x1), (fP, x2), (fL, x3)]) := by rw [upd_same, pf3]
  clear FP FW
  generalize upd H12 p (.ins C dx (putF fL x3 [(fW, x1), (fP, x2)])) = H13 at d1 n1 d2 d3 hh13 b13 hp13
  have FP : FldD K C H13 (.ref p) fP (.tuple (Pt.places.map .str)) := ⟨p, dx, _, x2, rfl, hp13, fok3, (lkk_past (by decide +kernel)).trans lkk_here, d2⟩
  have FL : FldD K C H13 (.ref p) fL (.tuple (Pt.links.map linkD)) := ⟨p, dx, _, x3, rfl, hp13, fok3, (lkk_past (by decide +kernel)).trans ((lkk_past (by decide +kernel)).trans lkk_here), d3⟩
  have hpr : EvP (tProp C (spOf (R_link_names K C)) [] E0 (tVar 0)) [some (.ref p), some w, some ql, some l, some hh, none, none, none, none] H13 (fun v H' => Dp K H' v (.tuple ((Pt.links.map Link.name).map .str))) :=
    ep_prop (ev_var (i := 0) rfl) ⟨p, dx, _, rfl, hp13⟩ fun H14 e14 => ⟨_, ⟨.ref p, Pt.links, rfl, FL.up e14, l2, rfl⟩, fun _ _ _ h => h⟩
  refine q_req (ev_ownA (epa_1 hpr) fun vs H14 e14 hv => ?_) fun H14 e14 => ?_
  · obtain ⟨v, rfl, hv⟩ := hv
    exact ⟨v, rfl, rfl, .inl ⟨Pt.links.map Link.name, g.ld, by rw [List.length_map]; omega, .inr hv⟩⟩
  -- paths
  have hlh := ev_lenL (ed_var (σ := [some (.ref p), some w, some ql, some l, some hh, none, none, none, none]) (i := 4) (H := H14) rfl (hh13.up e14))
  rw [List.length_map] at hlh
  have k4 := ev_le hlh (ev_c (v := .int 60))
  rw [decide_eq_true (show ((Pt.paths.length : Nat) : Int) ≤ 60 by omega)] at k4
  refine q_req k4 fun H15 e15 => ?_
  have e1315 := e14.trans e15
  have hpc : EvN K (tLc (iList K (tVar 4)) (gName 8) tYes (tMeth C "checked_path" (spOf (R_checked_path K C)) [] E0 (tVar 0) (tCons (tVar 8) tNil)) [8]) [some (.ref p), some w, some ql, some l, some hh, none, none, none, none] H15 ((Pt.paths.map id).map pathD) :=
    en_map (eb := pathD) (ea := pathD) (ei_list (ed_var (i := 4) rfl (hh13.up e1315))) id no_path (by omega) fun a x Hb ha e hx => ⟨_, gs_name, rfl, by
      have eb := e1315.trans e
      exact EvP.toD (ep_meth (ev_var (i := 0) rfl) (FP.up eb).o3 (ea_cons (ev_var (i := 8) rfl) ea_nil) fun H11 e11 => ⟨_, ⟨.ref p, x, Pt.places, a, rfl, (FP.up eb).up e11, hx.up e11, (g.he a ha).1, (g.he a ha).2.1, (g.he a ha).2.2, (g.hm a ha).1, (g.hm a ha).2, rfl⟩, fun _ _ _ h => h⟩)⟩
  rw [List.map_id] at hpc
  refine q_fld (K := K) (C := C) (P := fun v H' => Dp K H' v (.tuple (Pt.paths.map pathD))) (ed_tup2 hpc.toD) (ev_var (i := 0) rfl) (e1315 _ _ hp13) T.cl T.nh (by show 3 < 1000; decide) fun x4 H16 H17 e16 d4 e17 => ?_
  have e1317 := (e1315.trans e16).trans e17
  have hp17 := e1317 _ _ hp13
  have d1 := dp_updS (u := .ins C dx (putF fH x4 [(fW, x1), (fP, x2), (fL, x3)])) (noS_ins hp17) _ _ (d1.up e1317)
  have n1 := (n1.up e1317).updI (u := .ins C dx (putF fH x4 [(fW, x1), (fP, x2), (fL, x3)])) hp17
  have d2 := dp_updS (u := .ins C dx (putF fH x4 [(fW, x1), (fP, x2), (fL, x3)])) (noS_ins hp17) _ _ (d2.up e1317)
  have d3 := dp_updS (u := .ins C dx (putF fH x4 [(fW, x1), (fP, x2), (fL, x3)])) (noS_ins hp17) _ _ (d3.up e1317)
  have d4 := dp_updS (u := .ins C dx (putF fH x4 [(fW, x1), (fP, x2), (fL, x3)])) (noS_ins hp17) _ _ (d4.up e17)
  have b18 : ExB p H (upd H17 p (.ins C dx (putF fH x4 [(fW, x1), (fP, x2), (fL, x3)]))) := b13.trans (ExB.upd e1317)
  have hp18 : (upd H17 p (.ins C dx (putF fH x4 [(fW, x1), (fP, x2), (fL, x3)]))) p = some (.ins C dx [(fW, x1), (fP, x2), (fL, x3), (fH, x4)]) := by rw [upd_same, pf4]
  clear FP FL hlc hpc hpr
  generalize upd H17 p (.ins C dx (putF fH x4 [(fW, x1), (fP, x2), (fL, x3)])) = H18 at d1 n1 d2 d3 d4 b18 hp18
  have LA : LandAt K C H18 (.ref p) Pt := ⟨⟨p, dx, _, x1, rfl, hp18, fok4, lkk_here, d1, n1⟩, ⟨p, dx, _, x2, rfl, hp18, fok4, (lkk_past (by decide +kernel)).trans lkk_here, d2⟩, ⟨p, dx, _, x3, rfl, hp18, fok4, (lkk_past (by decide +kernel)).trans ((lkk_past (by decide +kernel)).trans lkk_here), d3⟩,
    ⟨p, dx, _, x4, rfl, hp18, fok4, (lkk_past (by decide +kernel)).trans ((lkk_past (by decide +kernel)).trans ((lkk_past (by decide +kernel)).trans lkk_here)), d4⟩⟩
  have hpn : EvN K (tLc (iTup K (tFld K (tVar 0) "paths")) (gName 8) (tYes) (tCB (rTupOf2 K) (tCons (tCB (rSortedT K) (tCons (tSl (rSlT K) (tVar 8) (tNoPart) (tPart (tC (.int 2)))) tNil)) tNil)) [8]) [some (.ref p), some w, some ql, some l, some hh, none, none, none, none] H18 ((Pt.paths.map fun h : Path => sortP h.1 h.2.1).map prD) :=
    en_map (eb := prD) (ea := pathD) (ei_tup (ed_fld T.cl T.nh (ev_var (i := 0) rfl) LA.h)) _ (fun _ => rfl) (by omega) fun a x Hb ha e hx => ⟨_, gs_name, rfl, by
      have hs := ed_slT (K := K) (tl := tNoPart) (th := tPart (tC (.int 2))) (ds := [.str a.1, .str a.2.1, .int a.2.2]) (ed_var (σ := [some (.ref p), some w, some ql, some l, some hh, none, none, none, some x]) (i := 8) (H := Hb) rfl hx) eo_none (eo_some (ev_c (v := .int 2))) (by
        rintro ⟨_, z⟩
        cases z)
      have ecut : cutD [.str a.1, .str a.2.1, .int a.2.2] none (some 2) = [.str a.1, .str a.2.1] := cut_take (i := 2) (by show 2 ≤ 3; decide)
      rw [ecut] at hs
      exact ed_sortP hs⟩
  refine s_req (ev_ownA (epa_1 (P := fun v H' => Dp K H' v (.list ((Pt.paths.map fun h : Path => sortP h.1 h.2.1).map prD))) hpn.toD) fun vs H19 e19 hv => ?_) fun H19 e19 => ?_
  · obtain ⟨v, rfl, hv⟩ := hv
    exact ⟨v, rfl, rfl, .inr ⟨_, nodup_sortP g.hd, by rw [List.length_map]; omega, hv⟩⟩
  · exact q H19 (fun b o hb ne => e19 _ _ (b18 b o ne hb)) (LA.up e19)
end
end Ef
/-! ==== EfP16 -/
set_option Elab.async false
set_option linter.all false
set_option maxRecDepth 100000
set_option maxHeartbeats 1000000
/-! The drawn names. -/
namespace Ef
open PySem L2 Evl
/-! ### texts by their signs -/
theorem app_cps (a b : Str) : (a ++ b).cps.toList = a.cps.toList ++ b.cps.toList := by
  show (a.cps ++ b.cps).toList = _
  rw [Array.toList_append]
theorem str_ext {a b : Str} (h : a.cps.toList = b.cps.toList) : a = b := by
  cases a with
  | mk ca =>
  cases b with
  | mk cb =>
  have e5 : ca = cb := Array.toList_inj.mp h
  rw [e5]
theorem len_cps (a : Str) : a.length = a.cps.toList.length := by
  show a.cps.size = _
  rw [Array.length_toList]
theorem join_one : ∀ cs : List Nat, (Txt.join ("" : Str) (cs.map fun c => ⟨#[c]⟩)).cps.toList = cs := fun cs => by
  rw [TL.join_eq]
  induction cs with
  | nil => rfl
  | cons c cs ih =>
    cases cs with
    | nil => rfl
    | cons d ds =>
      show ((⟨#[c]⟩ : Str) ++ ("" : Str) ++ Str.join ("" : Str) ((d :: ds).map fun c => ⟨#[c]⟩)).cps.toList = _
      rw [app_cps, app_cps, ih]
      rfl
theorem cutS_take (z : Str) (i : Nat) (h : i ≤ z.length) : (cutS z none (some (i : Int))).cps.toList = z.cps.toList.take i := by
  show (((z.cps.toList.drop 0).take (HT.sIx z.length z.length (some (i : Int)) - 0)).toArray).toList = _
  rw [HT.sIx_nat, List.drop_zero, Nat.min_eq_left h]
  rfl
theorem cutS_drop (z : Str) (i : Nat) (h : i ≤ z.length) : (cutS z (some (i : Int)) none).cps.toList = z.cps.toList.drop i := by
  show (((z.cps.toList.drop (HT.sIx z.length 0 (some (i : Int)))).take (z.length - HT.sIx z.length 0 (some (i : Int)))).toArray).toList = _
  rw [HT.sIx_nat, Nat.min_eq_left h]
  exact List.take_of_length_le (by rw [List.length_drop, len_cps]; exact Nat.le_refl _)
/-- a name: its first letter, the rest with a letter put in -/
def nmS (a : Nat) (r : List Nat) (pl : Nat) (b : Nat) : Str := ⟨(a :: (r.take pl ++ b :: r.drop pl)).toArray⟩
theorem nmS_cps (a : Nat) (r : List Nat) (pl b : Nat) : (nmS a r pl b).cps.toList = a :: (r.take pl ++ b :: r.drop pl) := rfl
theorem nmS_len (a : Nat) (r : List Nat) (pl b : Nat) (h : pl ≤ r.length) : (nmS a r pl b).length = r.length + 2 := by
  rw [len_cps, nmS_cps, List.length_cons, List.length_append, List.length_cons, List.length_take, List.length_drop]
  omega
theorem nmS_at (a : Nat) (r : List Nat) (pl b : Nat) (h : pl ≤ r.length) : (nmS a r pl b).cps.toList[pl + 1]? = some b := by
  rw [nmS_cps, List.getElem?_cons_succ, List.getElem?_append_right (by rw [List.length_take]; omega), List.length_take, Nat.min_eq_left h, Nat.sub_self]
  rfl
theorem name36 : nameCps.length = 36 := by decide +kernel
theorem name_nd : nameCps.Nodup := by decide +kernel
theorem name_first : ∀ i : Nat, i < 26 → nameCps.getD i 0 ∉ digCps := by decide +kernel
theorem name_at {i : Nat} (h : i < 36) : nameCps.getD i 0 ∈ nameCps := getD_mem (by rw [name36]; exact h) 0
theorem nmS_good {a : Nat} {r : List Nat} {pl b : Nat} (h : pl ≤ r.length) (hr : r.length ≤ 9) (ha : a ∈ nameCps) (hb : b ∈ nameCps) (hrr : ∀ c ∈ r, c ∈ nameCps) (hd : a ∉ digCps) : GoodName (nmS a r pl b) := by
  refine ⟨by rw [nmS_len _ _ _ _ h]; omega, by rw [nmS_len _ _ _ _ h]; omega, fun c hc => ?_, a, _, nmS_cps _ _ _ _, hd⟩
  rw [nmS_cps] at hc
  rcases List.mem_cons.mp hc with e | e
  · rw [e]; exact ha
  · rcases List.mem_append.mp e with e | e
    · exact hrr c (List.mem_of_mem_take e)
    · rcases List.mem_cons.mp e with e | e
      · rw [e]; exact hb
      · exact hrr c (List.mem_of_mem_drop e)
section
variable {K : Frg} {C : Addr} {σ : L2.St} {H : Hp} {ta tb te : TE}
theorem ev_letter {i : Int} (ha : Ev ta σ H (.str "abcdefghijklmnopqrstuvwxyz0123456789")) (hb : Ev tb σ H (.int i)) (h0 : 0 ≤ i) (h1 : i < 36) : Ev (tOp rIxS ta tb) σ H (.str ⟨#[nameCps.getD i.toNat 0]⟩) :=
  ev_ixS ha hb (by rw [len_cps]; show nameCps.length ≤ _; rw [name36]; decide) (show atI nameCps i = _ from atI_getD h0 (by rw [name36]; omega) 0)
theorem ev_slS {z : Str} {tl th : TO} {lo hi : Option Int} (h : Ev te σ H (.str z)) (hz : z.length ≤ 100000) (h1 : EvO tl σ H lo) (h2 : EvO th σ H hi) : Ev (tSl rSlS te tl th) σ H (.str (cutS z lo hi)) := fun H1 a Q q =>
  h H1 a _ fun H2 e2 => h1 H2 (a.trans e2) _ fun H3 e3 => h2 H3 ((a.trans e2).trans e3) _ fun H4 e4 => ⟨z, rfl, sz_of hz, q H4 ((e2.trans e3).trans e4)⟩
theorem sum_one : ∀ cs : List Nat, ((cs.map fun c => (⟨#[c]⟩ : Str)).map (·.length)).sum = cs.length
  | [] => rfl
  | c :: cs => by
    rw [List.map_cons, List.map_cons, List.sum_cons, List.length_cons, sum_one cs]
    show 1 + cs.length = _
    rw [Nat.add_comm]
theorem getD_inj {a b : Nat} (ha : a < 36) (hb : b < 36) (h : nameCps.getD a 0 = nameCps.getD b 0) : a = b := by
  have la : a < nameCps.length := by rw [name36]; exact ha
  have lb : b < nameCps.length := by rw [name36]; exact hb
  rw [List.getD_eq_getElem?_getD, List.getD_eq_getElem?_getD, List.getElem?_eq_getElem la, List.getElem?_eq_getElem lb] at h
  exact (List.getElem_inj name_nd).mp h
theorem ev_join {cs : List Nat} (h : EvD K te σ H (strsD (cs.map fun c => ⟨#[c]⟩))) (hl : cs.length ≤ 1000) : Ev (tM1 (rJoin K) (tC (.str "")) te) σ H (.str ⟨cs.toArray⟩) := fun H1 a Q q => by
  refine ⟨⟨_, rfl⟩, h H1 a _ fun v H2 e2 hv => ?_⟩
  obtain ⟨p, xs, rfl, hs, hx⟩ := dp_lst hv
  have ex := of_strs hx
  subst ex
  refine ⟨"", p, cs.map fun c => ⟨#[c]⟩, rfl, rfl, .inl hs, ?_, ?_⟩
  · have e1 := sum_one cs
    rw [e1, List.length_map]
    have z : ("" : Str).length = 0 := by decide +kernel
    rw [z]
    omega
  · have e3 : Txt.join ("" : Str) (cs.map fun c => ⟨#[c]⟩) = ⟨cs.toArray⟩ := str_ext (join_one cs)
    rw [e3]
    exact q H2 e2
theorem p_Lnames : PureOk (R_Lnames K C) (t_Lnames K C) N_Lnames := by
  rintro vs H P Q ⟨n, many, rfl, n0, n1, hm, rfl⟩ q
  show t_Lnames K C (endQ Q) [some (.int n), some (.int (many : Nat)), none, none, none, none, none, none, none] H
  refine q_asg (ev_c (v := .str "abcdefghijklmnopqrstuvwxyz0123456789")) fun H1 e1 => ?_
  show tSeq _ _ _ [some (.int n), some (.int (many : Nat)), some (.str "abcdefghijklmnopqrstuvwxyz0123456789"), none, none, none, none, none, none] H1
  have rg := emod_rng (i := n) (m := 10) (by decide)
  refine q_asg (ev_mod (ev_int1 (ev_var (v := .int n) (i := 0) rfl)) (ev_c (v := .int 10)) (by decide)) fun H2 e2 => ?_
  have hsz : ∃ sz : Nat, n % 10 = (sz : Int) ∧ sz ≤ 9 := ⟨(n % 10).toNat, by omega, by omega⟩
  obtain ⟨sz, hsz1, hsz2⟩ := hsz
  rw [hsz1]
  show tSeq _ _ _ [some (.int n), some (.int (many : Nat)), some (.str "abcdefghijklmnopqrstuvwxyz0123456789"), some (.int (sz : Int)), none, none, none, none, none] H2
  have hlc : EvN K (tLc (iRng1 (tCons (tVar 3) tNil)) (gName 4) (tYes) (tOp rIxS (tVar 2) (tOp (rModI) (tCB (rInt1) (tCons (tOp (rAddI) (tVar 0) (tOp (rMulI) (tOp (rMulI) (tC (.int 7)) (tVar 4)) (tVar 4))) tNil)) (tC (.int 36)))) [4]) [some (.int n), some (.int (many : Nat)), some (.str "abcdefghijklmnopqrstuvwxyz0123456789"), some (.int (sz : Int)), none, none, none, none, none] H2
      (((List.range sz).map fun k : Nat => (⟨#[nameCps.getD ((n + 7 * (k : Int) * (k : Int)) % 36).toNat 0]⟩ : Str)).map .str) :=
    en_map (eb := PyData.str) (ea := fun i : Nat => .int i) (ei_range (n := (sz : Nat)) (ea_cons (ev_var (i := 3) rfl) ea_nil) (by omega) (by omega)).it _ no_str (by rw [List.length_range]; omega) fun k x Hb hk e hx => by
      have ex := dp_int hx
      subst ex
      have hk2 : k < sz := by
        have := List.mem_range.mp hk
        simpa using this
      have r36 := emod_rng (i := n + 7 * (k : Int) * (k : Int)) (m := 36) (by decide)
      exact ⟨_, gs_name, rfl, ed_str (ev_letter (ev_var (i := 2) rfl) (ev_mod (ev_int1 (ev_add (ev_var (v := .int n) (i := 0) rfl) (ev_mul (ev_mul (ev_c (v := .int 7)) (ev_var (v := .int (k : Int)) (i := 4) rfl) (.inl ⟨by decide, by decide⟩)) (ev_var (v := .int (k : Int)) (i := 4) rfl) (.inr ⟨by omega, by omega⟩)))) (ev_c (v := .int 36)) (by decide)) r36.1 r36.2)⟩
  have hcs : ((List.range sz).map fun k : Nat => (⟨#[nameCps.getD ((n + 7 * (k : Int) * (k : Int)) % 36).toNat 0]⟩ : Str)) = ((List.range sz).map fun k : Nat => nameCps.getD ((n + 7 * (k : Int) * (k : Int)) % 36).toNat 0).map fun c => ⟨#[c]⟩ := by
    rw [List.map_map]
    rfl
  have hrl : ((List.range sz).map fun k : Nat => nameCps.getD ((n + 7 * (k : Int) * (k : Int)) % 36).toNat 0).length = sz := by rw [List.length_map, List.length_range]
  have hrr : ∀ c ∈ ((List.range sz).map fun k : Nat => nameCps.getD ((n + 7 * (k : Int) * (k : Int)) % 36).toNat 0), c ∈ nameCps := fun c hc => by
    obtain ⟨k, _, rfl⟩ := List.mem_map.mp hc
    have r36 := emod_rng (i := n + 7 * (k : Int) * (k : Int)) (m := 36) (by decide)
    exact name_at (by omega)
  rw [hcs] at hlc
  generalize ((List.range sz).map fun k : Nat => nameCps.getD ((n + 7 * (k : Int) * (k : Int)) % 36).toNat 0) = r at hlc hrl hrr
  refine q_asg (ev_join hlc.toD (by omega)) fun H3 e3 => ?_
  show tSeq _ _ _ [some (.int n), some (.int (many : Nat)), some (.str "abcdefghijklmnopqrstuvwxyz0123456789"), some (.int (sz : Int)), none, some (.str ⟨r.toArray⟩), none, none, none] H3
  have rgp := emod_rng (i := n / 10) (m := (sz : Int) + 1) (by omega)
  refine q_asg (ev_mod (ev_int1 (ev_div (ev_var (v := .int n) (i := 0) rfl) (ev_c (v := .int 10)) ⟨by decide, by decide⟩)) (ev_add (ev_var (v := .int (sz : Int)) (i := 3) rfl) (ev_c (v := .int 1))) (by omega)) fun H4 e4 => ?_
  have hpl : ∃ pl : Nat, n / 10 % ((sz : Int) + 1) = (pl : Int) ∧ pl ≤ sz := ⟨(n / 10 % ((sz : Int) + 1)).toNat, by omega, by omega⟩
  obtain ⟨pl, hpl1, hpl2⟩ := hpl
  rw [hpl1]
  show tSeq _ _ _ [some (.int n), some (.int (many : Nat)), some (.str "abcdefghijklmnopqrstuvwxyz0123456789"), some (.int (sz : Int)), none, some (.str ⟨r.toArray⟩), some (.int (pl : Int)), none, none] H4
  refine q_acc0 (K := K) fun p H5 hp e5 acc => ?_
  have e04 := ((e1.trans e2).trans e3).trans e4
  show tSeq _ _ _ [some (.int n), some (.int (many : Nat)), some (.str "abcdefghijklmnopqrstuvwxyz0123456789"), some (.int (sz : Int)), none, some (.str ⟨r.toArray⟩), some (.int (pl : Int)), some (.ref p), none] H5
  have hplr : pl ≤ r.length := by omega
  have todd : ∃ odd : Bool, odd = decide (n / 100 % 2 = 1) := ⟨_, rfl⟩
  obtain ⟨odd, hodd⟩ := todd
  have ttn : ∃ tn : Nat → Nat, tn = fun k => if odd = true then many - 1 - k else k := ⟨_, rfl⟩
  obtain ⟨tn, htn⟩ := ttn
  have tlt : ∀ i, i < many → tn i < many := fun i hi => by
    rw [htn]
    show (if odd = true then many - 1 - i else i) < many
    split <;> omega
  have tinj : ∀ i j, i < many → j < many → tn i = tn j → i = j := fun i j hi hj h => by
    rw [htn] at h
    have h2 : (if odd = true then many - 1 - i else i) = (if odd = true then many - 1 - j else j) := h
    split at h2 <;> omega
  refine q_rng (j := 4) (n := many) (ea_cons (ev_var (i := 1) rfl) ea_nil) (by omega) (fun i σ' H' => ∃ (z4 z8 : Option V) (ss : List Str), σ' = [some (.int n), some (.int (many : Nat)), some (.str "abcdefghijklmnopqrstuvwxyz0123456789"), some (.int (sz : Int)), z4, some (.str ⟨r.toArray⟩), some (.int (pl : Int)), some (.ref p), z8] ∧ Acc K H4 p .str ss H' ∧ ss.length = i ∧ ss.Nodup ∧ (∀ s ∈ ss, GoodName s) ∧ ∀ s ∈ ss, ∃ j, j < i ∧ j < many ∧ s.cps.toList[pl + 1]? = some (nameCps.getD (tn j) 0))
    (fun H6 e6 => ⟨none, none, [], rfl, (acc _ PyData.str).up e6, rfl, List.nodup_nil, (fun s h => by cases h), fun s h => by cases h⟩) (fun i σ' H' hi hP => ?_) (fun σ' H' hP => ?_)
  · obtain ⟨z4, z8, ss, rfl, A, hl, hnd, hg, hk⟩ := hP
    have ti := tlt i hi
    have fin : ∀ H7, Acc K H4 p .str (ss ++ [nmS (nameCps.getD ((n + 3 * ((tn i : Nat) : Int)) % 26).toNat 0) r pl (nameCps.getD (tn i) 0)]) H7 → ∃ (z4 z8 : Option V) (ss : List Str), ([some (.int n), some (.int (many : Nat)), some (.str "abcdefghijklmnopqrstuvwxyz0123456789"), some (.int (sz : Int)), some (.int (i : Int)), some (.str ⟨r.toArray⟩), some (.int (pl : Int)), some (.ref p), some (.int ((tn i : Nat) : Int))] : L2.St) = [some (.int n), some (.int (many : Nat)), some (.str "abcdefghijklmnopqrstuvwxyz0123456789"), some (.int (sz : Int)), z4, some (.str ⟨r.toArray⟩), some (.int (pl : Int)), some (.ref p), z8] ∧ Acc K H4 p .str ss H7 ∧ ss.length = i + 1 ∧ ss.Nodup ∧ (∀ s ∈ ss, GoodName s) ∧ ∀ s ∈ ss, ∃ j, j < i + 1 ∧ j < many ∧ s.cps.toList[pl + 1]? = some (nameCps.getD (tn j) 0) := fun H7 A7 => by
      have r26 := emod_rng (i := n + 3 * ((tn i : Nat) : Int)) (m := 26) (by decide)
      have l26 : ((n + 3 * ((tn i : Nat) : Int)) % 26).toNat < 26 := by omega
      generalize ((n + 3 * ((tn i : Nat) : Int)) % 26).toNat = c26 at l26 A7
      refine ⟨_, _, _, rfl, A7, by rw [List.length_append, hl]; rfl, ?_, fun s hs => ?_, fun s hs => ?_⟩
      · refine List.nodup_append.mpr ⟨hnd, by simp, fun a ha b hb hab => ?_⟩
        have hb2 : b = nmS (nameCps.getD c26 0) r pl (nameCps.getD (tn i) 0) := by simpa using hb
        obtain ⟨j, hj1, hj2, hj3⟩ := hk a ha
        rw [hab, hb2, nmS_at _ _ _ _ hplr] at hj3
        have hji := tinj i j hi hj2 (getD_inj (by omega) (by have := tlt j hj2; omega) (Option.some.inj hj3))
        omega
      · rcases List.mem_append.mp hs with h | h
        · exact hg s h
        · rw [List.mem_singleton.mp h]
          exact nmS_good hplr (by omega) (name_at (by omega)) (name_at (by omega)) hrr (name_first _ l26)
      · rcases List.mem_append.mp hs with h | h
        · obtain ⟨j, hj1, hj2, hj3⟩ := hk s h
          exact ⟨j, by omega, hj2, hj3⟩
        · rw [List.mem_singleton.mp h]
          exact ⟨i, Nat.lt_succ_self i, hi, nmS_at _ _ _ _ hplr⟩
    have app : ∀ (D : Ends) (t : Nat) (H7 : Hp), t < many → Acc K H4 p .str ss H7 → (∀ H8, Acc K H4 p .str (ss ++ [nmS (nameCps.getD ((n + 3 * (t : Int)) % 26).toNat 0) r pl (nameCps.getD t 0)]) H8 → D.nx [some (.int n), some (.int (many : Nat)), some (.str "abcdefghijklmnopqrstuvwxyz0123456789"), some (.int (sz : Int)), some (.int (i : Int)), some (.str ⟨r.toArray⟩), some (.int (pl : Int)), some (.ref p), some (.int (t : Int))] H8) →
        tDrop (tBM K "list" rAppend (tVar 7) (tCons (tOp (rAddS) (tOp (rAddS) (tOp (rAddS) (tOp rIxS (tVar 2) (tOp (rModI) (tCB (rInt1) (tCons (tOp (rAddI) (tVar 0) (tOp (rMulI) (tC (.int 3)) (tVar 8))) tNil)) (tC (.int 26)))) (tSl (rSlS) (tVar 5) (tNoPart) (tPart (tVar 6)))) (tOp rIxS (tVar 2) (tOp (rModI) (tCB (rInt1) (tCons (tVar 8) tNil)) (tC (.int 36))))) (tSl (rSlS) (tVar 5) (tPart (tVar 6)) (tNoPart))) tNil)) D [some (.int n), some (.int (many : Nat)), some (.str "abcdefghijklmnopqrstuvwxyz0123456789"), some (.int (sz : Int)), some (.int (i : Int)), some (.str ⟨r.toArray⟩), some (.int (pl : Int)), some (.ref p), some (.int (t : Int))] H7 := fun D t H7 ht A7 k => by
      have r26 := emod_rng (i := n + 3 * (t : Int)) (m := 26) (by decide)
      have r36 := emod_rng (i := (t : Int)) (m := 36) (by decide)
      have rlen : (⟨r.toArray⟩ : Str).length = r.length := by show r.toArray.size = _; simp
      have l1 := ev_letter (σ := [some (.int n), some (.int (many : Nat)), some (.str "abcdefghijklmnopqrstuvwxyz0123456789"), some (.int (sz : Int)), some (.int (i : Int)), some (.str ⟨r.toArray⟩), some (.int (pl : Int)), some (.ref p), some (.int (t : Int))]) (H := H7) (ta := tVar 2) (ev_var rfl) (ev_mod (ev_int1 (ev_add (ev_var (v := .int n) (i := 0) rfl) (ev_mul (ev_c (v := .int 3)) (ev_var (v := .int (t : Int)) (i := 8) rfl) (.inl ⟨by decide, by decide⟩)))) (ev_c (v := .int 26)) (by decide)) r26.1 (by omega)
      have l2 := ev_letter (σ := [some (.int n), some (.int (many : Nat)), some (.str "abcdefghijklmnopqrstuvwxyz0123456789"), some (.int (sz : Int)), some (.int (i : Int)), some (.str ⟨r.toArray⟩), some (.int (pl : Int)), some (.ref p), some (.int (t : Int))]) (H := H7) (ta := tVar 2) (ev_var rfl) (ev_mod (ev_int1 (ev_var (v := .int (t : Int)) (i := 8) rfl)) (ev_c (v := .int 36)) (by decide)) r36.1 r36.2
      have s1 := ev_slS (te := tVar 5) (tl := tNoPart) (th := tPart (tVar 6)) (σ := [some (.int n), some (.int (many : Nat)), some (.str "abcdefghijklmnopqrstuvwxyz0123456789"), some (.int (sz : Int)), some (.int (i : Int)), some (.str ⟨r.toArray⟩), some (.int (pl : Int)), some (.ref p), some (.int (t : Int))]) (H := H7) (z := ⟨r.toArray⟩) (ev_var rfl) (by rw [rlen]; omega) eo_none (eo_some (ev_var (v := .int (pl : Int)) (i := 6) rfl))
      have s2 := ev_slS (te := tVar 5) (tl := tPart (tVar 6)) (th := tNoPart) (σ := [some (.int n), some (.int (many : Nat)), some (.str "abcdefghijklmnopqrstuvwxyz0123456789"), some (.int (sz : Int)), some (.int (i : Int)), some (.str ⟨r.toArray⟩), some (.int (pl : Int)), some (.ref p), some (.int (t : Int))]) (H := H7) (z := ⟨r.toArray⟩) (ev_var rfl) (by rw [rlen]; omega) (eo_some (ev_var (v := .int (pl : Int)) (i := 6) rfl)) eo_none
      have c1 := cutS_take ⟨r.toArray⟩ pl (by rw [rlen]; exact hplr)
      have c2 := cutS_drop ⟨r.toArray⟩ pl (by rw [rlen]; exact hplr)
      have n1 : (cutS ⟨r.toArray⟩ none (some (pl : Int))).length ≤ 9 := by
        rw [len_cps, c1, List.length_take]
        show min pl r.toArray.toList.length ≤ 9
        simp only [List.toList_toArray]
        omega
      have n2 : (cutS ⟨r.toArray⟩ (some (pl : Int)) none).length ≤ 9 := by
        rw [len_cps, c2, List.length_drop]
        show r.toArray.toList.length - pl ≤ 9
        simp only [List.toList_toArray]
        omega
      have q1 := ev_str2 l1 s1 (by show 1 + _ ≤ _; omega)
      have lq1 : ((⟨#[nameCps.getD ((n + 3 * (t : Int)) % 26).toNat 0]⟩ : Str) ++ cutS ⟨r.toArray⟩ none (some (pl : Int))).length ≤ 10 := by
        rw [len_cps, app_cps, List.length_append, ← len_cps, ← len_cps]
        show 1 + _ ≤ 10
        omega
      have q2 := ev_str2 q1 l2 (by show _ + 1 ≤ _; omega)
      have lq2 : (((⟨#[nameCps.getD ((n + 3 * (t : Int)) % 26).toNat 0]⟩ : Str) ++ cutS ⟨r.toArray⟩ none (some (pl : Int))) ++ (⟨#[nameCps.getD ((t : Int) % 36).toNat 0]⟩ : Str)).length ≤ 11 := by
        rw [len_cps, app_cps, List.length_append, ← len_cps, ← len_cps]
        show _ + 1 ≤ 11
        omega
      have q3 := ev_str2 q2 s2 (by omega)
      have e9 : (((⟨#[nameCps.getD ((n + 3 * (t : Int)) % 26).toNat 0]⟩ : Str) ++ cutS ⟨r.toArray⟩ none (some (pl : Int))) ++ (⟨#[nameCps.getD ((t : Int) % 36).toNat 0]⟩ : Str)) ++ cutS ⟨r.toArray⟩ (some (pl : Int)) none = nmS (nameCps.getD ((n + 3 * (t : Int)) % 26).toNat 0) r pl (nameCps.getD t 0) := by
        refine str_ext ?_
        rw [app_cps, app_cps, app_cps, c1, c2, nmS_cps, show ((t : Int) % 36).toNat = t by omega]
        show (([nameCps.getD ((n + 3 * (t : Int)) % 26).toNat 0] ++ r.toArray.toList.take pl) ++ [nameCps.getD t 0]) ++ r.toArray.toList.drop pl = _
        simp only [List.toList_toArray, List.append_assoc, List.cons_append, List.nil_append]
      rw [e9] at q3
      exact s_acc A7 no_str (ev_var (i := 7) rfl) (b := nmS (nameCps.getD ((n + 3 * (t : Int)) % 26).toNat 0) r pl (nameCps.getD t 0)) (ed_str q3) (by omega) fun H8 A8 _ => k H8 A8
    show tSeq _ _ _ [some (.int n), some (.int (many : Nat)), some (.str "abcdefghijklmnopqrstuvwxyz0123456789"), some (.int (sz : Int)), some (.int (i : Int)), some (.str ⟨r.toArray⟩), some (.int (pl : Int)), some (.ref p), z8] H'
    refine q_asg (ev_var (v := .int (i : Int)) (i := 4) rfl) fun H6 e6 => ?_
    show tSeq _ _ _ [some (.int n), some (.int (many : Nat)), some (.str "abcdefghijklmnopqrstuvwxyz0123456789"), some (.int (sz : Int)), some (.int (i : Int)), some (.str ⟨r.toArray⟩), some (.int (pl : Int)), some (.ref p), some (.int (i : Int))] H6
    have cnd := ev_eqI (ev_mod (ev_int1 (ev_div (ta := tVar 0) (σ := [some (.int n), some (.int (many : Nat)), some (.str "abcdefghijklmnopqrstuvwxyz0123456789"), some (.int (sz : Int)), some (.int (i : Int)), some (.str ⟨r.toArray⟩), some (.int (pl : Int)), some (.ref p), some (.int (i : Int))]) (H := H6) (i := n) (ev_var rfl) (ev_c (v := .int 100)) ⟨by decide, by decide⟩)) (ev_c (v := .int 2)) (by decide)) (ev_c (v := .int 1))
    rw [← hodd] at cnd
    refine q_when (et_test cnd) (fun hb H7 e7 => ?_) (fun hb H7 e7 => ?_)
    · have et : ((many : Nat) : Int) - 1 - (i : Int) = ((tn i : Nat) : Int) := by
        rw [htn]
        show _ = (((if odd = true then many - 1 - i else i) : Nat) : Int)
        rw [if_pos hb]
        omega
      have hs := ev_sub (ev_sub (ta := tVar 1) (σ := [some (.int n), some (.int (many : Nat)), some (.str "abcdefghijklmnopqrstuvwxyz0123456789"), some (.int (sz : Int)), some (.int (i : Int)), some (.str ⟨r.toArray⟩), some (.int (pl : Int)), some (.ref p), some (.int (i : Int))]) (H := H7) (i := ((many : Nat) : Int)) (ev_var rfl) (ev_c (v := .int 1))) (ev_var (v := .int (i : Int)) (i := 4) rfl)
      rw [et] at hs
      exact s_asg hs fun H8 e8 => app _ (tn i) H8 ti (((A.up e6).up e7).up e8) fin
    · have et : tn i = i := by
        rw [htn]
        show (if odd = true then many - 1 - i else i) = i
        rw [if_neg (by rw [hb]; simp)]
      have a2 := app { nx := fun σ2 H2 => ∃ (z4 z8 : Option V) (ss : List Str), σ2 = [some (.int n), some (.int (many : Nat)), some (.str "abcdefghijklmnopqrstuvwxyz0123456789"), some (.int (sz : Int)), z4, some (.str ⟨r.toArray⟩), some (.int (pl : Int)), some (.ref p), z8] ∧ Acc K H4 p .str ss H2 ∧ ss.length = i + 1 ∧ ss.Nodup ∧ (∀ s ∈ ss, GoodName s) ∧ ∀ s ∈ ss, ∃ j, j < i + 1 ∧ j < many ∧ s.cps.toList[pl + 1]? = some (nameCps.getD (tn j) 0), rt := Q } (tn i) H7 ti ((A.up e6).up e7) fin
      rw [et] at a2
      exact a2
  · obtain ⟨z4, z8, ss, rfl, A, hl, hnd, hg, hk⟩ := hP
    exact s_retD (ed_var (i := 7) rfl A.dp) fun v H6 e6 hv => q _ _ ((e04.trans A.ex).trans e6) ⟨ss, hv, hl, hnd, hg⟩
end
end Ef
/-! ==== EfP17 -/
set_option Elab.async false
set_option linter.all false
set_option maxRecDepth 100000
set_option maxHeartbeats 2000000
/-! The drawn parts. -/
namespace Ef
open PySem L2 Evl
theorem other_ne {a d L : Int} (a0 : 0 ≤ a) (a1 : a < L) (d0 : 0 ≤ d) (d1 : d < L - 1) : (a + 1 + d) % L ≠ a := by
  by_cases c : a + 1 + d < L
  · rw [Int.emod_eq_of_lt (by omega) c]
    omega
  · have e : a + 1 + d = (a + 1 + d - L) + L := by omega
    rw [e, Int.add_emod_right, Int.emod_eq_of_lt (by omega) (by omega)]
    omega
theorem getD_ne {ps : List Str} (hn : ps.Nodup) {a b : Nat} (ha : a < ps.length) (hb : b < ps.length) (h : a ≠ b) : ps.getD a ⟨#[]⟩ ≠ ps.getD b ⟨#[]⟩ := fun e => by
  rw [List.getD_eq_getElem?_getD, List.getD_eq_getElem?_getD, List.getElem?_eq_getElem ha, List.getElem?_eq_getElem hb] at e
  exact h ((List.getElem_inj hn).mp e)
def TimesGood (ts : List (Option (Int × Int))) : Prop := ∀ p : Int × Int, some p ∈ ts → 1 ≤ p.1 ∧ p.1 ≤ p.2 ∧ p.2 ≤ 1000
section
variable {K : Frg} {C : Addr} {σ : L2.St} {H : Hp} {ta tb te : TE} {s v : V} {ns : List Int}
theorem ev_ninP {b : Str × Str} {xs : List (Str × Str)} (ha : EvD K ta σ H (prD b)) (hd : EvD K tb σ H (.list (xs.map prD))) : (b ∈ xs → Ev (tOp (rInO K (Str × Str) true) ta tb) σ H (.bl false)) ∧ (b ∉ xs → Ev (tOp (rInO K (Str × Str) true) ta tb) σ H (.bl true)) := by
  refine ⟨fun hm H1 e Q q => ha H1 e _ fun u H2 e2 hu => hd H2 (e.trans e2) _ fun w H3 e3 hw => ⟨b, xs, hu.up e3, hw, ?_⟩, fun hm H1 e Q q => ha H1 e _ fun u H2 e2 hu => hd H2 (e.trans e2) _ fun w H3 e3 hw => ⟨b, xs, hu.up e3, hw, ?_⟩⟩
  · have z := q H3 (e2.trans e3)
    simp only [hm, decide_true, Bool.not_true, if_pos]
    exact z
  · have z := q H3 (e2.trans e3)
    simp only [hm, decide_false, Bool.not_false, if_pos]
    exact z
/-- a drawn number by another -/
theorem ev_nmod {k : Nat} {m : Int} (hs : Dp K H s (intsD ns)) (hN : Nums ns) (hv : Ev ta σ H s) (hi : Ev tb σ H (.int (k : Int))) (hk : k < 200) (hm : Ev te σ H (.int m)) (h0 : 0 < m) : Ev (tOp rModI (tCB rInt1 (tCons (tOp (rIxL K) ta tb) tNil)) te) σ H (.int (ns.getD k 0 % m)) :=
  ev_mod (ev_int1 (ev_numD hs hN hv hi hk)) hm h0
theorem ed_ixS {ps : List Str} {i : Int} (hd : Dp K H v (strsD ps)) (hv : Ev ta σ H v) (hi : Ev tb σ H (.int i)) (h0 : 0 ≤ i) (h1 : i < (ps.length : Int)) : EvD K (tOp (rIxL K) ta tb) σ H (.str (ps.getD i.toNat ⟨#[]⟩)) :=
  ed_ixL (evd_of hv hd) hi (by rw [atI_map, atI_getD h0 h1 ⟨#[]⟩]; rfl)
theorem ep_names {k : Nat} {many : Nat} (hs : Dp K H s (intsD ns)) (hN : Nums ns) (hv : Ev (tVar 0) σ H s) (hi : Ev ta σ H (.int (k : Int))) (hk : k < 200) (hm : Ev tb σ H (.int (many : Int))) (h10 : many ≤ 10) :
    EvP (tCall (spOf (R_Lnames K C)) [] E0 (tCons (tOp (rIxL K) (tVar 0) ta) (tCons tb tNil))) σ H (fun v H' => ∃ ss, Dp K H' v (strsD ss) ∧ ss.length = many ∧ ss.Nodup ∧ ∀ s ∈ ss, GoodName s) :=
  ep_own (ea_cons (ev_numD hs hN hv hi hk) (ea_cons hm ea_nil)) fun H1 e1 => ⟨_, ⟨ns.getD k 0, many, rfl, (num_rng hN k).1, (num_rng hN k).2, h10, rfl⟩, fun _ _ _ h => h⟩
end
section
variable {K : Frg} {C : Addr}
/-- the links that are drawn -/
structure LksOk (ws ps nm : List Str) (ls : List Link) : Prop where
  nm : ls.map Link.name = nm.take ls.length
  en : ∀ l ∈ ls, l.one ∈ ps ∧ l.other ∈ ps ∧ l.one ≠ l.other
  tl : ∀ l ∈ ls, l.times.length = ws.length
  tg : ∀ l ∈ ls, TimesGood l.times
structure PthOk (ps : List Str) (hs : List Path) : Prop where
  en : ∀ h ∈ hs, h.1 ∈ ps ∧ h.2.1 ∈ ps ∧ h.1 ≠ h.2.1
  mi : ∀ h ∈ hs, 1 ≤ h.2.2 ∧ h.2.2 ≤ 1000
  pw : hs.Pairwise DiffEnds
theorem parts_paths {s wv pv mv lv : V} {ns : List Int} {ws ps : List Str} {ls : List Link} {H H0 : Hp} {z6 z7 z8 z9 z10 z11 z12 : Option V} {Q : VK} (hs : Dp K H s (intsD ns)) (hN : Nums ns)
    (hw : Dp K H wv (strsD ws)) (hp : Dp K H pv (strsD ps)) (hpl : 2 ≤ ps.length ∧ ps.length ≤ 7) (hpn : ps.Nodup) (hl : Dp K H0 lv (.list (ls.map linkD))) (e0 : Ex H H0) (hll : ls.length ≤ 10)
    (q : ∀ (hs : List Path) v H', Ex H0 H' → PthOk ps hs → hs.length ≤ 7 → PartsAt K H' v ⟨ws, ps, ls, hs⟩ → Q v H') :
    (tSeq (tAsg (tLst (tNil)) (gName 13)) (tSeq (tFor (iRng1 (tCons (tOp (rModI) (tCB (rInt1) (tCons (tOp (rIxL K) (tVar 0) (tOp (rAddI) (tVar 1) (tC (.int 88)))) tNil)) (tC (.int 7))) tNil)) (gName 6) (tSeq (tAsg (tOp (rModI) (tCB (rInt1) (tCons (tOp (rIxL K) (tVar 0) (tOp (rAddI) (tOp (rAddI) (tVar 1) (tC (.int 89))) (tOp (rMulI) (tC (.int 3)) (tVar 6)))) tNil)) (tCB (rLen2 K) (tCons (tVar 3) tNil))) (gName 8)) (tSeq (tAsg (tOp (rModI) (tCB (rInt1) (tCons (tOp (rAddI) (tOp (rAddI) (tVar 8) (tC (.int 1))) (tOp (rModI) (tCB (rInt1) (tCons (tOp (rIxL K) (tVar 0) (tOp (rAddI) (tOp (rAddI) (tVar 1) (tC (.int 90))) (tOp (rMulI) (tC (.int 3)) (tVar 6)))) tNil)) (tOp (rSubI) (tCB (rLen2 K) (tCons (tVar 3) tNil)) (tC (.int 1))))) tNil)) (tCB (rLen2 K) (tCons (tVar 3) tNil))) (gName 9)) (tSeq (tAsg (tOp (rCat) (tLc (iList K (tVar 13)) (gName 15) (tYes) (tTup (tCons (tOp (rIxT K) (tVar 15) (tC (.int 0))) (tCons (tOp (rIxT K) (tVar 15) (tC (.int 1))) tNil))) [15]) (tLc (iList K (tVar 13)) (gName 15) (tYes) (tTup (tCons (tOp (rIxT K) (tVar 15) (tC (.int 1))) (tCons (tOp (rIxT K) (tVar 15) (tC (.int 0))) tNil))) [15])) (gName 14)) (tIfS (tTest (tOp (rInO K (Str × Str) true) (tTup (tCons (tOp (rIxL K) (tVar 3) (tVar 8)) (tCons (tOp (rIxL K) (tVar 3) (tVar 9)) tNil))) (tVar 14))) (tDrop (tBM K "list" rAppend (tVar 13) (tCons (tTup (tCons (tOp (rIxL K) (tVar 3) (tVar 8)) (tCons (tOp (rIxL K) (tVar 3) (tVar 9)) (tCons (tOp (rAddI) (tC (.int 1)) (tOp (rModI) (tCB (rInt1) (tCons (tOp (rIxL K) (tVar 0) (tOp (rAddI) (tOp (rAddI) (tVar 1) (tC (.int 91))) (tOp (rMulI) (tC (.int 3)) (tVar 6)))) tNil)) (tC (.int 9)))) tNil)))) tNil))) (tNext)))))) (tRet (tLst (tCons (tCB (rTupOf2 K) (tCons (tVar 2) tNil)) (tCons (tCB (rTupOf2 K) (tCons (tVar 3) tNil)) (tCons (tCB (rTupOf2 K) (tCons (tVar 5) tNil)) (tCons (tCB (rTupOf2 K) (tCons (tVar 13) tNil)) tNil))))))))
      (endQ Q) [some s, some (.int 0), some wv, some pv, some mv, some lv, z6, z7, z8, z9, z10, z11, z12, none, none, none] H0 := by
  refine q_acc0 (K := K) fun p H1 hp1 e1 acc => ?_
  have eH : Ex H H1 := e0.trans e1
  show tSeq _ _ _ [some s, some (.int 0), some wv, some pv, some mv, some lv, z6, z7, z8, z9, z10, z11, z12, some (.ref p), none, none] H1
  have r7 := emod_rng (i := ns.getD 88 0) (m := 7) (by decide)
  have hrange : Ev (tOp (rModI) (tCB (rInt1) (tCons (tOp (rIxL K) (tVar 0) (tOp (rAddI) (tVar 1) (tC (.int 88)))) tNil)) (tC (.int 7))) [some s, some (.int 0), some wv, some pv, some mv, some lv, z6, z7, z8, z9, z10, z11, z12, some (.ref p), none, none] H1 (.int (((ns.getD 88 0 % 7).toNat : Nat) : Int)) := by
    rw [show (((ns.getD 88 0 % 7).toNat : Nat) : Int) = ns.getD 88 0 % 7 by omega]
    exact ev_nmod (k := 88) (hs.up eH) hN (ev_var rfl) (ev_add (i := 0) (j := 88) (ev_var rfl) ev_c) (by decide) ev_c (by decide)
  have hn7 : (ns.getD 88 0 % 7).toNat ≤ 6 := by omega
  generalize (ns.getD 88 0 % 7).toNat = n7 at hrange hn7
  refine q_rng (j := 6) (n := n7) (ea_cons hrange ea_nil) (by omega) (fun i σ' H' => ∃ (z6 z7 z8 z9 z10 z11 z12 z14 z15 : Option V) (hs : List Path), σ' = [some s, some (.int 0), some wv, some pv, some mv, some lv, z6, z7, z8, z9, z10, z11, z12, some (.ref p), z14, z15] ∧ Acc K H0 p pathD hs H' ∧ hs.length ≤ i ∧ PthOk ps hs)
    (fun H2 e2 => ⟨_, _, _, _, _, _, _, _, _, [], rfl, (acc _ pathD).up e2, Nat.le_refl _, ⟨fun h hh => (by cases hh), fun h hh => (by cases hh), List.Pairwise.nil⟩⟩) (fun i σ' H' hi hP => ?_) (fun σ' H' hP => ?_)
  · obtain ⟨z6, z7, z8, z9, z10, z11, z12, z14, z15, hh, rfl, A, hhl, hok⟩ := hP
    have eH' : Ex H H' := e0.trans A.ex
    show tSeq _ _ _ [some s, some (.int 0), some wv, some pv, some mv, some lv, some (.int (i : Int)), z7, z8, z9, z10, z11, z12, some (.ref p), z14, z15] H'
    have plen : ∀ (z7 z8 z9 z10 z11 z12 z14 z15 : Option V) (H2 : Hp), Ex H H2 → Ev (tCB (rLen2 K) (tCons (tVar 3) tNil)) [some s, some (.int 0), some wv, some pv, some mv, some lv, some (.int (i : Int)), z7, z8, z9, z10, z11, z12, some (.ref p), z14, z15] H2 (.int (ps.length : Int)) := fun z7 z8 z9 z10 z11 z12 z14 z15 H2 e2 => by
      have h := ev_lenL (ed_var (σ := [some s, some (.int 0), some wv, some pv, some mv, some lv, some (.int (i : Int)), z7, z8, z9, z10, z11, z12, some (.ref p), z14, z15]) (i := 3) (H := H2) rfl (hp.up e2))
      rw [List.length_map] at h
      exact h
    have idx : ∀ (c : Nat) (z7 z8 z9 z10 z11 z12 z14 z15 : Option V) (H2 : Hp), Ev (tOp (rAddI) (tOp (rAddI) (tVar 1) (tC (.int (c : Int)))) (tOp (rMulI) (tC (.int 3)) (tVar 6))) [some s, some (.int 0), some wv, some pv, some mv, some lv, some (.int (i : Int)), z7, z8, z9, z10, z11, z12, some (.ref p), z14, z15] H2 (.int ((c + 3 * i : Nat) : Int)) := fun c z7 z8 z9 z10 z11 z12 z14 z15 H2 => by
      rw [show ((c + 3 * i : Nat) : Int) = 0 + (c : Int) + 3 * (i : Int) by omega]
      exact ev_add (ev_add (ev_var rfl) ev_c) (ev_mul ev_c (ev_var rfl) (.inl ⟨by decide, by decide⟩))
    have ro := emod_rng (i := ns.getD (89 + 3 * i) 0) (m := (ps.length : Int)) (by omega)
    refine q_asg (ev_nmod (hs.up eH') hN (ev_var rfl) (idx 89 _ _ _ _ _ _ _ _ H') (by omega) (plen _ _ _ _ _ _ _ _ H' eH') (by omega)) fun H2 e2 => ?_
    generalize ns.getD (89 + 3 * i) 0 % (ps.length : Int) = one at ro
    have eH2 := eH'.trans e2
    show tSeq _ _ _ [some s, some (.int 0), some wv, some pv, some mv, some lv, some (.int (i : Int)), z7, some (.int one), z9, z10, z11, z12, some (.ref p), z14, z15] H2
    have rd := emod_rng (i := ns.getD (90 + 3 * i) 0) (m := (ps.length : Int) - 1) (by omega)
    have hot := ev_mod (ev_int1 (ev_add (ev_add (ta := tVar 8) (σ := [some s, some (.int 0), some wv, some pv, some mv, some lv, some (.int (i : Int)), z7, some (.int one), z9, z10, z11, z12, some (.ref p), z14, z15]) (H := H2) (i := one) (ev_var rfl) (ev_c (v := .int 1))) (ev_nmod (ta := tVar 0) (s := s) (hs.up eH2) hN (ev_var rfl) (idx 90 _ _ _ _ _ _ _ _ H2) (by omega) (ev_sub (plen _ _ _ _ _ _ _ _ H2 eH2) (ev_c (v := .int 1))) (by omega)))) (plen _ _ _ _ _ _ _ _ H2 eH2) (by omega)
    have rt := emod_rng (i := one + 1 + ns.getD (90 + 3 * i) 0 % ((ps.length : Int) - 1)) (m := (ps.length : Int)) (by omega)
    have hne := other_ne ro.1 ro.2 rd.1 rd.2
    refine q_asg hot fun H3 e3 => ?_
    generalize (one + 1 + ns.getD (90 + 3 * i) 0 % ((ps.length : Int) - 1)) % (ps.length : Int) = oth at rt hne
    have eH3 := eH2.trans e3
    have A3 := (A.up e2).up e3
    have mem1 : ps.getD one.toNat ⟨#[]⟩ ∈ ps := getD_mem (by omega) _
    have mem2 : ps.getD oth.toNat ⟨#[]⟩ ∈ ps := getD_mem (by omega) _
    have neq : ps.getD one.toNat ⟨#[]⟩ ≠ ps.getD oth.toNat ⟨#[]⟩ := getD_ne hpn (by omega) (by omega) (by omega)
    show tSeq _ _ _ [some s, some (.int 0), some wv, some pv, some mv, some lv, some (.int (i : Int)), z7, some (.int one), some (.int oth), z10, z11, z12, some (.ref p), z14, z15] H3
    have k1 : EvN K (tLc (iList K (tVar 13)) (gName 15) (tYes) (tTup (tCons (tOp (rIxT K) (tVar 15) (tC (.int 0))) (tCons (tOp (rIxT K) (tVar 15) (tC (.int 1))) tNil))) [15]) [some s, some (.int 0), some wv, some pv, some mv, some lv, some (.int (i : Int)), z7, some (.int one), some (.int oth), z10, z11, z12, some (.ref p), z14, z15] H3 ((hh.map fun h : Path => (h.1, h.2.1)).map prD) :=
      en_map (eb := prD) (ea := pathD) (ei_list (ed_var (i := 13) rfl A3.dp)) _ (fun _ => rfl) (by omega) fun a x Hb ha e hx => ⟨_, gs_name, rfl, by
        have hv : EvD K (tVar 15) [some s, some (.int 0), some wv, some pv, some mv, some lv, some (.int (i : Int)), z7, some (.int one), some (.int oth), z10, z11, z12, some (.ref p), z14, some x] Hb (.tuple [.str a.1, .str a.2.1, .int a.2.2]) := ed_var (i := 15) rfl hx
        exact ed_tup (eda_cons (ed_ixT hv (ev_c (v := .int 0)) (atI_of (i := 0) rfl)) (eda_cons (ed_ixT hv (ev_c (v := .int 1)) (atI_of (i := 1) rfl)) eda_nil)) (by simp)⟩
    have k2 : EvN K (tLc (iList K (tVar 13)) (gName 15) (tYes) (tTup (tCons (tOp (rIxT K) (tVar 15) (tC (.int 1))) (tCons (tOp (rIxT K) (tVar 15) (tC (.int 0))) tNil))) [15]) [some s, some (.int 0), some wv, some pv, some mv, some lv, some (.int (i : Int)), z7, some (.int one), some (.int oth), z10, z11, z12, some (.ref p), z14, z15] H3 ((hh.map fun h : Path => (h.2.1, h.1)).map prD) :=
      en_map (eb := prD) (ea := pathD) (ei_list (ed_var (i := 13) rfl A3.dp)) _ (fun _ => rfl) (by omega) fun a x Hb ha e hx => ⟨_, gs_name, rfl, by
        have hv : EvD K (tVar 15) [some s, some (.int 0), some wv, some pv, some mv, some lv, some (.int (i : Int)), z7, some (.int one), some (.int oth), z10, z11, z12, some (.ref p), z14, some x] Hb (.tuple [.str a.1, .str a.2.1, .int a.2.2]) := ed_var (i := 15) rfl hx
        exact ed_tup (eda_cons (ed_ixT hv (ev_c (v := .int 1)) (atI_of (i := 1) rfl)) (eda_cons (ed_ixT hv (ev_c (v := .int 0)) (atI_of (i := 0) rfl)) eda_nil)) (by simp)⟩
    have k3 := en_cat k1 k2 (by rw [List.length_map, List.length_map, List.length_map, List.length_map]; omega)
    rw [← List.map_append] at k3
    refine q_asgD k3.toD fun kv H4 e4 hkv => ?_
    have eH4 := eH3.trans e4
    have A4 := A3.up e4
    show tIfS _ _ _ _ [some s, some (.int 0), some wv, some pv, some mv, some lv, some (.int (i : Int)), z7, some (.int one), some (.int oth), z10, z11, z12, some (.ref p), some kv, z15] H4
    have pl1 : ∀ H5, Ex H4 H5 → EvD K (tOp (rIxL K) (tVar 3) (tVar 8)) [some s, some (.int 0), some wv, some pv, some mv, some lv, some (.int (i : Int)), z7, some (.int one), some (.int oth), z10, z11, z12, some (.ref p), some kv, z15] H5 (.str (ps.getD one.toNat ⟨#[]⟩)) := fun H5 e5 => ed_ixS (hp.up (eH4.trans e5)) (ev_var rfl) (ev_var rfl) ro.1 ro.2
    have pl2 : ∀ H5, Ex H4 H5 → EvD K (tOp (rIxL K) (tVar 3) (tVar 9)) [some s, some (.int 0), some wv, some pv, some mv, some lv, some (.int (i : Int)), z7, some (.int one), some (.int oth), z10, z11, z12, some (.ref p), some kv, z15] H5 (.str (ps.getD oth.toNat ⟨#[]⟩)) := fun H5 e5 => ed_ixS (hp.up (eH4.trans e5)) (ev_var rfl) (ev_var rfl) rt.1 rt.2
    generalize ps.getD one.toNat ⟨#[]⟩ = po at mem1 neq pl1
    generalize ps.getD oth.toNat ⟨#[]⟩ = pt at mem2 neq pl2
    have hpair : EvD K (tTup (tCons (tOp (rIxL K) (tVar 3) (tVar 8)) (tCons (tOp (rIxL K) (tVar 3) (tVar 9)) tNil))) [some s, some (.int 0), some wv, some pv, some mv, some lv, some (.int (i : Int)), z7, some (.int one), some (.int oth), z10, z11, z12, some (.ref p), some kv, z15] H4 (prD (po, pt)) := ed_tup (eda_cons (pl1 H4 (Ex.refl _)) (eda_cons (pl2 H4 (Ex.refl _)) eda_nil)) (by simp)
    have hin := ev_ninP hpair (ed_var (i := 14) rfl hkv)
    by_cases c : (po, pt) ∈ (hh.map fun h : Path => (h.1, h.2.1)) ++ (hh.map fun h : Path => (h.2.1, h.1))
    · exact s_when (et_test (hin.1 c)) (fun z => by cases z) fun _ H5 e5 => ⟨_, _, _, _, _, _, _, _, _, hh, rfl, A4.up e5, Nat.le_succ_of_le hhl, hok⟩
    · refine s_when (et_test (hin.2 c)) (fun _ H5 e5 => ?_) (fun z => by cases z)
      have rm := emod_rng (i := ns.getD (91 + 3 * i) 0) (m := 9) (by decide)
      have hmin := ev_add (ev_c (v := .int 1)) (ev_nmod (te := tC (.int 9)) (m := 9) (ta := tVar 0) (hs.up (eH4.trans e5)) hN (ev_var rfl) (idx 91 z7 (some (.int one)) (some (.int oth)) z10 z11 z12 (some kv) z15 H5) (by omega) ev_c (by decide))
      generalize ns.getD (91 + 3 * i) 0 % 9 = mm at rm hmin
      refine s_acc (A4.up e5) no_path (ev_var (i := 13) rfl) (b := (po, pt, 1 + mm)) (ed_tup (eda_cons (pl1 H5 e5) (eda_cons (pl2 H5 e5) (eda_cons (ed_int hmin) eda_nil))) (by simp)) (by omega) fun H6 A6 _ => ⟨_, _, _, _, _, _, _, _, _, hh ++ [(po, pt, 1 + mm)], rfl, A6, by rw [List.length_append]; exact Nat.succ_le_succ hhl, ⟨fun h hm => ?_, fun h hm => ?_, ?_⟩⟩
      · rcases List.mem_append.mp hm with z | z
        · exact hok.en h z
        · rw [List.mem_singleton.mp z]
          exact ⟨mem1, mem2, neq⟩
      · rcases List.mem_append.mp hm with z | z
        · exact hok.mi h z
        · rw [List.mem_singleton.mp z]
          show 1 ≤ 1 + mm ∧ 1 + mm ≤ 1000
          omega
      · refine List.pairwise_append.mpr ⟨hok.pw, List.pairwise_singleton _ _, fun a ha b hb => ?_⟩
        rw [List.mem_singleton.mp hb]
        refine ⟨fun z => c (List.mem_append.mpr (.inl (List.mem_map.mpr ⟨a, ha, ?_⟩))), fun z => c (List.mem_append.mpr (.inr (List.mem_map.mpr ⟨a, ha, ?_⟩)))⟩
        · show (a.1, a.2.1) = (po, pt)
          rw [z.1, z.2]
        · show (a.2.1, a.1) = (po, pt)
          rw [z.1, z.2]
  · obtain ⟨z6, z7, z8, z9, z10, z11, z12, z14, z15, hh, rfl, A, hhl, hok⟩ := hP
    have eH' : Ex H H' := e0.trans A.ex
    refine s_retP (ep_lst4 (K := K) (P1 := fun v H' => Dp K H' v (.tuple (ws.map .str)) ∧ NoDk H' v) (P2 := fun v H' => Dp K H' v (.tuple (ps.map .str))) (P3 := fun v H' => Dp K H' v (.tuple (ls.map linkD))) (P4 := fun v H' => Dp K H' v (.tuple (hh.map pathD)))
      (ep_tupL (ed_var (i := 2) rfl (hw.up eH'))) (ed_tup2 (ed_var (i := 3) rfl (hp.up eH'))) (ed_tup2 (ed_var (i := 5) rfl (hl.up A.ex))) (ed_tup2 (ed_var (i := 13) rfl A.dp)) (fun _ _ _ e h => ⟨h.1.up e, h.2.up e⟩) (fun _ _ _ e h => h.up e) (fun _ _ _ e h => h.up e) (fun _ _ _ e h => h.up e)) fun v H3 e3 hv => ?_
    obtain ⟨a, x1, x2, x3, x4, rfl, h1, h2, h3, h4, h5⟩ := hv
    exact q hh _ _ (A.ex.trans e3) hok (by omega) ⟨a, x1, x2, x3, x4, rfl, h1, h2.2, h2.1, h3, h4, h5⟩
end
end Ef
/-! ==== EfP18 -/
set_option Elab.async false
set_option linter.all false
set_option maxRecDepth 100000
set_option maxHeartbeats 2000000
/-! The drawn parts, on. -/
namespace Ef
open PySem L2 Evl
section
variable {K : Frg} {C : Addr}
theorem p_Lparts : PureOk (R_Lparts K C) (t_Lparts K C) N_Lparts := by
  rintro vs H P Q ⟨s, ns, rfl, hs, hN, rfl⟩ q
  show t_Lparts K C (endQ Q) [some s, some (.int 0), none, none, none, none, none, none, none, none, none, none, none, none, none, none] H
  have idx : ∀ (c : Nat) (z2 z3 z4 z5 z6 z7 z8 z9 z10 z11 z12 z13 z14 z15 : Option V) (H2 : Hp), Ev (tOp (rAddI) (tVar 1) (tC (.int (c : Int)))) [some s, some (.int 0), z2, z3, z4, z5, z6, z7, z8, z9, z10, z11, z12, z13, z14, z15] H2 (.int (c : Int)) := fun c z2 z3 z4 z5 z6 z7 z8 z9 z10 z11 z12 z13 z14 z15 H2 => by
    have h := ev_add (ta := tVar 1) (tb := tC (.int (c : Int))) (σ := [some s, some (.int 0), z2, z3, z4, z5, z6, z7, z8, z9, z10, z11, z12, z13, z14, z15]) (H := H2) (i := 0) (j := (c : Int)) (ev_var rfl) ev_c
    rw [Int.zero_add] at h
    exact h
  -- winds
  have r3 := emod_rng (i := ns.getD 1 0) (m := 3) (by decide)
  have hm1 : ∃ w : Nat, 1 + ns.getD 1 0 % 3 = (w : Int) ∧ 1 ≤ w ∧ w ≤ 3 := ⟨(1 + ns.getD 1 0 % 3).toNat, by omega, by omega, by omega⟩
  obtain ⟨wn, hwn, wn1, wn3⟩ := hm1
  have hmw := ev_add (ev_c (v := .int 1)) (ev_nmod (te := tC (.int 3)) (m := 3) (ta := tVar 0) (k := 1) hs hN (ev_var rfl) (idx 1 none none none none none none none none none none none none none none H) (by decide) ev_c (by decide))
  rw [hwn] at hmw
  refine q_asgP (ep_names (K := K) (C := C) (k := 0) hs hN (ev_var rfl) (ev_var (v := .int 0) (i := 1) rfl) (by decide) hmw (by omega)) fun wv H1 e1 hwv => ?_
  obtain ⟨ws, hw, hwl, hwd, hwg⟩ := hwv
  show tSeq _ _ _ [some s, some (.int 0), some wv, none, none, none, none, none, none, none, none, none, none, none, none, none] H1
  -- places
  have r6 := emod_rng (i := ns.getD 3 0) (m := 6) (by decide)
  have hm2 : ∃ w : Nat, 2 + ns.getD 3 0 % 6 = (w : Int) ∧ 2 ≤ w ∧ w ≤ 7 := ⟨(2 + ns.getD 3 0 % 6).toNat, by omega, by omega, by omega⟩
  obtain ⟨pn, hpn, pn2, pn7⟩ := hm2
  have hmp := ev_add (ev_c (v := .int 2)) (ev_nmod (te := tC (.int 6)) (m := 6) (ta := tVar 0) (k := 3) (hs.up e1) hN (ev_var rfl) (idx 3 (some wv) none none none none none none none none none none none none none H1) (by decide) ev_c (by decide))
  rw [hpn] at hmp
  refine q_asgP (ep_names (K := K) (C := C) (k := 2) (hs.up e1) hN (ev_var rfl) (idx 2 _ _ _ _ _ _ _ _ _ _ _ _ _ _ H1) (by decide) hmp (by omega)) fun pv H2 e2 hpv => ?_
  obtain ⟨ps, hp, hpl, hpd, hpg⟩ := hpv
  have e02 := e1.trans e2
  show tSeq _ _ _ [some s, some (.int 0), some wv, some pv, none, none, none, none, none, none, none, none, none, none, none, none] H2
  -- names
  refine q_asgP (ep_names (K := K) (C := C) (k := 4) (many := 10) (hs.up e02) hN (ev_var rfl) (idx 4 _ _ _ _ _ _ _ _ _ _ _ _ _ _ H2) (by decide) (ev_c (v := .int 10)) (by decide)) fun mv H3 e3 hmv => ?_
  obtain ⟨nm, hnm, hnl, hnd, hng⟩ := hmv
  have e03 := e02.trans e3
  have e13 := e2.trans e3
  show tSeq _ _ _ [some s, some (.int 0), some wv, some pv, some mv, none, none, none, none, none, none, none, none, none, none, none] H3
  have hs3 := hs.up e03
  have hw3 := hw.up e13
  have hp3 := hp.up e3
  refine q_acc0 (K := K) fun p H4 hp4 e4 acc => ?_
  show tSeq _ _ _ [some s, some (.int 0), some wv, some pv, some mv, some (.ref p), none, none, none, none, none, none, none, none, none, none] H4
  have r11 := emod_rng (i := ns.getD 5 0) (m := 11) (by decide)
  have hrange : Ev (tOp (rModI) (tCB (rInt1) (tCons (tOp (rIxL K) (tVar 0) (tOp (rAddI) (tVar 1) (tC (.int 5)))) tNil)) (tC (.int 11))) [some s, some (.int 0), some wv, some pv, some mv, some (.ref p), none, none, none, none, none, none, none, none, none, none] H4 (.int (((ns.getD 5 0 % 11).toNat : Nat) : Int)) := by
    rw [show (((ns.getD 5 0 % 11).toNat : Nat) : Int) = ns.getD 5 0 % 11 by omega]
    exact ev_nmod (k := 5) (hs3.up e4) hN (ev_var rfl) (idx 5 _ _ _ _ _ _ _ _ _ _ _ _ _ _ H4) (by decide) ev_c (by decide)
  have hn11 : (ns.getD 5 0 % 11).toNat ≤ 10 := by omega
  generalize (ns.getD 5 0 % 11).toNat = n11 at hrange hn11
  refine q_rng (j := 6) (n := n11) (ea_cons hrange ea_nil) (by omega) (fun i σ' H' => ∃ (z6 z7 z8 z9 z10 z11 z12 : Option V) (ls : List Link), σ' = [some s, some (.int 0), some wv, some pv, some mv, some (.ref p), z6, z7, z8, z9, z10, z11, z12, none, none, none] ∧ Acc K H3 p linkD ls H' ∧ ls.length = i ∧ LksOk ws ps nm ls)
    (fun H5 e5 => ⟨_, _, _, _, _, _, _, [], rfl, (acc _ linkD).up e5, rfl, ⟨rfl, fun l h => (by cases h), fun l h => (by cases h), fun l h => (by cases h)⟩⟩) (fun i σ' H' hi hP => ?_) (fun σ' H' hP => ?_)
  · obtain ⟨z6, z7, z8, z9, z10, z11, z12, ls, rfl, A, hll, hok⟩ := hP
    show tSeq _ _ _ [some s, some (.int 0), some wv, some pv, some mv, some (.ref p), some (.int (i : Int)), z7, z8, z9, z10, z11, z12, none, none, none] H'
    -- spot
    have hspot : Ev (tOp (rAddI) (tOp (rAddI) (tVar 1) (tC (.int 6))) (tOp (rMulI) (tC (.int 8)) (tVar 6))) [some s, some (.int 0), some wv, some pv, some mv, some (.ref p), some (.int (i : Int)), z7, z8, z9, z10, z11, z12, none, none, none] H' (.int ((6 + 8 * i : Nat) : Int)) := by
      rw [show ((6 + 8 * i : Nat) : Int) = 6 + 8 * (i : Int) by omega]
      exact ev_add (idx 6 _ _ _ _ _ _ _ _ _ _ _ _ _ _ H') (ev_mul ev_c (ev_var rfl) (.inl ⟨by decide, by decide⟩))
    refine q_asg hspot fun H5 e5 => ?_
    have hsp : ∃ sp : Nat, 6 + 8 * i = sp ∧ sp ≤ 78 := ⟨_, rfl, by omega⟩
    obtain ⟨sp, hsp1, hsp2⟩ := hsp
    rw [hsp1]
    show tSeq _ _ _ [some s, some (.int 0), some wv, some pv, some mv, some (.ref p), some (.int (i : Int)), some (.int (sp : Int)), z8, z9, z10, z11, z12, none, none, none] H5
    have A5 := A.up e5
    have plen : ∀ (z8 z9 z10 z11 z12 : Option V) (H6 : Hp), Ex H3 H6 → Ev (tCB (rLen2 K) (tCons (tVar 3) tNil)) [some s, some (.int 0), some wv, some pv, some mv, some (.ref p), some (.int (i : Int)), some (.int (sp : Int)), z8, z9, z10, z11, z12, none, none, none] H6 (.int (ps.length : Int)) := fun z8 z9 z10 z11 z12 H6 e6 => by
      have h := ev_lenL (ed_var (σ := [some s, some (.int 0), some wv, some pv, some mv, some (.ref p), some (.int (i : Int)), some (.int (sp : Int)), z8, z9, z10, z11, z12, none, none, none]) (i := 3) (H := H6) rfl (hp3.up e6))
      rw [List.length_map] at h
      exact h
    have ro := emod_rng (i := ns.getD sp 0) (m := (ps.length : Int)) (by omega)
    refine q_asg (ev_nmod (ta := tVar 0) (s := s) (hs3.up A5.ex) hN (ev_var rfl) (ev_var (v := .int (sp : Int)) (i := 7) rfl) (by omega) (plen _ _ _ _ _ H5 A5.ex) (by omega)) fun H6 e6 => ?_
    generalize ns.getD sp 0 % (ps.length : Int) = one at ro
    have A6 := A5.up e6
    show tSeq _ _ _ [some s, some (.int 0), some wv, some pv, some mv, some (.ref p), some (.int (i : Int)), some (.int (sp : Int)), some (.int one), z9, z10, z11, z12, none, none, none] H6
    have rd := emod_rng (i := ns.getD (sp + 1) 0) (m := (ps.length : Int) - 1) (by omega)
    have hsp1' : Ev (tOp rAddI (tVar 7) (tC (.int 1))) [some s, some (.int 0), some wv, some pv, some mv, some (.ref p), some (.int (i : Int)), some (.int (sp : Int)), some (.int one), z9, z10, z11, z12, none, none, none] H6 (.int ((sp + 1 : Nat) : Int)) := ev_add (i := (sp : Int)) (j := 1) (ev_var rfl) ev_c
    have hot := ev_mod (ev_int1 (ev_add (ev_add (ta := tVar 8) (σ := [some s, some (.int 0), some wv, some pv, some mv, some (.ref p), some (.int (i : Int)), some (.int (sp : Int)), some (.int one), z9, z10, z11, z12, none, none, none]) (H := H6) (i := one) (ev_var rfl) (ev_c (v := .int 1))) (ev_nmod (ta := tVar 0) (s := s) (hs3.up A6.ex) hN (ev_var rfl) hsp1' (by omega) (ev_sub (plen _ _ _ _ _ H6 A6.ex) (ev_c (v := .int 1))) (by omega)))) (plen _ _ _ _ _ H6 A6.ex) (by omega)
    have rt := emod_rng (i := one + 1 + ns.getD (sp + 1) 0 % ((ps.length : Int) - 1)) (m := (ps.length : Int)) (by omega)
    have hne := other_ne ro.1 ro.2 rd.1 rd.2
    refine q_asg hot fun H7 e7 => ?_
    generalize (one + 1 + ns.getD (sp + 1) 0 % ((ps.length : Int) - 1)) % (ps.length : Int) = oth at rt hne
    have A7 := A6.up e7
    have mem1 : ps.getD one.toNat ⟨#[]⟩ ∈ ps := getD_mem (by omega) _
    have mem2 : ps.getD oth.toNat ⟨#[]⟩ ∈ ps := getD_mem (by omega) _
    have neq : ps.getD one.toNat ⟨#[]⟩ ≠ ps.getD oth.toNat ⟨#[]⟩ := getD_ne hpd (by omega) (by omega) (by omega)
    show tSeq _ _ _ [some s, some (.int 0), some wv, some pv, some mv, some (.ref p), some (.int (i : Int)), some (.int (sp : Int)), some (.int one), some (.int oth), z10, z11, z12, none, none, none] H7
    refine q_acc0 (K := K) fun pt H8 hpt e8 acct => ?_
    have npp : p ≠ pt := fun z => by
      obtain ⟨us, hu, _⟩ := A7.at_
      rw [z, hpt] at hu
      cases hu
    have A8 := A7.up e8
    show tSeq _ _ _ [some s, some (.int 0), some wv, some pv, some mv, some (.ref p), some (.int (i : Int)), some (.int (sp : Int)), some (.int one), some (.int oth), some (.ref pt), z11, z12, none, none, none] H8
    have wlen := ev_lenL (ed_var (σ := [some s, some (.int 0), some wv, some pv, some mv, some (.ref p), some (.int (i : Int)), some (.int (sp : Int)), some (.int one), some (.int oth), some (.ref pt), z11, z12, none, none, none]) (i := 2) (H := H8) rfl (hw3.up A8.ex))
    rw [List.length_map] at wlen
    refine q_rng (j := 11) (n := ws.length) (ea_cons wlen ea_nil) (by omega) (fun j σ' H' => ∃ (z11 z12 : Option V) (ts : List (Option (Int × Int))), σ' = [some s, some (.int 0), some wv, some pv, some mv, some (.ref p), some (.int (i : Int)), some (.int (sp : Int)), some (.int one), some (.int oth), some (.ref pt), z11, z12, none, none, none] ∧ Acc K H3 p linkD ls H' ∧ Acc K H3 pt pairO ts H' ∧ ts.length = j ∧ TimesGood ts)
      (fun H9 e9 => ⟨_, _, [], rfl, A8.up e9, ((acct _ pairO).back A7.ex).up e9, rfl, fun x hx => by cases hx⟩) (fun j σ' H' hj hP => ?_) (fun σ' H' hP => ?_)
    · obtain ⟨z11, z12, ts, rfl, B, Bt, htl, htg⟩ := hP
      show tIfS _ _ _ _ [some s, some (.int 0), some wv, some pv, some mv, some (.ref p), some (.int (i : Int)), some (.int (sp : Int)), some (.int one), some (.int oth), some (.ref pt), some (.int (j : Int)), z12, none, none, none] H'
      have ix : ∀ (c : Nat) (z12 : Option V) (H9 : Hp), Ev (tOp (rAddI) (tOp (rAddI) (tVar 7) (tC (.int (c : Int)))) (tVar 11)) [some s, some (.int 0), some wv, some pv, some mv, some (.ref p), some (.int (i : Int)), some (.int (sp : Int)), some (.int one), some (.int oth), some (.ref pt), some (.int (j : Int)), z12, none, none, none] H9 (.int ((sp + c + j : Nat) : Int)) := fun c z12 H9 => by
        rw [show ((sp + c + j : Nat) : Int) = (sp : Int) + (c : Int) + (j : Int) by omega]
        exact ev_add (ev_add (ev_var rfl) ev_c) (ev_var rfl)
      have hnum : ∀ (c : Nat) (m : Int) (z12 : Option V) (H9 : Hp), Ex H3 H9 → c ≤ 5 → 0 < m → Ev (tOp rModI (tCB rInt1 (tCons (tOp (rIxL K) (tVar 0) (tOp (rAddI) (tOp (rAddI) (tVar 7) (tC (.int (c : Int)))) (tVar 11))) tNil)) (tC (.int m))) [some s, some (.int 0), some wv, some pv, some mv, some (.ref p), some (.int (i : Int)), some (.int (sp : Int)), some (.int one), some (.int oth), some (.ref pt), some (.int (j : Int)), z12, none, none, none] H9 (.int (ns.getD (sp + c + j) 0 % m)) := fun c m z12 H9 e9 hc hm =>
        ev_nmod (ta := tVar 0) (s := s) (hs3.up e9) hN (ev_var rfl) (ix c z12 H9) (by omega) ev_c hm
      have fin : ∀ (o : Option (Int × Int)) (z12 : Option V) (H9 H10 : Hp), Acc K H3 p linkD ls H9 → Acc K H3 pt pairO (ts ++ [o]) H10 → ExB pt H9 H10 → NoT H9 pt → (∀ x, o = some x → 1 ≤ x.1 ∧ x.1 ≤ x.2 ∧ x.2 ≤ 1000) →
          ∃ (z11 z12' : Option V) (ts' : List (Option (Int × Int))), ([some s, some (.int 0), some wv, some pv, some mv, some (.ref p), some (.int (i : Int)), some (.int (sp : Int)), some (.int one), some (.int oth), some (.ref pt), some (.int (j : Int)), z12, none, none, none] : L2.St) = [some s, some (.int 0), some wv, some pv, some mv, some (.ref p), some (.int (i : Int)), some (.int (sp : Int)), some (.int one), some (.int oth), some (.ref pt), z11, z12', none, none, none] ∧ Acc K H3 p linkD ls H10 ∧ Acc K H3 pt pairO ts' H10 ∧ ts'.length = j + 1 ∧ TimesGood ts' := fun o z12 H9 H10 B9 Bt10 b nt ho =>
        ⟨_, _, ts ++ [o], rfl, B9.other no_link b npp (b.ex B9.ex Bt10.new) nt, Bt10, by rw [List.length_append, htl]; rfl, fun x hx => by
          rcases List.mem_append.mp hx with h | h
          · exact htg x h
          · exact ho x (List.mem_singleton.mp h).symm⟩
      refine s_if (et_test (ev_eqI (hnum 2 4 z12 H' B.ex (by decide) (by decide)) (ev_c (v := .int 0)))) (fun _ H9 e9 => ?_) (fun _ H9 e9 => ?_)
      · exact s_acc (Bt.up e9) no_pairO (ev_var (i := 10) rfl) (b := none) (ed_non ev_c) (by omega) fun H10 Bt10 b10 => fin none _ H9 H10 (B.up e9) Bt10 b10 (Bt.up e9).noT fun x hx => by cases hx
      · have r9 := emod_rng (i := ns.getD (sp + 2 + j) 0) (m := 9) (by decide)
        refine q_asg (ev_add (ev_c (v := .int 1)) (hnum 2 9 z12 H9 (B.up e9).ex (by decide) (by decide))) fun H10 e10 => ?_
        generalize ns.getD (sp + 2 + j) 0 % 9 = lo at r9
        show tDrop _ _ [some s, some (.int 0), some wv, some pv, some mv, some (.ref p), some (.int (i : Int)), some (.int (sp : Int)), some (.int one), some (.int oth), some (.ref pt), some (.int (j : Int)), some (.int (1 + lo)), none, none, none] H10
        have r7 := emod_rng (i := ns.getD (sp + 5 + j) 0) (m := 7) (by decide)
        have hhi := ev_add (ta := tVar 12) (i := 1 + lo) (ev_var rfl) (hnum 5 7 (some (.int (1 + lo))) H10 ((B.up e9).up e10).ex (by decide) (by decide))
        generalize ns.getD (sp + 5 + j) 0 % 7 = d7 at r7 hhi
        exact s_acc ((Bt.up e9).up e10) no_pairO (ev_var (i := 10) rfl) (b := some (1 + lo, 1 + lo + d7)) (ed_tup (eda_cons (ed_int (ev_var (i := 12) rfl)) (eda_cons (ed_int hhi) eda_nil)) (by simp)) (by omega) fun H11 Bt11 b11 => fin (some (1 + lo, 1 + lo + d7)) _ H10 H11 ((B.up e9).up e10) Bt11 b11 ((Bt.up e9).up e10).noT fun x hx => by
          cases hx
          show 1 ≤ 1 + lo ∧ 1 + lo ≤ 1 + lo + d7 ∧ 1 + lo + d7 ≤ 1000
          omega
    · obtain ⟨z11, z12, ts, rfl, B, Bt, htl, htg⟩ := hP
      have hnmv : EvD K (tOp (rIxL K) (tVar 4) (tVar 6)) [some s, some (.int 0), some wv, some pv, some mv, some (.ref p), some (.int (i : Int)), some (.int (sp : Int)), some (.int one), some (.int oth), some (.ref pt), z11, z12, none, none, none] H' (.str (nm.getD i ⟨#[]⟩)) := by
        have h := ed_ixS (ta := tVar 4) (tb := tVar 6) (σ := [some s, some (.int 0), some wv, some pv, some mv, some (.ref p), some (.int (i : Int)), some (.int (sp : Int)), some (.int one), some (.int oth), some (.ref pt), z11, z12, none, none, none]) (i := (i : Int)) (hnm.up B.ex) (ev_var rfl) (ev_var rfl) (by omega) (by omega)
        rw [Int.toNat_natCast] at h
        exact h
      have pl1 := ed_ixS (ta := tVar 3) (tb := tVar 8) (σ := [some s, some (.int 0), some wv, some pv, some mv, some (.ref p), some (.int (i : Int)), some (.int (sp : Int)), some (.int one), some (.int oth), some (.ref pt), z11, z12, none, none, none]) (i := one) (hp3.up B.ex) (ev_var rfl) (ev_var rfl) ro.1 ro.2
      have pl2 := ed_ixS (ta := tVar 3) (tb := tVar 9) (σ := [some s, some (.int 0), some wv, some pv, some mv, some (.ref p), some (.int (i : Int)), some (.int (sp : Int)), some (.int one), some (.int oth), some (.ref pt), z11, z12, none, none, none]) (i := oth) (hp3.up B.ex) (ev_var rfl) (ev_var rfl) rt.1 rt.2
      generalize ps.getD one.toNat ⟨#[]⟩ = po at mem1 neq pl1
      generalize ps.getD oth.toNat ⟨#[]⟩ = pq at mem2 neq pl2
      refine s_acc (eb := linkD) B no_link (ev_var (i := 5) rfl) (b := Link.mk (nm.getD i ⟨#[]⟩) po pq ts) (ed_tup (eda_cons hnmv (eda_cons pl1 (eda_cons pl2 (eda_cons (ed_tup2 (ed_var (i := 10) rfl Bt.dp)) eda_nil)))) (by simp)) (by omega) fun H9 A9 _ => ⟨_, _, _, _, _, _, _, ls ++ [Link.mk (nm.getD i ⟨#[]⟩) po pq ts], rfl, A9, by rw [List.length_append, hll]; rfl, ⟨?_, fun l hl => ?_, fun l hl => ?_, fun l hl => ?_⟩⟩
      · rw [List.map_append, hok.nm, List.length_append]
        show nm.take ls.length ++ [nm.getD i ⟨#[]⟩] = nm.take (ls.length + 1)
        have hil : i < nm.length := by omega
        rw [hll, take_snoc (List.getElem?_eq_getElem hil), List.getD_eq_getElem?_getD, List.getElem?_eq_getElem hil]
        rfl
      · rcases List.mem_append.mp hl with h | h
        · exact hok.en l h
        · rw [List.mem_singleton.mp h]
          exact ⟨mem1, mem2, neq⟩
      · rcases List.mem_append.mp hl with h | h
        · exact hok.tl l h
        · rw [List.mem_singleton.mp h]
          exact htl
      · rcases List.mem_append.mp hl with h | h
        · exact hok.tg l h
        · rw [List.mem_singleton.mp h]
          exact htg
  · obtain ⟨z6, z7, z8, z9, z10, z11, z12, ls, rfl, A, hll, hok⟩ := hP
    refine parts_paths (ls := ls) hs3 hN hw3 hp3 ⟨by omega, by omega⟩ hpd A.dp A.ex (by omega) fun hh v H5 e5 hpo hhl hpa => q _ _ ((e03.trans A.ex).trans e5) ⟨⟨ws, ps, ls, hh⟩, hpa, ?_, (by show ls.length ≤ 10; omega), (by show ws.length ≤ 3; omega)⟩
    have hnt : (ls.map Link.name).Nodup := by
      rw [hok.nm]
      exact hnd.sublist (List.take_sublist _ _)
    exact {
      w1 := by show 1 ≤ ws.length; omega
      w2 := by show ws.length ≤ 4; omega
      wn := hwg
      wd := hwd
      p1 := by show 1 ≤ ps.length; omega
      p2 := by show ps.length ≤ 24; omega
      pn := hpg
      pd := hpd
      l2 := by show ls.length ≤ 60; omega
      ln := fun l hl => by
        have hm : l.name ∈ ls.map Link.name := List.mem_map.mpr ⟨l, hl, rfl⟩
        rw [hok.nm] at hm
        exact hng _ (List.mem_of_mem_take hm)
      ld := hnt
      le := hok.en
      lt := hok.tl
      lv := fun l hl x hx => hok.tg l hl x hx
      h2 := by show hh.length ≤ 60; omega
      he := hpo.en
      hm := hpo.mi
      hd := hpo.pw }
end
end Ef
/-! ==== EfCal -/
set_option Elab.async false
set_option linter.all false
set_option maxRecDepth 100000
set_option maxHeartbeats 2000000
/-! Each def keeps its promise. Printed by gencal.py. -/
namespace Ef
open PySem PySem.Spec PyProof.Rows L2 Evl
section
variable {P : Program} {w : World} {K : Frg} {mg : Str → Option Value} {base : Heap} {C : Addr}
theorem fo_require 
    {fad : Addr} {fd : FuncData} (F : FunD K "require" "require" (defArgs s_require) (defBody s_require) (defScope s_require) [] [] fad fd) : FnOk P w K mg base CX0 1 fad fd P_require (spOf (R_require K C)) :=
  F.ok sc_require (fun vs H Q E h => by obtain ⟨_, ⟨e, _⟩, _⟩ := h; rw [e]; rfl) fun cdv A outer s H vs Q E hr h => by
    obtain ⟨P1, h1, h2⟩ := h
    exact ⟨t_require K C, PSs.nox (b_require  hr), p_require vs H P1 Q h1 h2⟩
theorem bi_require {fad : Addr} {fd : FuncData} (F : FunD K "require" "require" (defArgs s_require) (defBody s_require) (defScope s_require) [] [] fad fd) : Binds K fd P_require [] := F.bindsN fun _ _ _ _ _ _ us hl => match us, hl with | [_], _ => rfl
theorem fo_is_name {tk_MOST_NAME_CHARS : _} {tk_NAME_CHARS : _} (f_len : mg "len" = none)
    (f_all : mg "all" = none)
    (k_MOST_NAME_CHARS : mg "MOST_NAME_CHARS" = some (.int 12 tk_MOST_NAME_CHARS))
    (k_NAME_CHARS : mg "NAME_CHARS" = some (.str "abcdefghijklmnopqrstuvwxyz0123456789" tk_NAME_CHARS))
    {fad : Addr} {fd : FuncData} (F : FunD K "is_name" "is_name" (defArgs s_is_name) (defBody s_is_name) (defScope s_is_name) [] [] fad fd) : FnOk P w K mg base CX0 1 fad fd P_is_name (spOf (R_is_name K C)) :=
  F.ok sc_is_name (fun vs H Q E h => by obtain ⟨_, ⟨_, e, _⟩, _⟩ := h; rw [e]; rfl) fun cdv A outer s H vs Q E hr h => by
    obtain ⟨P1, h1, h2⟩ := h
    exact ⟨t_is_name K C, PSs.nox (b_is_name f_len f_all k_MOST_NAME_CHARS k_NAME_CHARS hr), p_is_name vs H P1 Q h1 h2⟩
theorem bi_is_name {fad : Addr} {fd : FuncData} (F : FunD K "is_name" "is_name" (defArgs s_is_name) (defBody s_is_name) (defScope s_is_name) [] [] fad fd) : Binds K fd P_is_name [] := F.bindsN fun _ _ _ _ _ _ us hl => match us, hl with | [_], _ => rfl
theorem fo_are_different (f_enumerate : mg "enumerate" = none)
    {fad : Addr} {fd : FuncData} (F : FunD K "are_different" "are_different" (defArgs s_are_different) (defBody s_are_different) (defScope s_are_different) [] [] fad fd) : FnOk P w K mg base CX0 1 fad fd P_are_different (spOf (R_are_different K C)) :=
  F.ok sc_are_different (fun vs H Q E h => by obtain ⟨_, ⟨_, e, _⟩, _⟩ := h; rw [e]; rfl) fun cdv A outer s H vs Q E hr h => by
    obtain ⟨P1, h1, h2⟩ := h
    exact ⟨t_are_different K C, PSs.nox (b_are_different f_enumerate hr), p_are_different vs H P1 Q h1 h2⟩
theorem bi_are_different {fad : Addr} {fd : FuncData} (F : FunD K "are_different" "are_different" (defArgs s_are_different) (defBody s_are_different) (defScope s_are_different) [] [] fad fd) : Binds K fd P_are_different [] := F.bindsN fun _ _ _ _ _ _ us hl => match us, hl with | [_], _ => rfl
theorem fo_checked_times {tk_MOST_MINUTES : _} (f_len : mg "len" = none)
    (f_tuple : mg "tuple" = none)
    (k_MOST_MINUTES : mg "MOST_MINUTES" = some (.int 1000 tk_MOST_MINUTES))
    (c_require : C8.Cal P w K mg base 1 "require" (spOf (R_require K C)) [])
    {fad : Addr} {fd : FuncData} (F : FunD K "checked_times" "checked_times" (defArgs s_checked_times) (defBody s_checked_times) (defScope s_checked_times) [] [] fad fd) : FnOk P w K mg base CX0 2 fad fd P_checked_times (spOf (R_checked_times K C)) :=
  F.ok sc_checked_times (fun vs H Q E h => by obtain ⟨_, ⟨_, _, e, _⟩, _⟩ := h; rw [e]; rfl) fun cdv A outer s H vs Q E hr h => by
    obtain ⟨P1, h1, h2⟩ := h
    exact ⟨t_checked_times K C, PSs.nox (b_checked_times f_len f_tuple k_MOST_MINUTES c_require hr), p_checked_times vs H P1 Q h1 h2⟩
theorem bi_checked_times {fad : Addr} {fd : FuncData} (F : FunD K "checked_times" "checked_times" (defArgs s_checked_times) (defBody s_checked_times) (defScope s_checked_times) [] [] fad fd) : Binds K fd P_checked_times [] := F.bindsN fun _ _ _ _ _ _ us hl => match us, hl with | [_, _], _ => rfl
theorem fo_are_ends (T : LTx K C) 
    {fad : Addr} {fd : FuncData} (F : FunD K "are_ends" "Land.are_ends" (defArgs s_are_ends) (defBody s_are_ends) (defScope s_are_ends) [] [] fad fd) : FnOk P w K mg base CX0 1 fad fd P_are_ends (spOf (R_are_ends K C)) :=
  F.ok sc_are_ends (fun vs H Q E h => by obtain ⟨_, ⟨_, _, _, _, e, _⟩, _⟩ := h; rw [e]; rfl) fun cdv A outer s H vs Q E hr h => by
    obtain ⟨P1, h1, h2⟩ := h
    exact ⟨t_are_ends K C, PSs.nox (b_are_ends  hr), p_are_ends T vs H P1 Q h1 h2⟩
theorem bi_are_ends {fad : Addr} {fd : FuncData} (F : FunD K "are_ends" "Land.are_ends" (defArgs s_are_ends) (defBody s_are_ends) (defScope s_are_ends) [] [] fad fd) : Binds K fd P_are_ends [] := F.bindsN fun _ _ _ _ _ _ us hl => match us, hl with | [_, _, _], _ => rfl
theorem fo_checked_link (T : LTx K C) (f_len : mg "len" = none)
    (c_require : C8.Cal P w K mg base 1 "require" (spOf (R_require K C)) [])
    (c_is_name : C8.Cal P w K mg base 1 "is_name" (spOf (R_is_name K C)) [])
    (c_checked_times : C8.Cal P w K mg base 2 "checked_times" (spOf (R_checked_times K C)) [])
    (m_are_ends : C8.Met P w K mg base 1 C "are_ends" (spOf (R_are_ends K C)) [])
    {fad : Addr} {fd : FuncData} (F : FunD K "checked_link" "Land.checked_link" (defArgs s_checked_link) (defBody s_checked_link) (defScope s_checked_link) [] [] fad fd) : FnOk P w K mg base CX0 3 fad fd P_checked_link (spOf (R_checked_link K C)) :=
  F.ok sc_checked_link (fun vs H Q E h => by obtain ⟨_, ⟨_, _, _, _, _, e, _⟩, _⟩ := h; rw [e]; rfl) fun cdv A outer s H vs Q E hr h => by
    obtain ⟨P1, h1, h2⟩ := h
    exact ⟨t_checked_link K C, PSs.nox (b_checked_link f_len c_require c_is_name c_checked_times m_are_ends hr), p_checked_link T vs H P1 Q h1 h2⟩
theorem bi_checked_link {fad : Addr} {fd : FuncData} (F : FunD K "checked_link" "Land.checked_link" (defArgs s_checked_link) (defBody s_checked_link) (defScope s_checked_link) [] [] fad fd) : Binds K fd P_checked_link [] := F.bindsN fun _ _ _ _ _ _ us hl => match us, hl with | [_, _], _ => rfl
theorem fo_checked_path {tk_MOST_MINUTES : _} (f_len : mg "len" = none)
    (k_MOST_MINUTES : mg "MOST_MINUTES" = some (.int 1000 tk_MOST_MINUTES))
    (c_require : C8.Cal P w K mg base 1 "require" (spOf (R_require K C)) [])
    (m_are_ends : C8.Met P w K mg base 1 C "are_ends" (spOf (R_are_ends K C)) [])
    {fad : Addr} {fd : FuncData} (F : FunD K "checked_path" "Land.checked_path" (defArgs s_checked_path) (defBody s_checked_path) (defScope s_checked_path) [] [] fad fd) : FnOk P w K mg base CX0 2 fad fd P_checked_path (spOf (R_checked_path K C)) :=
  F.ok sc_checked_path (fun vs H Q E h => by obtain ⟨_, ⟨_, _, _, _, e, _⟩, _⟩ := h; rw [e]; rfl) fun cdv A outer s H vs Q E hr h => by
    obtain ⟨P1, h1, h2⟩ := h
    exact ⟨t_checked_path K C, PSs.nox (b_checked_path f_len k_MOST_MINUTES c_require m_are_ends hr), p_checked_path vs H P1 Q h1 h2⟩
theorem bi_checked_path {fad : Addr} {fd : FuncData} (F : FunD K "checked_path" "Land.checked_path" (defArgs s_checked_path) (defBody s_checked_path) (defScope s_checked_path) [] [] fad fd) : Binds K fd P_checked_path [] := F.bindsN fun _ _ _ _ _ _ us hl => match us, hl with | [_, _], _ => rfl
theorem fo_link_names (T : LTx K C) (f_tuple : mg "tuple" = none)
    {fad : Addr} {fd : FuncData} (F : FunD K "link_names" "Land.link_names" (defArgs s_link_names) (defBody s_link_names) (defScope s_link_names) [] [] fad fd) : FnOk P w K mg base CX0 1 fad fd P_link_names (spOf (R_link_names K C)) :=
  F.ok sc_link_names (fun vs H Q E h => by obtain ⟨_, ⟨_, _, e, _⟩, _⟩ := h; rw [e]; rfl) fun cdv A outer s H vs Q E hr h => by
    obtain ⟨P1, h1, h2⟩ := h
    exact ⟨t_link_names K C, PSs.nox (b_link_names f_tuple hr), p_link_names T vs H P1 Q h1 h2⟩
theorem bi_link_names {fad : Addr} {fd : FuncData} (F : FunD K "link_names" "Land.link_names" (defArgs s_link_names) (defBody s_link_names) (defScope s_link_names) [] [] fad fd) : Binds K fd P_link_names [] := F.bindsN fun _ _ _ _ _ _ us hl => match us, hl with | [_], _ => rfl
theorem fo_check_place (T : LTx K C) 
    {fad : Addr} {fd : FuncData} (F : FunD K "check_place" "Land.check_place" (defArgs s_check_place) (defBody s_check_place) (defScope s_check_place) [] [] fad fd) : FnOk P w K mg base CX0 1 fad fd P_check_place (spOf (R_check_place K C)) :=
  F.ok sc_check_place (fun vs H Q E h => by obtain ⟨_, ⟨_, _, _, e, _⟩, _⟩ := h; rw [e]; rfl) fun cdv A outer s H vs Q E hr h => by
    obtain ⟨P1, h1, h2⟩ := h
    exact ⟨t_check_place K C, PSs.nox (b_check_place  hr), p_check_place T vs H P1 Q h1 h2⟩
theorem bi_check_place {fad : Addr} {fd : FuncData} (F : FunD K "check_place" "Land.check_place" (defArgs s_check_place) (defBody s_check_place) (defScope s_check_place) [] [] fad fd) : Binds K fd P_check_place [] := F.bindsN fun _ _ _ _ _ _ us hl => match us, hl with | [_, _], _ => rfl
theorem fo_check_wind (T : LTx K C) 
    {fad : Addr} {fd : FuncData} (F : FunD K "check_wind" "Land.check_wind" (defArgs s_check_wind) (defBody s_check_wind) (defScope s_check_wind) [] [] fad fd) : FnOk P w K mg base CX0 1 fad fd P_check_wind (spOf (R_check_wind K C)) :=
  F.ok sc_check_wind (fun vs H Q E h => by obtain ⟨_, ⟨_, _, _, e, _⟩, _⟩ := h; rw [e]; rfl) fun cdv A outer s H vs Q E hr h => by
    obtain ⟨P1, h1, h2⟩ := h
    exact ⟨t_check_wind K C, PSs.nox (b_check_wind  hr), p_check_wind T vs H P1 Q h1 h2⟩
theorem bi_check_wind {fad : Addr} {fd : FuncData} (F : FunD K "check_wind" "Land.check_wind" (defArgs s_check_wind) (defBody s_check_wind) (defScope s_check_wind) [] [] fad fd) : Binds K fd P_check_wind [] := F.bindsN fun _ _ _ _ _ _ us hl => match us, hl with | [_, _], _ => rfl
theorem fo_walks_from (T : LTx K C) (m_check_place : C8.Met P w K mg base 1 C "check_place" (spOf (R_check_place K C)) [])
    {fad : Addr} {fd : FuncData} (F : FunD K "walks_from" "Land.walks_from" (defArgs s_walks_from) (defBody s_walks_from) (defScope s_walks_from) [] [] fad fd) : FnOk P w K mg base CX0 2 fad fd P_walks_from (spOf (R_walks_from K C)) :=
  F.ok sc_walks_from (fun vs H Q E h => by obtain ⟨_, ⟨_, _, _, e, _⟩, _⟩ := h; rw [e]; rfl) fun cdv A outer s H vs Q E hr h => by
    obtain ⟨P1, h1, h2⟩ := h
    exact ⟨t_walks_from K C, PSs.nox (b_walks_from m_check_place hr), p_walks_from T vs H P1 Q h1 h2⟩
theorem bi_walks_from {fad : Addr} {fd : FuncData} (F : FunD K "walks_from" "Land.walks_from" (defArgs s_walks_from) (defBody s_walks_from) (defScope s_walks_from) [] [] fad fd) : Binds K fd P_walks_from [] := F.bindsN fun _ _ _ _ _ _ us hl => match us, hl with | [_, _], _ => rfl
theorem fo_minutes_between (m_check_place : C8.Met P w K mg base 1 C "check_place" (spOf (R_check_place K C)) [])
    (m_walks_from : C8.Met P w K mg base 2 C "walks_from" (spOf (R_walks_from K C)) [])
    {fad : Addr} {fd : FuncData} (F : FunD K "minutes_between" "Land.minutes_between" (defArgs s_minutes_between) (defBody s_minutes_between) (defScope s_minutes_between) [] [] fad fd) : FnOk P w K mg base CX0 3 fad fd P_minutes_between (spOf (R_minutes_between K C)) :=
  F.ok sc_minutes_between (fun vs H Q E h => by obtain ⟨_, ⟨_, _, _, _, e, _⟩, _⟩ := h; rw [e]; rfl) fun cdv A outer s H vs Q E hr h => by
    obtain ⟨P1, h1, h2⟩ := h
    exact ⟨t_minutes_between K C, PSs.nox (b_minutes_between m_check_place m_walks_from hr), p_minutes_between vs H P1 Q h1 h2⟩
theorem bi_minutes_between {fad : Addr} {fd : FuncData} (F : FunD K "minutes_between" "Land.minutes_between" (defArgs s_minutes_between) (defBody s_minutes_between) (defScope s_minutes_between) [] [] fad fd) : Binds K fd P_minutes_between [] := F.bindsN fun _ _ _ _ _ _ us hl => match us, hl with | [_, _, _], _ => rfl
theorem fo_init {tk_MOST_WINDS : _} {tk_MOST_PLACES : _} {tk_MOST_LINKS : _} {tk_MOST_PATHS : _} (T : LTx K C) (f_len : mg "len" = none)
    (f_all : mg "all" = none)
    (f_tuple : mg "tuple" = none)
    (f_sorted : mg "sorted" = none)
    (k_MOST_WINDS : mg "MOST_WINDS" = some (.int 4 tk_MOST_WINDS))
    (k_MOST_PLACES : mg "MOST_PLACES" = some (.int 24 tk_MOST_PLACES))
    (k_MOST_LINKS : mg "MOST_LINKS" = some (.int 60 tk_MOST_LINKS))
    (k_MOST_PATHS : mg "MOST_PATHS" = some (.int 60 tk_MOST_PATHS))
    (c_is_name : C8.Cal P w K mg base 1 "is_name" (spOf (R_is_name K C)) [])
    (c_are_different : C8.Cal P w K mg base 1 "are_different" (spOf (R_are_different K C)) [])
    (c_require : C8.Cal P w K mg base 1 "require" (spOf (R_require K C)) [])
    (m_checked_link : C8.Met P w K mg base 3 C "checked_link" (spOf (R_checked_link K C)) [])
    (m_checked_path : C8.Met P w K mg base 2 C "checked_path" (spOf (R_checked_path K C)) [])
    (pL : PropL P w K mg base 1 C "link_names" (spOf (R_link_names K C)))
    {kws : List (Str × V)} {fad : Addr} {fd : FuncData} (F : FunD K "__init__" "Land.__init__" (defArgs s_init) (defBody s_init) (defScope s_init) [] kws fad fd) : FnOk P w K mg base CX0 4 fad fd P_init (sp_init K C) :=
  F.ok sc_init (fun vs H Q E h => by obtain ⟨_, _, _, _, _, _, _, e, _⟩ := h; rw [e]; rfl) fun cdv A outer s H vs Q E hr h => ⟨t_init K C, PSs.nox (b_init f_len f_all f_tuple f_sorted k_MOST_WINDS k_MOST_PLACES k_MOST_LINKS k_MOST_PATHS c_is_name c_are_different c_require m_checked_link m_checked_path pL hr), p_init T vs H Q E h⟩
theorem fo_check_winds (m_check_wind : C8.Met P w K mg base 1 C "check_wind" (spOf (R_check_wind K C)) [])
    {fad : Addr} {fd : FuncData} (F : FunD K "check_winds" "check_winds" (defArgs s_check_winds) (defBody s_check_winds) (defScope s_check_winds) [] [] fad fd) : FnOk P w K mg base CX0 2 fad fd P_check_winds (spOf (R_check_winds K C)) :=
  F.ok sc_check_winds (fun vs H Q E h => by obtain ⟨_, ⟨_, _, _, _, e, _⟩, _⟩ := h; rw [e]; rfl) fun cdv A outer s H vs Q E hr h => by
    obtain ⟨P1, h1, h2⟩ := h
    exact ⟨t_check_winds K C, PSs.nox (b_check_winds m_check_wind hr), p_check_winds vs H P1 Q h1 h2⟩
theorem bi_check_winds {fad : Addr} {fd : FuncData} (F : FunD K "check_winds" "check_winds" (defArgs s_check_winds) (defBody s_check_winds) (defScope s_check_winds) [] [] fad fd) : Binds K fd P_check_winds [] := F.bindsN fun _ _ _ _ _ _ us hl => match us, hl with | [_, _], _ => rfl
theorem fo_check_changes {tk_MOST_CHANGES : _} {tk_MOST_MINUTE : _} (f_len : mg "len" = none)
    (f_zip : mg "zip" = none)
    (f_any : mg "any" = none)
    (k_MOST_CHANGES : mg "MOST_CHANGES" = some (.int 40 tk_MOST_CHANGES))
    (k_MOST_MINUTE : mg "MOST_MINUTE" = some (.int 100000 tk_MOST_MINUTE))
    {fad : Addr} {fd : FuncData} (F : FunD K "check_changes" "check_changes" (defArgs s_check_changes) (defBody s_check_changes) (defScope s_check_changes) [] [] fad fd) : FnOk P w K mg base CX0 1 fad fd P_check_changes (spOf (R_check_changes K C)) :=
  F.ok sc_check_changes (fun vs H Q E h => by obtain ⟨_, ⟨_, _, _, e, _⟩, _⟩ := h; rw [e]; rfl) fun cdv A outer s H vs Q E hr h => by
    obtain ⟨P1, h1, h2⟩ := h
    exact ⟨t_check_changes K C, PSs.nox (b_check_changes f_len f_zip f_any k_MOST_CHANGES k_MOST_MINUTE hr), p_check_changes vs H P1 Q h1 h2⟩
theorem bi_check_changes {fad : Addr} {fd : FuncData} (F : FunD K "check_changes" "check_changes" (defArgs s_check_changes) (defBody s_check_changes) (defScope s_check_changes) [] [] fad fd) : Binds K fd P_check_changes [] := F.bindsN fun _ _ _ _ _ _ us hl => match us, hl with | [_], _ => rfl
theorem fo_blowing 
    {fad : Addr} {fd : FuncData} (F : FunD K "blowing" "blowing" (defArgs s_blowing) (defBody s_blowing) (defScope s_blowing) [] [] fad fd) : FnOk P w K mg base CX0 1 fad fd P_blowing (spOf (R_blowing K C)) :=
  F.ok sc_blowing (fun vs H Q E h => by obtain ⟨_, ⟨_, _, _, _, e, _⟩, _⟩ := h; rw [e]; rfl) fun cdv A outer s H vs Q E hr h => by
    obtain ⟨P1, h1, h2⟩ := h
    exact ⟨t_blowing K C, PSs.nox (b_blowing  hr), p_blowing vs H P1 Q h1 h2⟩
theorem bi_blowing {fad : Addr} {fd : FuncData} (F : FunD K "blowing" "blowing" (defArgs s_blowing) (defBody s_blowing) (defScope s_blowing) [] [] fad fd) : Binds K fd P_blowing [] := F.bindsN fun _ _ _ _ _ _ us hl => match us, hl with | [_, _], _ => rfl
theorem fo_chances 
    {fad : Addr} {fd : FuncData} (F : FunD K "chances" "chances" (defArgs s_chances) (defBody s_chances) (defScope s_chances) [] [] fad fd) : FnOk P w K mg base CX0 1 fad fd P_chances (spOf (R_chances K C)) :=
  F.ok sc_chances (fun vs H Q E h => by obtain ⟨_, ⟨_, _, _, _, e, _⟩, _⟩ := h; rw [e]; rfl) fun cdv A outer s H vs Q E hr h => by
    obtain ⟨P1, h1, h2⟩ := h
    exact ⟨t_chances K C, PSs.nox (b_chances  hr), p_chances vs H P1 Q h1 h2⟩
theorem bi_chances {fad : Addr} {fd : FuncData} (F : FunD K "chances" "chances" (defArgs s_chances) (defBody s_chances) (defScope s_chances) [] [] fad fd) : Binds K fd P_chances [] := F.bindsN fun _ _ _ _ _ _ us hl => match us, hl with | [_, _], _ => rfl
theorem fo_least_numbers (T : LTx K C) (f_tuple : mg "tuple" = none)
    {fad : Addr} {fd : FuncData} (F : FunD K "least_numbers" "least_numbers" (defArgs s_least_numbers) (defBody s_least_numbers) (defScope s_least_numbers) [] [] fad fd) : FnOk P w K mg base CX0 1 fad fd P_least_numbers (spOf (R_least_numbers K C)) :=
  F.ok sc_least_numbers (fun vs H Q E h => by obtain ⟨_, ⟨_, _, e, _⟩, _⟩ := h; rw [e]; rfl) fun cdv A outer s H vs Q E hr h => by
    obtain ⟨P1, h1, h2⟩ := h
    exact ⟨t_least_numbers K C, PSs.nox (b_least_numbers f_tuple hr), p_least_numbers T vs H P1 Q h1 h2⟩
theorem bi_least_numbers {fad : Addr} {fd : FuncData} (F : FunD K "least_numbers" "least_numbers" (defArgs s_least_numbers) (defBody s_least_numbers) (defScope s_least_numbers) [] [] fad fd) : Binds K fd P_least_numbers [] := F.bindsN fun _ _ _ _ _ _ us hl => match us, hl with | [_], _ => rfl
theorem fo_check_rows (m_check_place : C8.Met P w K mg base 1 C "check_place" (spOf (R_check_place K C)) [])
    {fad : Addr} {fd : FuncData} (F : FunD K "check_rows" "check_rows" (defArgs s_check_rows) (defBody s_check_rows) (defScope s_check_rows) [] [] fad fd) : FnOk P w K mg base CX0 2 fad fd P_check_rows (spOf (R_check_rows K C)) :=
  F.ok sc_check_rows (fun vs H Q E h => by obtain ⟨_, ⟨_, _, _, _, e, _⟩, _⟩ := h; rw [e]; rfl) fun cdv A outer s H vs Q E hr h => by
    obtain ⟨P1, h1, h2⟩ := h
    exact ⟨t_check_rows K C, PSs.nox (b_check_rows m_check_place hr), p_check_rows vs H P1 Q h1 h2⟩
theorem bi_check_rows {fad : Addr} {fd : FuncData} (F : FunD K "check_rows" "check_rows" (defArgs s_check_rows) (defBody s_check_rows) (defScope s_check_rows) [] [] fad fd) : Binds K fd P_check_rows [] := F.bindsN fun _ _ _ _ _ _ us hl => match us, hl with | [_, _], _ => rfl
theorem fo_least_minutes (f_min : mg "min" = none)
    {fad : Addr} {fd : FuncData} (F : FunD K "least_minutes" "least_minutes" (defArgs s_least_minutes) (defBody s_least_minutes) (defScope s_least_minutes) [] [] fad fd) : FnOk P w K mg base CX0 1 fad fd P_least_minutes (spOf (R_least_minutes K C)) :=
  F.ok sc_least_minutes (fun vs H Q E h => by obtain ⟨_, ⟨_, _, e, _⟩, _⟩ := h; rw [e]; rfl) fun cdv A outer s H vs Q E hr h => by
    obtain ⟨P1, h1, h2⟩ := h
    exact ⟨t_least_minutes K C, PSs.nox (b_least_minutes f_min hr), p_least_minutes vs H P1 Q h1 h2⟩
theorem bi_least_minutes {fad : Addr} {fd : FuncData} (F : FunD K "least_minutes" "least_minutes" (defArgs s_least_minutes) (defBody s_least_minutes) (defScope s_least_minutes) [] [] fad fd) : Binds K fd P_least_minutes [] := F.bindsN fun _ _ _ _ _ _ us hl => match us, hl with | [_], _ => rfl
theorem fo_caught (T : LTx K C) (f_min : mg "min" = none)
    (c_chances : C8.Cal P w K mg base 1 "chances" (spOf (R_chances K C)) [])
    (c_blowing : C8.Cal P w K mg base 1 "blowing" (spOf (R_blowing K C)) [])
    {fad : Addr} {fd : FuncData} (F : FunD K "caught" "caught" (defArgs s_caught) (defBody s_caught) (defScope s_caught) [] [] fad fd) : FnOk P w K mg base CX0 2 fad fd P_caught (spOf (R_caught K C)) :=
  F.ok sc_caught (fun vs H Q E h => by obtain ⟨_, ⟨_, _, _, _, _, _, _, e, _⟩, _⟩ := h; rw [e]; rfl) fun cdv A outer s H vs Q E hr h => by
    obtain ⟨P1, h1, h2⟩ := h
    exact ⟨t_caught K C, PSs.nox (b_caught f_min c_chances c_blowing hr), p_caught T vs H P1 Q h1 h2⟩
theorem bi_caught {fad : Addr} {fd : FuncData} (F : FunD K "caught" "caught" (defArgs s_caught) (defBody s_caught) (defScope s_caught) [] [] fad fd) : Binds K fd P_caught [] := F.bindsN fun _ _ _ _ _ _ us hl => match us, hl with | [_, _, _, _], _ => rfl
theorem fo_spread (T : LTx K C) (f_min : mg "min" = none)
    (f_zip : mg "zip" = none)
    (c_least_minutes : C8.Cal P w K mg base 1 "least_minutes" (spOf (R_least_minutes K C)) [])
    (c_caught : C8.Cal P w K mg base 2 "caught" (spOf (R_caught K C)) [])
    {fad : Addr} {fd : FuncData} (F : FunD K "spread" "spread" (defArgs s_spread) (defBody s_spread) (defScope s_spread) [] [] fad fd) : FnOk P w K mg base CX0 3 fad fd P_spread (spOf (R_spread K C)) :=
  F.ok sc_spread (fun vs H Q E h => by obtain ⟨_, ⟨_, _, _, _, _, _, _, _, _, e, _⟩, _⟩ := h; rw [e]; rfl) fun cdv A outer s H vs Q E hr h => by
    obtain ⟨P1, h1, h2⟩ := h
    exact ⟨t_spread K C, PSs.nox (b_spread f_min f_zip c_least_minutes c_caught hr), p_spread T vs H P1 Q h1 h2⟩
theorem bi_spread {fad : Addr} {fd : FuncData} (F : FunD K "spread" "spread" (defArgs s_spread) (defBody s_spread) (defScope s_spread) [] [] fad fd) : Binds K fd P_spread [] := F.bindsN fun _ _ _ _ _ _ us hl => match us, hl with | [_, _, _, _, _], _ => rfl
theorem fo_check_asked (c_check_winds : C8.Cal P w K mg base 2 "check_winds" (spOf (R_check_winds K C)) [])
    (c_check_rows : C8.Cal P w K mg base 2 "check_rows" (spOf (R_check_rows K C)) [])
    (c_check_changes : C8.Cal P w K mg base 1 "check_changes" (spOf (R_check_changes K C)) [])
    {fad : Addr} {fd : FuncData} (F : FunD K "check_asked" "check_asked" (defArgs s_check_asked) (defBody s_check_asked) (defScope s_check_asked) [] [] fad fd) : FnOk P w K mg base CX0 3 fad fd P_check_asked (spOf (R_check_asked K C)) :=
  F.ok sc_check_asked (fun vs H Q E h => by obtain ⟨_, ⟨_, _, _, _, _, _, _, _, _, _, e, _⟩, _⟩ := h; rw [e]; rfl) fun cdv A outer s H vs Q E hr h => by
    obtain ⟨P1, h1, h2⟩ := h
    exact ⟨t_check_asked K C, PSs.nox (b_check_asked c_check_winds c_check_rows c_check_changes hr), p_check_asked vs H P1 Q h1 h2⟩
theorem bi_check_asked {fad : Addr} {fd : FuncData} (F : FunD K "check_asked" "check_asked" (defArgs s_check_asked) (defBody s_check_asked) (defScope s_check_asked) [] [] fad fd) : Binds K fd P_check_asked [] := F.bindsN fun _ _ _ _ _ _ us hl => match us, hl with | [_, _, _, _, _], _ => rfl
theorem fo_first_arrivals (f_min : mg "min" = none)
    (m_walks_from : C8.Met P w K mg base 2 C "walks_from" (spOf (R_walks_from K C)) [])
    {fad : Addr} {fd : FuncData} (F : FunD K "first_arrivals" "first_arrivals" (defArgs s_first_arrivals) (defBody s_first_arrivals) (defScope s_first_arrivals) [] [] fad fd) : FnOk P w K mg base CX0 3 fad fd P_first_arrivals (spOf (R_first_arrivals K C)) :=
  F.ok sc_first_arrivals (fun vs H Q E h => by obtain ⟨_, ⟨_, _, _, _, _, _, e, _⟩, _⟩ := h; rw [e]; rfl) fun cdv A outer s H vs Q E hr h => by
    obtain ⟨P1, h1, h2⟩ := h
    exact ⟨t_first_arrivals K C, PSs.nox (b_first_arrivals f_min m_walks_from hr), p_first_arrivals vs H P1 Q h1 h2⟩
theorem bi_first_arrivals {fad : Addr} {fd : FuncData} (F : FunD K "first_arrivals" "first_arrivals" (defArgs s_first_arrivals) (defBody s_first_arrivals) (defScope s_first_arrivals) [] [] fad fd) : Binds K fd P_first_arrivals [] := F.bindsN fun _ _ _ _ _ _ us hl => match us, hl with | [_, _, _, _], _ => rfl
theorem fo_safe_walk (T : LTx K C) (f_enumerate : mg "enumerate" = none)
    (f_min : mg "min" = none)
    (c_check_asked : C8.Cal P w K mg base 3 "check_asked" (spOf (R_check_asked K C)) [])
    (c_least_numbers : C8.Cal P w K mg base 1 "least_numbers" (spOf (R_least_numbers K C)) [])
    (c_spread : C8.Cal P w K mg base 3 "spread" (spOf (R_spread K C)) [])
    (c_first_arrivals : C8.Cal P w K mg base 3 "first_arrivals" (spOf (R_first_arrivals K C)) [])
    {fad : Addr} {fd : FuncData} (F : FunD K "safe_walk" "safe_walk" (defArgs s_safe_walk) (defBody s_safe_walk) (defScope s_safe_walk) [] [] fad fd) : FnOk P w K mg base CX0 4 fad fd P_safe_walk (spOf (R_safe_walk K C)) :=
  F.ok sc_safe_walk (fun vs H Q E h => by obtain ⟨_, ⟨_, _, _, _, _, _, _, _, _, _, e, _⟩, _⟩ := h; rw [e]; rfl) fun cdv A outer s H vs Q E hr h => by
    obtain ⟨P1, h1, h2⟩ := h
    exact ⟨t_safe_walk K C, PSs.nox (b_safe_walk f_enumerate f_min c_check_asked c_least_numbers c_spread c_first_arrivals hr), p_safe_walk T vs H P1 Q h1 h2⟩
theorem bi_safe_walk {fad : Addr} {fd : FuncData} (F : FunD K "safe_walk" "safe_walk" (defArgs s_safe_walk) (defBody s_safe_walk) (defScope s_safe_walk) [] [] fad fd) : Binds K fd P_safe_walk [] := F.bindsN fun _ _ _ _ _ _ us hl => match us, hl with | [_, _, _, _, _, _], _ => rfl
theorem fo_is_safe_walk (T : LTx K C) (f_any : mg "any" = none)
    (f_zip : mg "zip" = none)
    (c_check_asked : C8.Cal P w K mg base 3 "check_asked" (spOf (R_check_asked K C)) [])
    (c_least_numbers : C8.Cal P w K mg base 1 "least_numbers" (spOf (R_least_numbers K C)) [])
    (c_spread : C8.Cal P w K mg base 3 "spread" (spOf (R_spread K C)) [])
    (m_minutes_between : C8.Met P w K mg base 3 C "minutes_between" (spOf (R_minutes_between K C)) [])
    {fad : Addr} {fd : FuncData} (F : FunD K "is_safe_walk" "is_safe_walk" (defArgs s_is_safe_walk) (defBody s_is_safe_walk) (defScope s_is_safe_walk) [] [] fad fd) : FnOk P w K mg base CX0 4 fad fd P_is_safe_walk (spOf (R_is_safe_walk K C)) :=
  F.ok sc_is_safe_walk (fun vs H Q E h => by obtain ⟨_, ⟨_, _, _, _, _, _, _, _, _, _, e, _⟩, _⟩ := h; rw [e]; rfl) fun cdv A outer s H vs Q E hr h => by
    obtain ⟨P1, h1, h2⟩ := h
    exact ⟨t_is_safe_walk K C, PSs.nox (b_is_safe_walk f_any f_zip c_check_asked c_least_numbers c_spread m_minutes_between hr), p_is_safe_walk T vs H P1 Q h1 h2⟩
theorem bi_is_safe_walk {fad : Addr} {fd : FuncData} (F : FunD K "is_safe_walk" "is_safe_walk" (defArgs s_is_safe_walk) (defBody s_is_safe_walk) (defScope s_is_safe_walk) [] [] fad fd) : Binds K fd P_is_safe_walk [] := F.bindsN fun _ _ _ _ _ _ us hl => match us, hl with | [_, _, _, _, _], _ => rfl
theorem fo_refuges (T : LTx K C) (c_check_asked : C8.Cal P w K mg base 3 "check_asked" (spOf (R_check_asked K C)) [])
    (c_safe_walk : C8.Cal P w K mg base 4 "safe_walk" (spOf (R_safe_walk K C)) [])
    {fad : Addr} {fd : FuncData} (F : FunD K "refuges" "refuges" (defArgs s_refuges) (defBody s_refuges) (defScope s_refuges) [] [] fad fd) : FnOk P w K mg base CX0 5 fad fd P_refuges (spOf (R_refuges K C)) :=
  F.ok sc_refuges (fun vs H Q E h => by obtain ⟨_, ⟨_, _, _, _, _, _, _, _, _, e, _⟩, _⟩ := h; rw [e]; rfl) fun cdv A outer s H vs Q E hr h => by
    obtain ⟨P1, h1, h2⟩ := h
    exact ⟨t_refuges K C, PSs.nox (b_refuges c_check_asked c_safe_walk hr), p_refuges T vs H P1 Q h1 h2⟩
theorem bi_refuges {fad : Addr} {fd : FuncData} (F : FunD K "refuges" "refuges" (defArgs s_refuges) (defBody s_refuges) (defScope s_refuges) [] [] fad fd) : Binds K fd P_refuges [] := F.bindsN fun _ _ _ _ _ _ us hl => match us, hl with | [_, _, _, _, _], _ => rfl
theorem fo_Lrow (f_abs : mg "abs" = none)
    (f_int : mg "int" = none)
    (f_range : mg "range" = none)
    {fad : Addr} {fd : FuncData} (F : FunD K "_law_row" "_law_row" (defArgs s_Lrow) (defBody s_Lrow) (defScope s_Lrow) [] [] fad fd) : FnOk P w K mg base CX0 1 fad fd P_Lrow (spOf (R_Lrow K C)) :=
  F.ok sc_Lrow (fun vs H Q E h => by obtain ⟨_, ⟨_, _, e, _⟩, _⟩ := h; rw [e]; rfl) fun cdv A outer s H vs Q E hr h => by
    obtain ⟨P1, h1, h2⟩ := h
    exact ⟨t_Lrow K C, PSs.nox (b_Lrow f_abs f_int f_range hr), p_Lrow vs H P1 Q h1 h2⟩
theorem bi_Lrow {fad : Addr} {fd : FuncData} (F : FunD K "_law_row" "_law_row" (defArgs s_Lrow) (defBody s_Lrow) (defScope s_Lrow) [] [] fad fd) : Binds K fd P_Lrow [] := F.bindsN fun _ _ _ _ _ _ us hl => match us, hl with | [_, _], _ => rfl
theorem fo_Lnumbers (f_len : mg "len" = none)
    (f_max : mg "max" = none)
    (c_Lrow : C8.Cal P w K mg base 1 "_law_row" (spOf (R_Lrow K C)) [])
    {fad : Addr} {fd : FuncData} (F : FunD K "_law_numbers" "_law_numbers" (defArgs s_Lnumbers) (defBody s_Lnumbers) (defScope s_Lnumbers) [] [] fad fd) : FnOk P w K mg base CX0 2 fad fd P_Lnumbers (spOf (R_Lnumbers K C)) :=
  F.ok sc_Lnumbers (fun vs H Q E h => by obtain ⟨_, ⟨_, _, e, _⟩, _⟩ := h; rw [e]; rfl) fun cdv A outer s H vs Q E hr h => by
    obtain ⟨P1, h1, h2⟩ := h
    exact ⟨t_Lnumbers K C, PSs.nox (b_Lnumbers f_len f_max c_Lrow hr), p_Lnumbers vs H P1 Q h1 h2⟩
theorem bi_Lnumbers {fad : Addr} {fd : FuncData} (F : FunD K "_law_numbers" "_law_numbers" (defArgs s_Lnumbers) (defBody s_Lnumbers) (defScope s_Lnumbers) [] [] fad fd) : Binds K fd P_Lnumbers [] := F.bindsN fun _ _ _ _ _ _ us hl => match us, hl with | [_, _], _ => rfl
theorem fo_Lpick (f_int : mg "int" = none)
    {fad : Addr} {fd : FuncData} (F : FunD K "_law_pick" "_law_pick" (defArgs s_Lpick) (defBody s_Lpick) (defScope s_Lpick) [] [] fad fd) : FnOk P w K mg base CX0 1 fad fd P_Lpick (spOf (R_Lpick K C)) :=
  F.ok sc_Lpick (fun vs H Q E h => by obtain ⟨_, ⟨_, _, _, _, e, _⟩, _⟩ := h; rw [e]; rfl) fun cdv A outer s H vs Q E hr h => by
    obtain ⟨P1, h1, h2⟩ := h
    exact ⟨t_Lpick K C, PSs.nox (b_Lpick f_int hr), p_Lpick vs H P1 Q h1 h2⟩
theorem bi_Lpick {fad : Addr} {fd : FuncData} (F : FunD K "_law_pick" "_law_pick" (defArgs s_Lpick) (defBody s_Lpick) (defScope s_Lpick) [] [] fad fd) : Binds K fd P_Lpick [] := F.bindsN fun _ _ _ _ _ _ us hl => match us, hl with | [_, _, _], _ => rfl
theorem fo_Lnames (f_int : mg "int" = none)
    (f_range : mg "range" = none)
    {fad : Addr} {fd : FuncData} (F : FunD K "_law_names" "_law_names" (defArgs s_Lnames) (defBody s_Lnames) (defScope s_Lnames) [] [] fad fd) : FnOk P w K mg base CX0 1 fad fd P_Lnames (spOf (R_Lnames K C)) :=
  F.ok sc_Lnames (fun vs H Q E h => by obtain ⟨_, ⟨_, _, e, _⟩, _⟩ := h; rw [e]; rfl) fun cdv A outer s H vs Q E hr h => by
    obtain ⟨P1, h1, h2⟩ := h
    exact ⟨t_Lnames K C, PSs.nox (b_Lnames f_int f_range hr), p_Lnames vs H P1 Q h1 h2⟩
theorem bi_Lnames {fad : Addr} {fd : FuncData} (F : FunD K "_law_names" "_law_names" (defArgs s_Lnames) (defBody s_Lnames) (defScope s_Lnames) [] [] fad fd) : Binds K fd P_Lnames [] := F.bindsN fun _ _ _ _ _ _ us hl => match us, hl with | [_, _], _ => rfl
theorem fo_Lparts (f_int : mg "int" = none)
    (f_range : mg "range" = none)
    (f_len : mg "len" = none)
    (f_tuple : mg "tuple" = none)
    (c_Lnames : C8.Cal P w K mg base 1 "_law_names" (spOf (R_Lnames K C)) [])
    {fad : Addr} {fd : FuncData} (F : FunD K "_law_parts" "_law_parts" (defArgs s_Lparts) (defBody s_Lparts) (defScope s_Lparts) [] [] fad fd) : FnOk P w K mg base CX0 2 fad fd P_Lparts (spOf (R_Lparts K C)) :=
  F.ok sc_Lparts (fun vs H Q E h => by obtain ⟨_, ⟨_, _, e, _⟩, _⟩ := h; rw [e]; rfl) fun cdv A outer s H vs Q E hr h => by
    obtain ⟨P1, h1, h2⟩ := h
    exact ⟨t_Lparts K C, PSs.nox (b_Lparts f_int f_range f_len f_tuple c_Lnames hr), p_Lparts vs H P1 Q h1 h2⟩
theorem bi_Lparts {fad : Addr} {fd : FuncData} (F : FunD K "_law_parts" "_law_parts" (defArgs s_Lparts) (defBody s_Lparts) (defScope s_Lparts) [] [] fad fd) : Binds K fd P_Lparts [] := F.bindsN fun _ _ _ _ _ _ us hl => match us, hl with | [_, _], _ => rfl
theorem fo_Lweather (f_int : mg "int" = none)
    (f_len : mg "len" = none)
    (f_range : mg "range" = none)
    {fad : Addr} {fd : FuncData} (F : FunD K "_law_weather" "_law_weather" (defArgs s_Lweather) (defBody s_Lweather) (defScope s_Lweather) [] [] fad fd) : FnOk P w K mg base CX0 1 fad fd P_Lweather (spOf (R_Lweather K C)) :=
  F.ok sc_Lweather (fun vs H Q E h => by obtain ⟨_, ⟨_, _, _, _, e, _⟩, _⟩ := h; rw [e]; rfl) fun cdv A outer s H vs Q E hr h => by
    obtain ⟨P1, h1, h2⟩ := h
    exact ⟨t_Lweather K C, PSs.nox (b_Lweather f_int f_len f_range hr), p_Lweather vs H P1 Q h1 h2⟩
theorem bi_Lweather {fad : Addr} {fd : FuncData} (F : FunD K "_law_weather" "_law_weather" (defArgs s_Lweather) (defBody s_Lweather) (defScope s_Lweather) [] [] fad fd) : Binds K fd P_Lweather [] := F.bindsN fun _ _ _ _ _ _ us hl => match us, hl with | [_, _, _], _ => rfl
theorem fo_Lwind 
    {fad : Addr} {fd : FuncData} (F : FunD K "_law_wind" "_law_wind" (defArgs s_Lwind) (defBody s_Lwind) (defScope s_Lwind) [] [] fad fd) : FnOk P w K mg base CX0 1 fad fd P_Lwind (spOf (R_Lwind K C)) :=
  F.ok sc_Lwind (fun vs H Q E h => by obtain ⟨_, ⟨_, _, _, _, _, e, _⟩, _⟩ := h; rw [e]; rfl) fun cdv A outer s H vs Q E hr h => by
    obtain ⟨P1, h1, h2⟩ := h
    exact ⟨t_Lwind K C, PSs.nox (b_Lwind  hr), p_Lwind vs H P1 Q h1 h2⟩
theorem bi_Lwind {fad : Addr} {fd : FuncData} (F : FunD K "_law_wind" "_law_wind" (defArgs s_Lwind) (defBody s_Lwind) (defScope s_Lwind) [] [] fad fd) : Binds K fd P_Lwind [] := F.bindsN fun _ _ _ _ _ _ us hl => match us, hl with | [_, _, _], _ => rfl
theorem fo_Lcaught (c_Lwind : C8.Cal P w K mg base 1 "_law_wind" (spOf (R_Lwind K C)) [])
    {fad : Addr} {fd : FuncData} (F : FunD K "_law_caught" "_law_caught" (defArgs s_Lcaught) (defBody s_Lcaught) (defScope s_Lcaught) [] [] fad fd) : FnOk P w K mg base CX0 2 fad fd P_Lcaught (spOf (R_Lcaught K C)) :=
  F.ok sc_Lcaught (fun vs H Q E h => by obtain ⟨_, ⟨_, _, _, _, _, _, _, e, _⟩, _⟩ := h; rw [e]; rfl) fun cdv A outer s H vs Q E hr h => by
    obtain ⟨P1, h1, h2⟩ := h
    exact ⟨t_Lcaught K C, PSs.nox (b_Lcaught c_Lwind hr), p_Lcaught vs H P1 Q h1 h2⟩
theorem bi_Lcaught {fad : Addr} {fd : FuncData} (F : FunD K "_law_caught" "_law_caught" (defArgs s_Lcaught) (defBody s_Lcaught) (defScope s_Lcaught) [] [] fad fd) : Binds K fd P_Lcaught [] := F.bindsN fun _ _ _ _ _ _ us hl => match us, hl with | [_, _, _, _, _], _ => rfl
theorem fo_Lfire (f_min : mg "min" = none)
    (f_len : mg "len" = none)
    (f_range : mg "range" = none)
    (c_Lcaught : C8.Cal P w K mg base 2 "_law_caught" (spOf (R_Lcaught K C)) [])
    {fad : Addr} {fd : FuncData} (F : FunD K "_law_fire" "_law_fire" (defArgs s_Lfire) (defBody s_Lfire) (defScope s_Lfire) [] [] fad fd) : FnOk P w K mg base CX0 3 fad fd P_Lfire (spOf (R_Lfire K C)) :=
  F.ok sc_Lfire (fun vs H Q E h => by obtain ⟨_, ⟨_, _, _, _, _, _, _, _, e, _⟩, _⟩ := h; rw [e]; rfl) fun cdv A outer s H vs Q E hr h => by
    obtain ⟨P1, h1, h2⟩ := h
    exact ⟨t_Lfire K C, PSs.nox (b_Lfire f_min f_len f_range c_Lcaught hr), p_Lfire vs H P1 Q h1 h2⟩
theorem bi_Lfire {fad : Addr} {fd : FuncData} (F : FunD K "_law_fire" "_law_fire" (defArgs s_Lfire) (defBody s_Lfire) (defScope s_Lfire) [] [] fad fd) : Binds K fd P_Lfire [] := F.bindsN fun _ _ _ _ _ _ us hl => match us, hl with | [_, _, _, _, _], _ => rfl
theorem fo_Lrows (f_range : mg "range" = none)
    (f_int : mg "int" = none)
    (f_len : mg "len" = none)
    {fad : Addr} {fd : FuncData} (F : FunD K "_law_rows" "_law_rows" (defArgs s_Lrows) (defBody s_Lrows) (defScope s_Lrows) [] [] fad fd) : FnOk P w K mg base CX0 1 fad fd P_Lrows (spOf (R_Lrows K C)) :=
  F.ok sc_Lrows (fun vs H Q E h => by obtain ⟨_, ⟨_, _, _, _, _, _, _, e, _⟩, _⟩ := h; rw [e]; rfl) fun cdv A outer s H vs Q E hr h => by
    obtain ⟨P1, h1, h2⟩ := h
    exact ⟨t_Lrows K C, PSs.nox (b_Lrows f_range f_int f_len hr), p_Lrows vs H P1 Q h1 h2⟩
theorem bi_Lrows {fad : Addr} {fd : FuncData} (F : FunD K "_law_rows" "_law_rows" (defArgs s_Lrows) (defBody s_Lrows) (defScope s_Lrows) [] [] fad fd) : Binds K fd P_Lrows [] := F.bindsN fun _ _ _ _ _ _ us hl => match us, hl with | [_, _, _, _, _], _ => rfl
theorem fo_Lland (f_list : mg "list" = none)
    (mL : MakeL P w K mg base 4 C (sp_init K C))
    {fad : Addr} {fd : FuncData} (F : FunD K "_law_land" "_law_land" (defArgs s_Lland) (defBody s_Lland) (defScope s_Lland) [] [] fad fd) : FnOk P w K mg base CX0 6 fad fd P_Lland (spOf (R_Lland K C)) :=
  F.ok sc_Lland (fun vs H Q E h => by obtain ⟨_, ⟨_, _, e, _⟩, _⟩ := h; rw [e]; rfl) fun cdv A outer s H vs Q E hr h => by
    obtain ⟨P1, h1, h2⟩ := h
    exact ⟨t_Lland K C, PSs.nox (b_Lland f_list mL hr), p_Lland vs H P1 Q h1 h2⟩
theorem bi_Lland {fad : Addr} {fd : FuncData} (F : FunD K "_law_land" "_law_land" (defArgs s_Lland) (defBody s_Lland) (defScope s_Lland) [] [] fad fd) : Binds K fd P_Lland [] := F.bindsN fun _ _ _ _ _ _ us hl => match us, hl with | [_], _ => rfl
theorem fo_Lcase (f_len : mg "len" = none)
    (c_Lparts : C8.Cal P w K mg base 2 "_law_parts" (spOf (R_Lparts K C)) [])
    (c_Lweather : C8.Cal P w K mg base 1 "_law_weather" (spOf (R_Lweather K C)) [])
    (c_Lpick : C8.Cal P w K mg base 1 "_law_pick" (spOf (R_Lpick K C)) [])
    (c_Lrows : C8.Cal P w K mg base 1 "_law_rows" (spOf (R_Lrows K C)) [])
    {fad : Addr} {fd : FuncData} (F : FunD K "_law_case" "_law_case" (defArgs s_Lcase) (defBody s_Lcase) (defScope s_Lcase) [] [] fad fd) : FnOk P w K mg base CX0 3 fad fd P_Lcase (spOf (R_Lcase K C)) :=
  F.ok sc_Lcase (fun vs H Q E h => by obtain ⟨_, ⟨_, _, e, _⟩, _⟩ := h; rw [e]; rfl) fun cdv A outer s H vs Q E hr h => by
    obtain ⟨P1, h1, h2⟩ := h
    exact ⟨t_Lcase K C, PSs.nox (b_Lcase f_len c_Lparts c_Lweather c_Lpick c_Lrows hr), p_Lcase vs H P1 Q h1 h2⟩
theorem bi_Lcase {fad : Addr} {fd : FuncData} (F : FunD K "_law_case" "_law_case" (defArgs s_Lcase) (defBody s_Lcase) (defScope s_Lcase) [] [] fad fd) : Binds K fd P_Lcase [] := F.bindsN fun _ _ _ _ _ _ us hl => match us, hl with | [_], _ => rfl
theorem fo_Lnumbers_of (f_len : mg "len" = none)
    (f_range : mg "range" = none)
    (f_tuple : mg "tuple" = none)
    (c_Lpick : C8.Cal P w K mg base 1 "_law_pick" (spOf (R_Lpick K C)) [])
    {fad : Addr} {fd : FuncData} (F : FunD K "_law_numbers_of" "_law_numbers_of" (defArgs s_Lnumbers_of) (defBody s_Lnumbers_of) (defScope s_Lnumbers_of) [] [] fad fd) : FnOk P w K mg base CX0 2 fad fd P_Lnumbers_of (spOf (R_Lnumbers_of K C)) :=
  F.ok sc_Lnumbers_of (fun vs H Q E h => by obtain ⟨_, ⟨_, _, _, _, e, _⟩, _⟩ := h; rw [e]; rfl) fun cdv A outer s H vs Q E hr h => by
    obtain ⟨P1, h1, h2⟩ := h
    exact ⟨t_Lnumbers_of K C, PSs.nox (b_Lnumbers_of f_len f_range f_tuple c_Lpick hr), p_Lnumbers_of vs H P1 Q h1 h2⟩
theorem bi_Lnumbers_of {fad : Addr} {fd : FuncData} (F : FunD K "_law_numbers_of" "_law_numbers_of" (defArgs s_Lnumbers_of) (defBody s_Lnumbers_of) (defScope s_Lnumbers_of) [] [] fad fd) : Binds K fd P_Lnumbers_of [] := F.bindsN fun _ _ _ _ _ _ us hl => match us, hl with | [_, _, _], _ => rfl
theorem fo_Lwalks 
    {fad : Addr} {fd : FuncData} (F : FunD K "_law_walks" "_law_walks" (defArgs s_Lwalks) (defBody s_Lwalks) (defScope s_Lwalks) [] [] fad fd) : FnOk P w K mg base CX0 1 fad fd P_Lwalks (spOf (R_Lwalks K C)) :=
  F.ok sc_Lwalks (fun vs H Q E h => by obtain ⟨_, ⟨_, _, _, e, _⟩, _⟩ := h; rw [e]; rfl) fun cdv A outer s H vs Q E hr h => by
    obtain ⟨P1, h1, h2⟩ := h
    exact ⟨t_Lwalks K C, PSs.nox (b_Lwalks  hr), p_Lwalks vs H P1 Q h1 h2⟩
theorem bi_Lwalks {fad : Addr} {fd : FuncData} (F : FunD K "_law_walks" "_law_walks" (defArgs s_Lwalks) (defBody s_Lwalks) (defScope s_Lwalks) [] [] fad fd) : Binds K fd P_Lwalks [] := F.bindsN fun _ _ _ _ _ _ us hl => match us, hl with | [_, _], _ => rfl
theorem fo_Lis_safe (f_len : mg "len" = none)
    (f_range : mg "range" = none)
    (c_Lwalks : C8.Cal P w K mg base 1 "_law_walks" (spOf (R_Lwalks K C)) [])
    {fad : Addr} {fd : FuncData} (F : FunD K "_law_is_safe" "_law_is_safe" (defArgs s_Lis_safe) (defBody s_Lis_safe) (defScope s_Lis_safe) [] [] fad fd) : FnOk P w K mg base CX0 2 fad fd P_Lis_safe (spOf (R_Lis_safe K C)) :=
  F.ok sc_Lis_safe (fun vs H Q E h => by obtain ⟨_, ⟨_, _, _, _, _, _, e, _⟩, _⟩ := h; rw [e]; rfl) fun cdv A outer s H vs Q E hr h => by
    obtain ⟨P1, h1, h2⟩ := h
    exact ⟨t_Lis_safe K C, PSs.nox (b_Lis_safe f_len f_range c_Lwalks hr), p_Lis_safe vs H P1 Q h1 h2⟩
theorem bi_Lis_safe {fad : Addr} {fd : FuncData} (F : FunD K "_law_is_safe" "_law_is_safe" (defArgs s_Lis_safe) (defBody s_Lis_safe) (defScope s_Lis_safe) [] [] fad fd) : Binds K fd P_Lis_safe [] := F.bindsN fun _ _ _ _ _ _ us hl => match us, hl with | [_, _, _], _ => rfl
theorem fo_Ldrawn_walk (f_len : mg "len" = none)
    (f_range : mg "range" = none)
    (c_Lpick : C8.Cal P w K mg base 1 "_law_pick" (spOf (R_Lpick K C)) [])
    (c_Lwalks : C8.Cal P w K mg base 1 "_law_walks" (spOf (R_Lwalks K C)) [])
    {fad : Addr} {fd : FuncData} (F : FunD K "_law_drawn_walk" "_law_drawn_walk" (defArgs s_Ldrawn_walk) (defBody s_Ldrawn_walk) (defScope s_Ldrawn_walk) [] [] fad fd) : FnOk P w K mg base CX0 2 fad fd P_Ldrawn_walk (spOf (R_Ldrawn_walk K C)) :=
  F.ok sc_Ldrawn_walk (fun vs H Q E h => by obtain ⟨_, ⟨_, _, _, _, e, _⟩, _⟩ := h; rw [e]; rfl) fun cdv A outer s H vs Q E hr h => by
    obtain ⟨P1, h1, h2⟩ := h
    exact ⟨t_Ldrawn_walk K C, PSs.nox (b_Ldrawn_walk f_len f_range c_Lpick c_Lwalks hr), p_Ldrawn_walk vs H P1 Q h1 h2⟩
theorem bi_Ldrawn_walk {fad : Addr} {fd : FuncData} (F : FunD K "_law_drawn_walk" "_law_drawn_walk" (defArgs s_Ldrawn_walk) (defBody s_Ldrawn_walk) (defScope s_Ldrawn_walk) [] [] fad fd) : Binds K fd P_Ldrawn_walk [] := F.bindsN fun _ _ _ _ _ _ us hl => match us, hl with | [_, _, _], _ => rfl
theorem fo_law (f_len : mg "len" = none)
    (c_Lnumbers : C8.Cal P w K mg base 2 "_law_numbers" (spOf (R_Lnumbers K C)) [])
    (c_Lcase : C8.Cal P w K mg base 3 "_law_case" (spOf (R_Lcase K C)) [])
    (c_Lland : C8.Cal P w K mg base 6 "_law_land" (spOf (R_Lland K C)) [])
    (c_Lnumbers_of : C8.Cal P w K mg base 2 "_law_numbers_of" (spOf (R_Lnumbers_of K C)) [])
    (c_Lfire : C8.Cal P w K mg base 3 "_law_fire" (spOf (R_Lfire K C)) [])
    (c_Lpick : C8.Cal P w K mg base 1 "_law_pick" (spOf (R_Lpick K C)) [])
    (c_safe_walk : C8.Cal P w K mg base 4 "safe_walk" (spOf (R_safe_walk K C)) [])
    (c_Lis_safe : C8.Cal P w K mg base 2 "_law_is_safe" (spOf (R_Lis_safe K C)) [])
    (c_Ldrawn_walk : C8.Cal P w K mg base 2 "_law_drawn_walk" (spOf (R_Ldrawn_walk K C)) [])
    (c_is_safe_walk : C8.Cal P w K mg base 4 "is_safe_walk" (spOf (R_is_safe_walk K C)) [])
    (c_refuges : C8.Cal P w K mg base 5 "refuges" (spOf (R_refuges K C)) [])
    {fad : Addr} {fd : FuncData} (F : FunD K "law" "law" (defArgs s_law) (defBody s_law) (defScope s_law) [] [] fad fd) : FnOk P w K mg base CX0 7 fad fd P_law (spOf (R_law K C)) :=
  F.ok sc_law (fun vs H Q E h => by obtain ⟨_, ⟨_, _, e, _⟩, _⟩ := h; rw [e]; rfl) fun cdv A outer s H vs Q E hr h => by
    obtain ⟨P1, h1, h2⟩ := h
    exact ⟨t_law K C, PSs.nox (b_law f_len c_Lnumbers c_Lcase c_Lland c_Lnumbers_of c_Lfire c_Lpick c_safe_walk c_Lis_safe c_Ldrawn_walk c_is_safe_walk c_refuges hr), p_law vs H P1 Q h1 h2⟩
theorem bi_law {fad : Addr} {fd : FuncData} (F : FunD K "law" "law" (defArgs s_law) (defBody s_law) (defScope s_law) [] [] fad fd) : Binds K fd P_law [] := F.bindsN fun _ _ _ _ _ _ us hl => match us, hl with | [_], _ => rfl
end
end Ef
/-! ==== EfHead -/
set_option Elab.async false
set_option linter.all false
set_option maxRecDepth 100000
set_option maxHeartbeats 0
/-! The head: the top's run in the kernel, its facts by names. Printed by genhead.py. -/
namespace Ef
open PySem PySem.Spec PyProof.Rows L2
abbrev R : PySem.W.OpenRow := PySem.W.OpenLaw.row PySem.Challenge.rw_everyfire_k78_whole_refuges
/-- the property's object and its getter -/
def propAt (K : PySem.W.Frag) : Addr := He.ma K (He.ga K "Land") "link_names"
def getAt (K : PySem.W.Frag) : Addr := match PySem.W.recIn K (propAt K) "property" with
  | some (.ref g :: _) => g
  | _ => 0
def propB (K : PySem.W.Frag) : Bool :=
  He.eqO (PySem.W.findIn K (.ref (He.ga K "Land")) "link_names") (some (some (.ref (propAt K)))) &&
  (He.eqO (PySem.W.specialIn K (.ref (propAt K)) "__get__") (some (some (.builtin "property.__get__"))) &&
  (decide (PySem.W.takesIn K (.ref (propAt K)) = some true) && (match PySem.W.recIn K (propAt K) "property" with
    | some (.ref _ :: _) => true
    | _ => false)))
theorem propB_ok {K : PySem.W.Frag} (h : propB K = true) : PropOf K (He.ga K "Land") "link_names" (propAt K) (getAt K) := by
  obtain ⟨h1, h⟩ := He.ba h
  obtain ⟨h2, h⟩ := He.ba h
  obtain ⟨h3, h4⟩ := He.ba h
  refine ⟨He.eqO_ok h1, He.eqO_ok h2, of_decide_eq_true h3, ?_⟩
  unfold getAt
  cases q : PySem.W.recIn K (propAt K) "property" with
  | none => rw [q] at h4; cases h4
  | some l =>
    rw [q] at h4
    cases l with
    | nil => cases h4
    | cons v r => cases v <;> first | exact ⟨r, rfl⟩ | cases h4
/-- the getter as a def: its object by the property's record -/
def getB (K : PySem.W.Frag) : Bool := match K.lookup (getAt K) with
  | some ⟨_, _, .func fd, _⟩ => PySem.W.codeIn K fd.code "Land.link_names" && (match fd.defaults with
    | .none => true
    | _ => false)
  | _ => false
def getW (K : PySem.W.Frag) : He.FnW := match K.lookup (getAt K) with
  | some ⟨_, _, .func fd, _⟩ => some (fd.name, fd.qualname, fd.params, fd.body, fd.scope, fd.globals, fd.closure, fd.builtins)
  | _ => none
def getV : He.FnW := some ("link_names", "Land.link_names", defArgs s_link_names, .stmts (defBody s_link_names), defScope s_link_names, mainGlobals, [], builtinsNs)
theorem get_funD {K : PySem.W.Frag} (e : getW K = getV) (c : getB K = true) (kp : PySem.W.keepIn K (.ref (getAt K)) = true) : ∃ fd, FunD K "link_names" "Land.link_names" (defArgs s_link_names) (defBody s_link_names) (defScope s_link_names) [] [] (getAt K) fd := by
  unfold getB at c
  unfold getW at e
  cases q : K.lookup (getAt K) with
  | none => rw [q] at c; cases c
  | some o =>
    obtain ⟨oc, od, dt, osl⟩ := o
    rw [q] at c e
    cases dt with
    | func fd =>
      obtain ⟨n1, n2, n3, n4, n5, n6, n7, n8, n9, n10, n11, n12, n13, n14, n15⟩ := fd
      have e2 : (some (n1, n2, n3, n4, n5, n6, n7, n15) : He.FnW) = (some ("link_names", "Land.link_names", defArgs s_link_names, .stmts (defBody s_link_names), defScope s_link_names, mainGlobals, [], builtinsNs) : He.FnW) := e
      simp only [Option.some.injEq, Prod.mk.injEq] at e2
      obtain ⟨h1, h2, h3, h4, h5, h6, h7, h8⟩ := e2
      subst h1 h2 h3 h4 h5 h6 h7 h8
      obtain ⟨k1, k2⟩ := He.ba c
      have k3 : n8 = Value.none := by
        cases n8 <;> first | rfl | cases k2
      subst k3
      exact ⟨_, ⟨oc, od, .none, n9, n10, n11, n12, n13, n14, osl, rfl, q, k1, .inl ⟨rfl, rfl⟩, .inl rfl⟩, kp⟩
    | _ => cases c
/-- a keyword default of __init__ -/
def kwAt (x : Str) (K : PySem.W.Frag) : Addr := match K.lookup (He.fAd K ("Land", some "__init__")) with
  | some ⟨_, _, .func fd, _⟩ => (match fd.kwdefaults with
    | .ref D => (match PySem.W.nsIn K D x with
      | some (some (.ref a)) => a
      | _ => 0)
    | _ => 0)
  | _ => 0
def d_check_winds : He.DefD := ⟨("check_winds", none), "check_winds", "check_winds", defArgs s_check_winds, defBody s_check_winds, defScope s_check_winds, [], []⟩
def d_check_changes : He.DefD := ⟨("check_changes", none), "check_changes", "check_changes", defArgs s_check_changes, defBody s_check_changes, defScope s_check_changes, [], []⟩
def d_blowing : He.DefD := ⟨("blowing", none), "blowing", "blowing", defArgs s_blowing, defBody s_blowing, defScope s_blowing, [], []⟩
def d_chances : He.DefD := ⟨("chances", none), "chances", "chances", defArgs s_chances, defBody s_chances, defScope s_chances, [], []⟩
def d_least_numbers : He.DefD := ⟨("least_numbers", none), "least_numbers", "least_numbers", defArgs s_least_numbers, defBody s_least_numbers, defScope s_least_numbers, [], []⟩
def d_check_rows : He.DefD := ⟨("check_rows", none), "check_rows", "check_rows", defArgs s_check_rows, defBody s_check_rows, defScope s_check_rows, [], []⟩
def d_least_minutes : He.DefD := ⟨("least_minutes", none), "least_minutes", "least_minutes", defArgs s_least_minutes, defBody s_least_minutes, defScope s_least_minutes, [], []⟩
def d_caught : He.DefD := ⟨("caught", none), "caught", "caught", defArgs s_caught, defBody s_caught, defScope s_caught, [], []⟩
def d_spread : He.DefD := ⟨("spread", none), "spread", "spread", defArgs s_spread, defBody s_spread, defScope s_spread, [], []⟩
def d_check_asked : He.DefD := ⟨("check_asked", none), "check_asked", "check_asked", defArgs s_check_asked, defBody s_check_asked, defScope s_check_asked, [], []⟩
def d_first_arrivals : He.DefD := ⟨("first_arrivals", none), "first_arrivals", "first_arrivals", defArgs s_first_arrivals, defBody s_first_arrivals, defScope s_first_arrivals, [], []⟩
def d_safe_walk : He.DefD := ⟨("safe_walk", none), "safe_walk", "safe_walk", defArgs s_safe_walk, defBody s_safe_walk, defScope s_safe_walk, [], []⟩
def d_is_safe_walk : He.DefD := ⟨("is_safe_walk", none), "is_safe_walk", "is_safe_walk", defArgs s_is_safe_walk, defBody s_is_safe_walk, defScope s_is_safe_walk, [], []⟩
def d_refuges : He.DefD := ⟨("refuges", none), "refuges", "refuges", defArgs s_refuges, defBody s_refuges, defScope s_refuges, [], []⟩
def d_is_name : He.DefD := ⟨("is_name", none), "is_name", "is_name", defArgs s_is_name, defBody s_is_name, defScope s_is_name, [], []⟩
def d_are_different : He.DefD := ⟨("are_different", none), "are_different", "are_different", defArgs s_are_different, defBody s_are_different, defScope s_are_different, [], []⟩
def d_require : He.DefD := ⟨("require", none), "require", "require", defArgs s_require, defBody s_require, defScope s_require, [], []⟩
def d_checked_times : He.DefD := ⟨("checked_times", none), "checked_times", "checked_times", defArgs s_checked_times, defBody s_checked_times, defScope s_checked_times, [], []⟩
def d_init : He.DefD := ⟨("Land", some "__init__"), "__init__", "Land.__init__", defArgs s_init, defBody s_init, defScope s_init, [], [("links", .adr (kwAt "links")), ("paths", .adr (kwAt "paths"))]⟩
def d_are_ends : He.DefD := ⟨("Land", some "are_ends"), "are_ends", "Land.are_ends", defArgs s_are_ends, defBody s_are_ends, defScope s_are_ends, [], []⟩
def d_checked_link : He.DefD := ⟨("Land", some "checked_link"), "checked_link", "Land.checked_link", defArgs s_checked_link, defBody s_checked_link, defScope s_checked_link, [], []⟩
def d_checked_path : He.DefD := ⟨("Land", some "checked_path"), "checked_path", "Land.checked_path", defArgs s_checked_path, defBody s_checked_path, defScope s_checked_path, [], []⟩
def d_check_place : He.DefD := ⟨("Land", some "check_place"), "check_place", "Land.check_place", defArgs s_check_place, defBody s_check_place, defScope s_check_place, [], []⟩
def d_check_wind : He.DefD := ⟨("Land", some "check_wind"), "check_wind", "Land.check_wind", defArgs s_check_wind, defBody s_check_wind, defScope s_check_wind, [], []⟩
def d_walks_from : He.DefD := ⟨("Land", some "walks_from"), "walks_from", "Land.walks_from", defArgs s_walks_from, defBody s_walks_from, defScope s_walks_from, [], []⟩
def d_minutes_between : He.DefD := ⟨("Land", some "minutes_between"), "minutes_between", "Land.minutes_between", defArgs s_minutes_between, defBody s_minutes_between, defScope s_minutes_between, [], []⟩
def d_Lrow : He.DefD := ⟨("_law_row", none), "_law_row", "_law_row", defArgs s_Lrow, defBody s_Lrow, defScope s_Lrow, [], []⟩
def d_Lnumbers : He.DefD := ⟨("_law_numbers", none), "_law_numbers", "_law_numbers", defArgs s_Lnumbers, defBody s_Lnumbers, defScope s_Lnumbers, [], []⟩
def d_Lpick : He.DefD := ⟨("_law_pick", none), "_law_pick", "_law_pick", defArgs s_Lpick, defBody s_Lpick, defScope s_Lpick, [], []⟩
def d_Lnames : He.DefD := ⟨("_law_names", none), "_law_names", "_law_names", defArgs s_Lnames, defBody s_Lnames, defScope s_Lnames, [], []⟩
def d_Lparts : He.DefD := ⟨("_law_parts", none), "_law_parts", "_law_parts", defArgs s_Lparts, defBody s_Lparts, defScope s_Lparts, [], []⟩
def d_Lweather : He.DefD := ⟨("_law_weather", none), "_law_weather", "_law_weather", defArgs s_Lweather, defBody s_Lweather, defScope s_Lweather, [], []⟩
def d_Lwind : He.DefD := ⟨("_law_wind", none), "_law_wind", "_law_wind", defArgs s_Lwind, defBody s_Lwind, defScope s_Lwind, [], []⟩
def d_Lcaught : He.DefD := ⟨("_law_caught", none), "_law_caught", "_law_caught", defArgs s_Lcaught, defBody s_Lcaught, defScope s_Lcaught, [], []⟩
def d_Lfire : He.DefD := ⟨("_law_fire", none), "_law_fire", "_law_fire", defArgs s_Lfire, defBody s_Lfire, defScope s_Lfire, [], []⟩
def d_Lrows : He.DefD := ⟨("_law_rows", none), "_law_rows", "_law_rows", defArgs s_Lrows, defBody s_Lrows, defScope s_Lrows, [], []⟩
def d_Lland : He.DefD := ⟨("_law_land", none), "_law_land", "_law_land", defArgs s_Lland, defBody s_Lland, defScope s_Lland, [], []⟩
def d_Lcase : He.DefD := ⟨("_law_case", none), "_law_case", "_law_case", defArgs s_Lcase, defBody s_Lcase, defScope s_Lcase, [], []⟩
def d_Lnumbers_of : He.DefD := ⟨("_law_numbers_of", none), "_law_numbers_of", "_law_numbers_of", defArgs s_Lnumbers_of, defBody s_Lnumbers_of, defScope s_Lnumbers_of, [], []⟩
def d_Lwalks : He.DefD := ⟨("_law_walks", none), "_law_walks", "_law_walks", defArgs s_Lwalks, defBody s_Lwalks, defScope s_Lwalks, [], []⟩
def d_Lis_safe : He.DefD := ⟨("_law_is_safe", none), "_law_is_safe", "_law_is_safe", defArgs s_Lis_safe, defBody s_Lis_safe, defScope s_Lis_safe, [], []⟩
def d_Ldrawn_walk : He.DefD := ⟨("_law_drawn_walk", none), "_law_drawn_walk", "_law_drawn_walk", defArgs s_Ldrawn_walk, defBody s_Ldrawn_walk, defScope s_Ldrawn_walk, [], []⟩
def d_law : He.DefD := ⟨("law", none), "law", "law", defArgs s_law, defBody s_law, defScope s_law, [], []⟩
def fn : List He.DefD := [d_check_winds, d_check_changes, d_blowing, d_chances, d_least_numbers, d_check_rows, d_least_minutes, d_caught, d_spread, d_check_asked, d_first_arrivals, d_safe_walk, d_is_safe_walk, d_refuges, d_is_name, d_are_different, d_require, d_checked_times, d_init, d_are_ends, d_checked_link, d_checked_path, d_check_place, d_check_wind, d_walks_from, d_minutes_between, d_Lrow, d_Lnumbers, d_Lpick, d_Lnames, d_Lparts, d_Lweather, d_Lwind, d_Lcaught, d_Lfire, d_Lrows, d_Lland, d_Lcase, d_Lnumbers_of, d_Lwalks, d_Lis_safe, d_Ldrawn_walk, d_law]
def fa : List He.Fa := [.free "len", .free "int", .free "abs", .free "range", .free "max", .free "min", .free "tuple", .free "list", .free "sorted", .free "all", .free "any", .free "zip", .free "enumerate", .int "MOST_CHANGES" 40, .int "MOST_MINUTE" 100000, .int "MOST_NAME_CHARS" 12, .int "MOST_WINDS" 4, .int "MOST_PLACES" 24, .int "MOST_LINKS" 60, .int "MOST_PATHS" 60, .int "MOST_MINUTES" 1000, .str "NAME_CHARS" "abcdefghijklmnopqrstuvwxyz0123456789", .glo "Land", .cls "Land", .mkr "Land", .noat "Land" "winds", .noat "Land" "places", .noat "Land" "links", .noat "Land" "paths", .meth "Land" "are_ends", .meth "Land" "checked_link", .meth "Land" "checked_path", .meth "Land" "check_place", .meth "Land" "check_wind", .meth "Land" "walks_from", .meth "Land" "minutes_between", .glo "check_winds", .glo "check_changes", .glo "blowing", .glo "chances", .glo "least_numbers", .glo "check_rows", .glo "least_minutes", .glo "caught", .glo "spread", .glo "check_asked", .glo "first_arrivals", .glo "safe_walk", .glo "is_safe_walk", .glo "refuges", .glo "is_name", .glo "are_different", .glo "require", .glo "checked_times", .glo "_law_row", .glo "_law_numbers", .glo "_law_pick", .glo "_law_names", .glo "_law_parts", .glo "_law_weather", .glo "_law_wind", .glo "_law_caught", .glo "_law_fire", .glo "_law_rows", .glo "_law_land", .glo "_law_case", .glo "_law_numbers_of", .glo "_law_walks", .glo "_law_is_safe", .glo "_law_drawn_walk", .glo "law"]
def names0 : List Str := ["_wall", "EveryfireError", "InvalidLand", "UnknownName", "InvalidWeather", "InvalidQuestion", "MOST_CHANGES", "MOST_MINUTE", "check_winds", "check_changes", "blowing", "chances", "least_numbers", "check_rows", "least_minutes", "caught", "spread", "check_asked", "first_arrivals", "safe_walk", "is_safe_walk", "refuges", "NAME_CHARS", "MOST_NAME_CHARS", "MOST_WINDS", "MOST_PLACES", "MOST_LINKS", "MOST_PATHS", "MOST_MINUTES", "is_name"]
def names1 : List Str := ["are_different", "require", "checked_times", "Land", "_law_row", "_law_numbers", "_law_pick", "_law_names", "_law_parts", "_law_weather", "_law_wind", "_law_caught", "_law_fire", "_law_rows", "_law_land", "_law_case", "_law_numbers_of", "_law_walks", "_law_is_safe", "_law_drawn_walk"]
def names : List Str := names0 ++ names1
/-- all that is looked at behind the top -/
abbrev Al : Type := He.AlD × Bool × He.FnW
def obsK (K : PySem.W.Frag) : Al := (He.obsD fa fn K, propB K && (getB K && PySem.W.keepIn K (.ref (getAt K))), getW K)
def valK : Al := (He.valD fn, true, getV)
def Says (K : PySem.W.Frag) : Prop := obsK K = valK
abbrev hk : PySem.W.Hook where
  α := Al
  obs := fun s => obsK (He.frG s.heap.get? (He.asD s.heap.get? 5))
  val := fun _ => valK
  says := fun _ h => ∃ K : PySem.W.Frag, K.In h ∧ Says K
  of := fun _ _ e => ⟨_, He.frG_in, e⟩
  keeps := fun _ _ _ ⟨K, hK, c⟩ k => ⟨K, PySem.W.Frag.In.keeps hK k, c⟩
def ob (s : PySem.W.SharedT) : Al := obsK (He.frG (HandSHeadRun.getT s) (He.asD (HandSHeadRun.getT s) 5))
theorem ob_eq (s : PySem.W.SharedT) : ob s = hk.obs s.abs := by
  have e : HandSHeadRun.getT s = s.abs.heap.get? := funext (HandSHeadRun.getT_eq s)
  show obsK _ = obsK _
  rw [e]
theorem run (w : World) : HandSHeadRun.RunEq R (PySem.W.view R.prog [57]) hk ob 20000 names w := by
  intro os
  kernel_rfl
end Ef
/-! ==== EfEnd -/
set_option Elab.async false
set_option linter.all false
set_option maxRecDepth 100000
set_option maxHeartbeats 0
/-! The facts, the end. Printed by gencal.py. -/
namespace Ef
open PySem PySem.Spec PyProof.Rows L2
theorem facts {P : Program} {w : World} {K : PySem.W.Frag} {h : Heap} {mg : Str → Option Value} {f : Addr} (X : K.In h) (G : h.Ns mainGlobals mg) (hfa : mg ("law" : Str) = some (.ref f)) (c0 : Says K) :
    ∃ fd : FuncData, (∀ (s : Shared) (v : Value), BindsTo s fd ⟨[v], []⟩ [("_law_script", v)]) ∧ ∀ base : Heap, K.In base → base.Ns mainGlobals mg → FnOk P w K mg base CX0 7 f fd ["_law_script"] (spOf (R_law K (He.ga K "Land"))) := by
  have c : He.SaysD fa fn K := congrArg (fun z : Al => z.1) c0
  have c1 : (propB K && (getB K && PySem.W.keepIn K (.ref (getAt K)))) = true := congrArg (fun z : Al => z.2.1) c0
  have c2 : getW K = getV := congrArg (fun z : Al => z.2.2) c0
  obtain ⟨b1, b2⟩ := He.ba c1
  obtain ⟨b2, b3⟩ := He.ba b2
  have hprop := propB_ok b1
  obtain ⟨fd_link_names, F_link_names⟩ := get_funD c2 b2 b3
  obtain ⟨fd_check_winds, F_check_winds⟩ := c.def_ 0 (d := d_check_winds) rfl
  obtain ⟨fd_check_changes, F_check_changes⟩ := c.def_ 1 (d := d_check_changes) rfl
  obtain ⟨fd_blowing, F_blowing⟩ := c.def_ 2 (d := d_blowing) rfl
  obtain ⟨fd_chances, F_chances⟩ := c.def_ 3 (d := d_chances) rfl
  obtain ⟨fd_least_numbers, F_least_numbers⟩ := c.def_ 4 (d := d_least_numbers) rfl
  obtain ⟨fd_check_rows, F_check_rows⟩ := c.def_ 5 (d := d_check_rows) rfl
  obtain ⟨fd_least_minutes, F_least_minutes⟩ := c.def_ 6 (d := d_least_minutes) rfl
  obtain ⟨fd_caught, F_caught⟩ := c.def_ 7 (d := d_caught) rfl
  obtain ⟨fd_spread, F_spread⟩ := c.def_ 8 (d := d_spread) rfl
  obtain ⟨fd_check_asked, F_check_asked⟩ := c.def_ 9 (d := d_check_asked) rfl
  obtain ⟨fd_first_arrivals, F_first_arrivals⟩ := c.def_ 10 (d := d_first_arrivals) rfl
  obtain ⟨fd_safe_walk, F_safe_walk⟩ := c.def_ 11 (d := d_safe_walk) rfl
  obtain ⟨fd_is_safe_walk, F_is_safe_walk⟩ := c.def_ 12 (d := d_is_safe_walk) rfl
  obtain ⟨fd_refuges, F_refuges⟩ := c.def_ 13 (d := d_refuges) rfl
  obtain ⟨fd_is_name, F_is_name⟩ := c.def_ 14 (d := d_is_name) rfl
  obtain ⟨fd_are_different, F_are_different⟩ := c.def_ 15 (d := d_are_different) rfl
  obtain ⟨fd_require, F_require⟩ := c.def_ 16 (d := d_require) rfl
  obtain ⟨fd_checked_times, F_checked_times⟩ := c.def_ 17 (d := d_checked_times) rfl
  obtain ⟨fd_init, F_init⟩ := c.def_ 18 (d := d_init) rfl
  obtain ⟨fd_are_ends, F_are_ends⟩ := c.def_ 19 (d := d_are_ends) rfl
  obtain ⟨fd_checked_link, F_checked_link⟩ := c.def_ 20 (d := d_checked_link) rfl
  obtain ⟨fd_checked_path, F_checked_path⟩ := c.def_ 21 (d := d_checked_path) rfl
  obtain ⟨fd_check_place, F_check_place⟩ := c.def_ 22 (d := d_check_place) rfl
  obtain ⟨fd_check_wind, F_check_wind⟩ := c.def_ 23 (d := d_check_wind) rfl
  obtain ⟨fd_walks_from, F_walks_from⟩ := c.def_ 24 (d := d_walks_from) rfl
  obtain ⟨fd_minutes_between, F_minutes_between⟩ := c.def_ 25 (d := d_minutes_between) rfl
  obtain ⟨fd_Lrow, F_Lrow⟩ := c.def_ 26 (d := d_Lrow) rfl
  obtain ⟨fd_Lnumbers, F_Lnumbers⟩ := c.def_ 27 (d := d_Lnumbers) rfl
  obtain ⟨fd_Lpick, F_Lpick⟩ := c.def_ 28 (d := d_Lpick) rfl
  obtain ⟨fd_Lnames, F_Lnames⟩ := c.def_ 29 (d := d_Lnames) rfl
  obtain ⟨fd_Lparts, F_Lparts⟩ := c.def_ 30 (d := d_Lparts) rfl
  obtain ⟨fd_Lweather, F_Lweather⟩ := c.def_ 31 (d := d_Lweather) rfl
  obtain ⟨fd_Lwind, F_Lwind⟩ := c.def_ 32 (d := d_Lwind) rfl
  obtain ⟨fd_Lcaught, F_Lcaught⟩ := c.def_ 33 (d := d_Lcaught) rfl
  obtain ⟨fd_Lfire, F_Lfire⟩ := c.def_ 34 (d := d_Lfire) rfl
  obtain ⟨fd_Lrows, F_Lrows⟩ := c.def_ 35 (d := d_Lrows) rfl
  obtain ⟨fd_Lland, F_Lland⟩ := c.def_ 36 (d := d_Lland) rfl
  obtain ⟨fd_Lcase, F_Lcase⟩ := c.def_ 37 (d := d_Lcase) rfl
  obtain ⟨fd_Lnumbers_of, F_Lnumbers_of⟩ := c.def_ 38 (d := d_Lnumbers_of) rfl
  obtain ⟨fd_Lwalks, F_Lwalks⟩ := c.def_ 39 (d := d_Lwalks) rfl
  obtain ⟨fd_Lis_safe, F_Lis_safe⟩ := c.def_ 40 (d := d_Lis_safe) rfl
  obtain ⟨fd_Ldrawn_walk, F_Ldrawn_walk⟩ := c.def_ 41 (d := d_Ldrawn_walk) rfl
  obtain ⟨fd_law, F_law⟩ := c.def_ 42 (d := d_law) rfl
  have f_len := He.free_ok X G (c.fact 0 (f := .free "len") rfl)
  have f_int := He.free_ok X G (c.fact 1 (f := .free "int") rfl)
  have f_abs := He.free_ok X G (c.fact 2 (f := .free "abs") rfl)
  have f_range := He.free_ok X G (c.fact 3 (f := .free "range") rfl)
  have f_max := He.free_ok X G (c.fact 4 (f := .free "max") rfl)
  have f_min := He.free_ok X G (c.fact 5 (f := .free "min") rfl)
  have f_tuple := He.free_ok X G (c.fact 6 (f := .free "tuple") rfl)
  have f_list := He.free_ok X G (c.fact 7 (f := .free "list") rfl)
  have f_sorted := He.free_ok X G (c.fact 8 (f := .free "sorted") rfl)
  have f_all := He.free_ok X G (c.fact 9 (f := .free "all") rfl)
  have f_any := He.free_ok X G (c.fact 10 (f := .free "any") rfl)
  have f_zip := He.free_ok X G (c.fact 11 (f := .free "zip") rfl)
  have f_enumerate := He.free_ok X G (c.fact 12 (f := .free "enumerate") rfl)
  obtain ⟨tk_MOST_CHANGES, k_MOST_CHANGES⟩ := He.int_ok X G (c.fact 13 (f := .int "MOST_CHANGES" 40) rfl)
  obtain ⟨tk_MOST_MINUTE, k_MOST_MINUTE⟩ := He.int_ok X G (c.fact 14 (f := .int "MOST_MINUTE" 100000) rfl)
  obtain ⟨tk_MOST_NAME_CHARS, k_MOST_NAME_CHARS⟩ := He.int_ok X G (c.fact 15 (f := .int "MOST_NAME_CHARS" 12) rfl)
  obtain ⟨tk_MOST_WINDS, k_MOST_WINDS⟩ := He.int_ok X G (c.fact 16 (f := .int "MOST_WINDS" 4) rfl)
  obtain ⟨tk_MOST_PLACES, k_MOST_PLACES⟩ := He.int_ok X G (c.fact 17 (f := .int "MOST_PLACES" 24) rfl)
  obtain ⟨tk_MOST_LINKS, k_MOST_LINKS⟩ := He.int_ok X G (c.fact 18 (f := .int "MOST_LINKS" 60) rfl)
  obtain ⟨tk_MOST_PATHS, k_MOST_PATHS⟩ := He.int_ok X G (c.fact 19 (f := .int "MOST_PATHS" 60) rfl)
  obtain ⟨tk_MOST_MINUTES, k_MOST_MINUTES⟩ := He.int_ok X G (c.fact 20 (f := .int "MOST_MINUTES" 1000) rfl)
  obtain ⟨tk_NAME_CHARS, k_NAME_CHARS⟩ := He.str_ok X G (c.fact 21 (f := .str "NAME_CHARS" "abcdefghijklmnopqrstuvwxyz0123456789") rfl)
  have g_Land := He.glo_ok X G (c.fact 22 (f := .glo "Land") rfl)
  have me_are_ends := He.meth_ok (c.fact 29 (f := .meth "Land" "are_ends") rfl)
  have me_checked_link := He.meth_ok (c.fact 30 (f := .meth "Land" "checked_link") rfl)
  have me_checked_path := He.meth_ok (c.fact 31 (f := .meth "Land" "checked_path") rfl)
  have me_check_place := He.meth_ok (c.fact 32 (f := .meth "Land" "check_place") rfl)
  have me_check_wind := He.meth_ok (c.fact 33 (f := .meth "Land" "check_wind") rfl)
  have me_walks_from := He.meth_ok (c.fact 34 (f := .meth "Land" "walks_from") rfl)
  have me_minutes_between := He.meth_ok (c.fact 35 (f := .meth "Land" "minutes_between") rfl)
  have g_check_winds := He.glo_ok X G (c.fact 36 (f := .glo "check_winds") rfl)
  have g_check_changes := He.glo_ok X G (c.fact 37 (f := .glo "check_changes") rfl)
  have g_blowing := He.glo_ok X G (c.fact 38 (f := .glo "blowing") rfl)
  have g_chances := He.glo_ok X G (c.fact 39 (f := .glo "chances") rfl)
  have g_least_numbers := He.glo_ok X G (c.fact 40 (f := .glo "least_numbers") rfl)
  have g_check_rows := He.glo_ok X G (c.fact 41 (f := .glo "check_rows") rfl)
  have g_least_minutes := He.glo_ok X G (c.fact 42 (f := .glo "least_minutes") rfl)
  have g_caught := He.glo_ok X G (c.fact 43 (f := .glo "caught") rfl)
  have g_spread := He.glo_ok X G (c.fact 44 (f := .glo "spread") rfl)
  have g_check_asked := He.glo_ok X G (c.fact 45 (f := .glo "check_asked") rfl)
  have g_first_arrivals := He.glo_ok X G (c.fact 46 (f := .glo "first_arrivals") rfl)
  have g_safe_walk := He.glo_ok X G (c.fact 47 (f := .glo "safe_walk") rfl)
  have g_is_safe_walk := He.glo_ok X G (c.fact 48 (f := .glo "is_safe_walk") rfl)
  have g_refuges := He.glo_ok X G (c.fact 49 (f := .glo "refuges") rfl)
  have g_is_name := He.glo_ok X G (c.fact 50 (f := .glo "is_name") rfl)
  have g_are_different := He.glo_ok X G (c.fact 51 (f := .glo "are_different") rfl)
  have g_require := He.glo_ok X G (c.fact 52 (f := .glo "require") rfl)
  have g_checked_times := He.glo_ok X G (c.fact 53 (f := .glo "checked_times") rfl)
  have g__law_row := He.glo_ok X G (c.fact 54 (f := .glo "_law_row") rfl)
  have g__law_numbers := He.glo_ok X G (c.fact 55 (f := .glo "_law_numbers") rfl)
  have g__law_pick := He.glo_ok X G (c.fact 56 (f := .glo "_law_pick") rfl)
  have g__law_names := He.glo_ok X G (c.fact 57 (f := .glo "_law_names") rfl)
  have g__law_parts := He.glo_ok X G (c.fact 58 (f := .glo "_law_parts") rfl)
  have g__law_weather := He.glo_ok X G (c.fact 59 (f := .glo "_law_weather") rfl)
  have g__law_wind := He.glo_ok X G (c.fact 60 (f := .glo "_law_wind") rfl)
  have g__law_caught := He.glo_ok X G (c.fact 61 (f := .glo "_law_caught") rfl)
  have g__law_fire := He.glo_ok X G (c.fact 62 (f := .glo "_law_fire") rfl)
  have g__law_rows := He.glo_ok X G (c.fact 63 (f := .glo "_law_rows") rfl)
  have g__law_land := He.glo_ok X G (c.fact 64 (f := .glo "_law_land") rfl)
  have g__law_case := He.glo_ok X G (c.fact 65 (f := .glo "_law_case") rfl)
  have g__law_numbers_of := He.glo_ok X G (c.fact 66 (f := .glo "_law_numbers_of") rfl)
  have g__law_walks := He.glo_ok X G (c.fact 67 (f := .glo "_law_walks") rfl)
  have g__law_is_safe := He.glo_ok X G (c.fact 68 (f := .glo "_law_is_safe") rfl)
  have g__law_drawn_walk := He.glo_ok X G (c.fact 69 (f := .glo "_law_drawn_walk") rfl)
  have g_law := He.glo_ok X G (c.fact 70 (f := .glo "law") rfl)
  have T : LTx K (He.ga K "Land") := ⟨He.cls_ok (c.fact 23 (f := .cls "Land") rfl), He.noat_ok (c.fact 25 (f := .noat "Land" "winds") rfl), He.noat_ok (c.fact 26 (f := .noat "Land" "places") rfl), He.noat_ok (c.fact 27 (f := .noat "Land" "links") rfl), He.noat_ok (c.fact 28 (f := .noat "Land" "paths") rfl)⟩
  have mk := He.mkr_ok (c.fact 24 (f := .mkr "Land") rfl)
  have kb : ∃ mv : List Value, KBn K fd_init P_init 1 kwN (fun us ws => us ++ mv ++ ws) (fun us ws => us ++ ws) := by
    obtain ⟨mv, hmv⟩ := F_init.kbinds0 (ps := P_init) 1 kwN [] (fun us mv ws => us ++ mv ++ ws) (fun z => by cases z) (fun z hz => by cases hz) (fun h1 h2 h3 => (h1.append h2).append h3) (fun D doc pm an cdv ct us mv ws h1 h2 h3 => match us, mv, ws, h1, h2, h3 with | [_], [], [_, _, _, _], _, _, _ => rfl)
    exact ⟨mv, by simpa using hmv⟩
  obtain ⟨kmv, kb⟩ := kb
  have e := hfa.symm.trans g_law
  cases e
  have bl := FunD.bindsA (ps := ["_law_script"]) F_law fun _ _ _ _ _ _ us hl => match us, hl with | [_], _ => rfl
  refine ⟨fd_law, fun s v => bl s [v] rfl, fun base _ _ => ?_⟩
  have c_require : C8.Cal P w K mg base 1 "require" (spOf (R_require K (He.ga K "Land"))) [] := ⟨_, fd_require, P_require, [], fo_require (P := P) (w := w) (mg := mg) (base := base) (C := He.ga K "Land")  F_require, g_require, F_require.kp, bi_require F_require, .nil⟩
  have c_is_name : C8.Cal P w K mg base 1 "is_name" (spOf (R_is_name K (He.ga K "Land"))) [] := ⟨_, fd_is_name, P_is_name, [], fo_is_name (P := P) (w := w) (mg := mg) (base := base) (C := He.ga K "Land") f_len f_all k_MOST_NAME_CHARS k_NAME_CHARS F_is_name, g_is_name, F_is_name.kp, bi_is_name F_is_name, .nil⟩
  have c_are_different : C8.Cal P w K mg base 1 "are_different" (spOf (R_are_different K (He.ga K "Land"))) [] := ⟨_, fd_are_different, P_are_different, [], fo_are_different (P := P) (w := w) (mg := mg) (base := base) (C := He.ga K "Land") f_enumerate F_are_different, g_are_different, F_are_different.kp, bi_are_different F_are_different, .nil⟩
  have c_checked_times : C8.Cal P w K mg base 2 "checked_times" (spOf (R_checked_times K (He.ga K "Land"))) [] := ⟨_, fd_checked_times, P_checked_times, [], fo_checked_times (P := P) (w := w) (mg := mg) (base := base) (C := He.ga K "Land") f_len f_tuple k_MOST_MINUTES c_require F_checked_times, g_checked_times, F_checked_times.kp, bi_checked_times F_checked_times, .nil⟩
  have m_are_ends : C8.Met P w K mg base 1 (He.ga K "Land") "are_ends" (spOf (R_are_ends K (He.ga K "Land"))) [] := ⟨_, fd_are_ends, P_are_ends, [], T.cl, me_are_ends, fo_are_ends (P := P) (w := w) (mg := mg) (base := base) (C := He.ga K "Land") T F_are_ends, bi_are_ends F_are_ends, .nil⟩
  have m_checked_link : C8.Met P w K mg base 3 (He.ga K "Land") "checked_link" (spOf (R_checked_link K (He.ga K "Land"))) [] := ⟨_, fd_checked_link, P_checked_link, [], T.cl, me_checked_link, fo_checked_link (P := P) (w := w) (mg := mg) (base := base) (C := He.ga K "Land") T f_len c_require c_is_name c_checked_times m_are_ends F_checked_link, bi_checked_link F_checked_link, .nil⟩
  have m_checked_path : C8.Met P w K mg base 2 (He.ga K "Land") "checked_path" (spOf (R_checked_path K (He.ga K "Land"))) [] := ⟨_, fd_checked_path, P_checked_path, [], T.cl, me_checked_path, fo_checked_path (P := P) (w := w) (mg := mg) (base := base) (C := He.ga K "Land") f_len k_MOST_MINUTES c_require m_are_ends F_checked_path, bi_checked_path F_checked_path, .nil⟩
  have pL : PropL P w K mg base 1 (He.ga K "Land") "link_names" (spOf (R_link_names K (He.ga K "Land"))) := ⟨_, _, fd_link_names, P_link_names, T.cl, hprop, fo_link_names (P := P) (w := w) (mg := mg) (base := base) (C := He.ga K "Land") T f_tuple F_link_names, bi_link_names F_link_names⟩
  have m_check_place : C8.Met P w K mg base 1 (He.ga K "Land") "check_place" (spOf (R_check_place K (He.ga K "Land"))) [] := ⟨_, fd_check_place, P_check_place, [], T.cl, me_check_place, fo_check_place (P := P) (w := w) (mg := mg) (base := base) (C := He.ga K "Land") T F_check_place, bi_check_place F_check_place, .nil⟩
  have m_check_wind : C8.Met P w K mg base 1 (He.ga K "Land") "check_wind" (spOf (R_check_wind K (He.ga K "Land"))) [] := ⟨_, fd_check_wind, P_check_wind, [], T.cl, me_check_wind, fo_check_wind (P := P) (w := w) (mg := mg) (base := base) (C := He.ga K "Land") T F_check_wind, bi_check_wind F_check_wind, .nil⟩
  have m_walks_from : C8.Met P w K mg base 2 (He.ga K "Land") "walks_from" (spOf (R_walks_from K (He.ga K "Land"))) [] := ⟨_, fd_walks_from, P_walks_from, [], T.cl, me_walks_from, fo_walks_from (P := P) (w := w) (mg := mg) (base := base) (C := He.ga K "Land") T m_check_place F_walks_from, bi_walks_from F_walks_from, .nil⟩
  have m_minutes_between : C8.Met P w K mg base 3 (He.ga K "Land") "minutes_between" (spOf (R_minutes_between K (He.ga K "Land"))) [] := ⟨_, fd_minutes_between, P_minutes_between, [], T.cl, me_minutes_between, fo_minutes_between (P := P) (w := w) (mg := mg) (base := base) (C := He.ga K "Land") m_check_place m_walks_from F_minutes_between, bi_minutes_between F_minutes_between, .nil⟩
  have mL : MakeL P w K mg base 4 (He.ga K "Land") (sp_init K (He.ga K "Land")) := ⟨_, fd_init, P_init, _, mk, fo_init (P := P) (w := w) (mg := mg) (base := base) (C := He.ga K "Land") T f_len f_all f_tuple f_sorted k_MOST_WINDS k_MOST_PLACES k_MOST_LINKS k_MOST_PATHS c_is_name c_are_different c_require m_checked_link m_checked_path pL F_init, g_Land, kb⟩
  have c_check_winds : C8.Cal P w K mg base 2 "check_winds" (spOf (R_check_winds K (He.ga K "Land"))) [] := ⟨_, fd_check_winds, P_check_winds, [], fo_check_winds (P := P) (w := w) (mg := mg) (base := base) (C := He.ga K "Land") m_check_wind F_check_winds, g_check_winds, F_check_winds.kp, bi_check_winds F_check_winds, .nil⟩
  have c_check_changes : C8.Cal P w K mg base 1 "check_changes" (spOf (R_check_changes K (He.ga K "Land"))) [] := ⟨_, fd_check_changes, P_check_changes, [], fo_check_changes (P := P) (w := w) (mg := mg) (base := base) (C := He.ga K "Land") f_len f_zip f_any k_MOST_CHANGES k_MOST_MINUTE F_check_changes, g_check_changes, F_check_changes.kp, bi_check_changes F_check_changes, .nil⟩
  have c_blowing : C8.Cal P w K mg base 1 "blowing" (spOf (R_blowing K (He.ga K "Land"))) [] := ⟨_, fd_blowing, P_blowing, [], fo_blowing (P := P) (w := w) (mg := mg) (base := base) (C := He.ga K "Land")  F_blowing, g_blowing, F_blowing.kp, bi_blowing F_blowing, .nil⟩
  have c_chances : C8.Cal P w K mg base 1 "chances" (spOf (R_chances K (He.ga K "Land"))) [] := ⟨_, fd_chances, P_chances, [], fo_chances (P := P) (w := w) (mg := mg) (base := base) (C := He.ga K "Land")  F_chances, g_chances, F_chances.kp, bi_chances F_chances, .nil⟩
  have c_least_numbers : C8.Cal P w K mg base 1 "least_numbers" (spOf (R_least_numbers K (He.ga K "Land"))) [] := ⟨_, fd_least_numbers, P_least_numbers, [], fo_least_numbers (P := P) (w := w) (mg := mg) (base := base) (C := He.ga K "Land") T f_tuple F_least_numbers, g_least_numbers, F_least_numbers.kp, bi_least_numbers F_least_numbers, .nil⟩
  have c_check_rows : C8.Cal P w K mg base 2 "check_rows" (spOf (R_check_rows K (He.ga K "Land"))) [] := ⟨_, fd_check_rows, P_check_rows, [], fo_check_rows (P := P) (w := w) (mg := mg) (base := base) (C := He.ga K "Land") m_check_place F_check_rows, g_check_rows, F_check_rows.kp, bi_check_rows F_check_rows, .nil⟩
  have c_least_minutes : C8.Cal P w K mg base 1 "least_minutes" (spOf (R_least_minutes K (He.ga K "Land"))) [] := ⟨_, fd_least_minutes, P_least_minutes, [], fo_least_minutes (P := P) (w := w) (mg := mg) (base := base) (C := He.ga K "Land") f_min F_least_minutes, g_least_minutes, F_least_minutes.kp, bi_least_minutes F_least_minutes, .nil⟩
  have c_caught : C8.Cal P w K mg base 2 "caught" (spOf (R_caught K (He.ga K "Land"))) [] := ⟨_, fd_caught, P_caught, [], fo_caught (P := P) (w := w) (mg := mg) (base := base) (C := He.ga K "Land") T f_min c_chances c_blowing F_caught, g_caught, F_caught.kp, bi_caught F_caught, .nil⟩
  have c_spread : C8.Cal P w K mg base 3 "spread" (spOf (R_spread K (He.ga K "Land"))) [] := ⟨_, fd_spread, P_spread, [], fo_spread (P := P) (w := w) (mg := mg) (base := base) (C := He.ga K "Land") T f_min f_zip c_least_minutes c_caught F_spread, g_spread, F_spread.kp, bi_spread F_spread, .nil⟩
  have c_check_asked : C8.Cal P w K mg base 3 "check_asked" (spOf (R_check_asked K (He.ga K "Land"))) [] := ⟨_, fd_check_asked, P_check_asked, [], fo_check_asked (P := P) (w := w) (mg := mg) (base := base) (C := He.ga K "Land") c_check_winds c_check_rows c_check_changes F_check_asked, g_check_asked, F_check_asked.kp, bi_check_asked F_check_asked, .nil⟩
  have c_first_arrivals : C8.Cal P w K mg base 3 "first_arrivals" (spOf (R_first_arrivals K (He.ga K "Land"))) [] := ⟨_, fd_first_arrivals, P_first_arrivals, [], fo_first_arrivals (P := P) (w := w) (mg := mg) (base := base) (C := He.ga K "Land") f_min m_walks_from F_first_arrivals, g_first_arrivals, F_first_arrivals.kp, bi_first_arrivals F_first_arrivals, .nil⟩
  have c_safe_walk : C8.Cal P w K mg base 4 "safe_walk" (spOf (R_safe_walk K (He.ga K "Land"))) [] := ⟨_, fd_safe_walk, P_safe_walk, [], fo_safe_walk (P := P) (w := w) (mg := mg) (base := base) (C := He.ga K "Land") T f_enumerate f_min c_check_asked c_least_numbers c_spread c_first_arrivals F_safe_walk, g_safe_walk, F_safe_walk.kp, bi_safe_walk F_safe_walk, .nil⟩
  have c_is_safe_walk : C8.Cal P w K mg base 4 "is_safe_walk" (spOf (R_is_safe_walk K (He.ga K "Land"))) [] := ⟨_, fd_is_safe_walk, P_is_safe_walk, [], fo_is_safe_walk (P := P) (w := w) (mg := mg) (base := base) (C := He.ga K "Land") T f_any f_zip c_check_asked c_least_numbers c_spread m_minutes_between F_is_safe_walk, g_is_safe_walk, F_is_safe_walk.kp, bi_is_safe_walk F_is_safe_walk, .nil⟩
  have c_refuges : C8.Cal P w K mg base 5 "refuges" (spOf (R_refuges K (He.ga K "Land"))) [] := ⟨_, fd_refuges, P_refuges, [], fo_refuges (P := P) (w := w) (mg := mg) (base := base) (C := He.ga K "Land") T c_check_asked c_safe_walk F_refuges, g_refuges, F_refuges.kp, bi_refuges F_refuges, .nil⟩
  have c_Lrow : C8.Cal P w K mg base 1 "_law_row" (spOf (R_Lrow K (He.ga K "Land"))) [] := ⟨_, fd_Lrow, P_Lrow, [], fo_Lrow (P := P) (w := w) (mg := mg) (base := base) (C := He.ga K "Land") f_abs f_int f_range F_Lrow, g__law_row, F_Lrow.kp, bi_Lrow F_Lrow, .nil⟩
  have c_Lnumbers : C8.Cal P w K mg base 2 "_law_numbers" (spOf (R_Lnumbers K (He.ga K "Land"))) [] := ⟨_, fd_Lnumbers, P_Lnumbers, [], fo_Lnumbers (P := P) (w := w) (mg := mg) (base := base) (C := He.ga K "Land") f_len f_max c_Lrow F_Lnumbers, g__law_numbers, F_Lnumbers.kp, bi_Lnumbers F_Lnumbers, .nil⟩
  have c_Lpick : C8.Cal P w K mg base 1 "_law_pick" (spOf (R_Lpick K (He.ga K "Land"))) [] := ⟨_, fd_Lpick, P_Lpick, [], fo_Lpick (P := P) (w := w) (mg := mg) (base := base) (C := He.ga K "Land") f_int F_Lpick, g__law_pick, F_Lpick.kp, bi_Lpick F_Lpick, .nil⟩
  have c_Lnames : C8.Cal P w K mg base 1 "_law_names" (spOf (R_Lnames K (He.ga K "Land"))) [] := ⟨_, fd_Lnames, P_Lnames, [], fo_Lnames (P := P) (w := w) (mg := mg) (base := base) (C := He.ga K "Land") f_int f_range F_Lnames, g__law_names, F_Lnames.kp, bi_Lnames F_Lnames, .nil⟩
  have c_Lparts : C8.Cal P w K mg base 2 "_law_parts" (spOf (R_Lparts K (He.ga K "Land"))) [] := ⟨_, fd_Lparts, P_Lparts, [], fo_Lparts (P := P) (w := w) (mg := mg) (base := base) (C := He.ga K "Land") f_int f_range f_len f_tuple c_Lnames F_Lparts, g__law_parts, F_Lparts.kp, bi_Lparts F_Lparts, .nil⟩
  have c_Lweather : C8.Cal P w K mg base 1 "_law_weather" (spOf (R_Lweather K (He.ga K "Land"))) [] := ⟨_, fd_Lweather, P_Lweather, [], fo_Lweather (P := P) (w := w) (mg := mg) (base := base) (C := He.ga K "Land") f_int f_len f_range F_Lweather, g__law_weather, F_Lweather.kp, bi_Lweather F_Lweather, .nil⟩
  have c_Lwind : C8.Cal P w K mg base 1 "_law_wind" (spOf (R_Lwind K (He.ga K "Land"))) [] := ⟨_, fd_Lwind, P_Lwind, [], fo_Lwind (P := P) (w := w) (mg := mg) (base := base) (C := He.ga K "Land")  F_Lwind, g__law_wind, F_Lwind.kp, bi_Lwind F_Lwind, .nil⟩
  have c_Lcaught : C8.Cal P w K mg base 2 "_law_caught" (spOf (R_Lcaught K (He.ga K "Land"))) [] := ⟨_, fd_Lcaught, P_Lcaught, [], fo_Lcaught (P := P) (w := w) (mg := mg) (base := base) (C := He.ga K "Land") c_Lwind F_Lcaught, g__law_caught, F_Lcaught.kp, bi_Lcaught F_Lcaught, .nil⟩
  have c_Lfire : C8.Cal P w K mg base 3 "_law_fire" (spOf (R_Lfire K (He.ga K "Land"))) [] := ⟨_, fd_Lfire, P_Lfire, [], fo_Lfire (P := P) (w := w) (mg := mg) (base := base) (C := He.ga K "Land") f_min f_len f_range c_Lcaught F_Lfire, g__law_fire, F_Lfire.kp, bi_Lfire F_Lfire, .nil⟩
  have c_Lrows : C8.Cal P w K mg base 1 "_law_rows" (spOf (R_Lrows K (He.ga K "Land"))) [] := ⟨_, fd_Lrows, P_Lrows, [], fo_Lrows (P := P) (w := w) (mg := mg) (base := base) (C := He.ga K "Land") f_range f_int f_len F_Lrows, g__law_rows, F_Lrows.kp, bi_Lrows F_Lrows, .nil⟩
  have c_Lland : C8.Cal P w K mg base 6 "_law_land" (spOf (R_Lland K (He.ga K "Land"))) [] := ⟨_, fd_Lland, P_Lland, [], fo_Lland (P := P) (w := w) (mg := mg) (base := base) (C := He.ga K "Land") f_list mL F_Lland, g__law_land, F_Lland.kp, bi_Lland F_Lland, .nil⟩
  have c_Lcase : C8.Cal P w K mg base 3 "_law_case" (spOf (R_Lcase K (He.ga K "Land"))) [] := ⟨_, fd_Lcase, P_Lcase, [], fo_Lcase (P := P) (w := w) (mg := mg) (base := base) (C := He.ga K "Land") f_len c_Lparts c_Lweather c_Lpick c_Lrows F_Lcase, g__law_case, F_Lcase.kp, bi_Lcase F_Lcase, .nil⟩
  have c_Lnumbers_of : C8.Cal P w K mg base 2 "_law_numbers_of" (spOf (R_Lnumbers_of K (He.ga K "Land"))) [] := ⟨_, fd_Lnumbers_of, P_Lnumbers_of, [], fo_Lnumbers_of (P := P) (w := w) (mg := mg) (base := base) (C := He.ga K "Land") f_len f_range f_tuple c_Lpick F_Lnumbers_of, g__law_numbers_of, F_Lnumbers_of.kp, bi_Lnumbers_of F_Lnumbers_of, .nil⟩
  have c_Lwalks : C8.Cal P w K mg base 1 "_law_walks" (spOf (R_Lwalks K (He.ga K "Land"))) [] := ⟨_, fd_Lwalks, P_Lwalks, [], fo_Lwalks (P := P) (w := w) (mg := mg) (base := base) (C := He.ga K "Land")  F_Lwalks, g__law_walks, F_Lwalks.kp, bi_Lwalks F_Lwalks, .nil⟩
  have c_Lis_safe : C8.Cal P w K mg base 2 "_law_is_safe" (spOf (R_Lis_safe K (He.ga K "Land"))) [] := ⟨_, fd_Lis_safe, P_Lis_safe, [], fo_Lis_safe (P := P) (w := w) (mg := mg) (base := base) (C := He.ga K "Land") f_len f_range c_Lwalks F_Lis_safe, g__law_is_safe, F_Lis_safe.kp, bi_Lis_safe F_Lis_safe, .nil⟩
  have c_Ldrawn_walk : C8.Cal P w K mg base 2 "_law_drawn_walk" (spOf (R_Ldrawn_walk K (He.ga K "Land"))) [] := ⟨_, fd_Ldrawn_walk, P_Ldrawn_walk, [], fo_Ldrawn_walk (P := P) (w := w) (mg := mg) (base := base) (C := He.ga K "Land") f_len f_range c_Lpick c_Lwalks F_Ldrawn_walk, g__law_drawn_walk, F_Ldrawn_walk.kp, bi_Ldrawn_walk F_Ldrawn_walk, .nil⟩
  exact fo_law (P := P) (w := w) (mg := mg) (base := base) (C := He.ga K "Land") f_len c_Lnumbers c_Lcase c_Lland c_Lnumbers_of c_Lfire c_Lpick c_safe_walk c_Lis_safe c_Ldrawn_walk c_is_safe_walk c_refuges F_law
end Ef
open PySem PySem.W PySem.Calls PyProof.Rows
theorem PySem.Challenge.cw_everyfire_k78_whole_refuges_holds : PySem.Challenge.rw_everyfire_k78_whole_refuges.Holds := by
  w_on; o_law
  refine HandSHeadRun.head_any (r := OpenLaw.row PySem.Challenge.rw_everyfire_k78_whole_refuges) (q := view (OpenLaw.row PySem.Challenge.rw_everyfire_k78_whole_refuges).prog [57]) (H := Ef.hk) (ob := Ef.ob) (M := 20000) (loose := Ef.names) (d := HandSHeadRun.topDef (OpenLaw.row PySem.Challenge.rw_everyfire_k78_whole_refuges).prog 57) (kwd := []) Ef.ob_eq
    (by kernel_rfl) (fun s => by kernel_rfl) Ef.run (by kernel_rfl) (by kernel_rfl) (by kernel_rfl) (by rfl) (by first | assumption | decide +kernel) (by decide +kernel) ⟨rfl, rfl, rfl, rfl, rfl, by decide +kernel⟩ ?hw ?hc
  case hw => w_witness2
  case hc =>
    refine L2.walk_ofE (l := PySem.Challenge.rw_everyfire_k78_whole_refuges) (n := 63) (k := 7) (x := "_law_script") (CX := L2.CX0) rfl (by decide) (by kernel_rfl) ⟨rfl, by decide, by decide⟩ ?F (fun _ _ _ _ z => z)
    intro w mg fa h Y G hmg0
    obtain ⟨K, KX, c⟩ := Y
    have hmg : mg ("law" : PySem.Str) = some (.ref fa) := by
      have e : (HandSHeadRun.topDef (OpenLaw.row PySem.Challenge.rw_everyfire_k78_whole_refuges).prog 57).name = ("law" : PySem.Str) := by kernel_rfl
      rw [← e]
      exact hmg0
    obtain ⟨fd, hb, hF⟩ := Ef.facts (P := (PySem.Challenge.rw_everyfire_k78_whole_refuges).prog) (w := w) KX G hmg c
    exact ⟨K, fd, Ef.spOf (Ef.R_law K (He.ga K "Land")), KX, hb, fun H a ns hl _ hS => ⟨_, ⟨.ref a, ns, rfl, .lst hS (Ef.dps_ints ns), rfl⟩, fun _ _ _ h => h⟩, hF⟩
