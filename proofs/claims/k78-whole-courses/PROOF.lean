import PyProof.Rows.All
import Wide.All
import OpenK.AllK
import Wide.FinOn
import HandS.ForMost
import KE.KStateDown
import HandS.More
import HandS.WordsExc
import HandS.Defaults
import HandS.Head0
import HandS.Head1
import HandS.Head2
import HandS.HeadEnd
import HandS.HeadHook1
import HandS.HeadHook2
import HandS.TupAny
import HandS.IsInst
import HandS.Zip
import HandS.Flow
import HandS.Deep
import HandS.Conv
import HandS.SortOrd
import HandS.SortRule
import HandS.DictComp
import HandS.DictTup
import KE.SortData
import KE.DataEq
import KE.DataMinMax
import PyProof.MaxThree
import KE.GoesMore
import KE.KDictPairs
import KE.DataIsa
import HandS.Evl
import PySem.Challenge.RW_everygain_k78_whole_courses
set_option Elab.async false
set_option linter.all false
set_option maxRecDepth 100000
set_option maxHeartbeats 4000000
namespace K78
open PySem PySem.Spec PyProof.Rows L2
def topS (i : Nat) : Stmt := PySem.Challenge.pw_everygain_k78_whole_courses.main.body.getD i (.Pass ⟨0, 0, 0, 0⟩)
abbrev s_seen_row : Stmt := topS 1
abbrev n_seen_row : List Str := ["beat", "channel", "station", "other", "mark"]
theorem sc_seen_row : FnScope n_seen_row ["beat", "channel", "station", "other", "mark"] (defScope s_seen_row) := ⟨rfl, rfl, rfl, by decide +kernel, rfl, by decide +kernel, by decide +kernel⟩
-- slots: beat 0, channel 1, station 2, other 3, mark 4
abbrev s_is_course : Stmt := topS 3
abbrev n_is_course : List Str := ["night", "thing", "ups", "slews", "patch", "up", "gaps", "ahead", "beat", "one", "other", "gap"]
theorem sc_is_course : FnScope n_is_course ["night", "thing"] (defScope s_is_course) := ⟨rfl, rfl, rfl, by decide +kernel, rfl, by decide +kernel, by decide +kernel⟩
-- slots: night 0, thing 1, ups 2, slews 3, patch 4, up 5, gaps 6, ahead 7, beat 8, one 9, other 10, gap 11
abbrev s_courses_of : Stmt := topS 4
abbrev n_courses_of : List Str := ["night", "found", "up", "course", "patch"]
theorem sc_courses_of : FnScope n_courses_of ["night"] (defScope s_courses_of) := ⟨rfl, rfl, rfl, by decide +kernel, rfl, by decide +kernel, by decide +kernel⟩
-- slots: night 0, found 1, up 2, course 3, patch 4; cells night, up
abbrev s_course_price : Stmt := topS 5
abbrev n_course_price : List Str := ["night", "course", "costs", "patch"]
theorem sc_course_price : FnScope n_course_price ["night", "course"] (defScope s_course_price) := ⟨rfl, rfl, rfl, by decide +kernel, rfl, by decide +kernel, by decide +kernel⟩
-- slots: night 0, course 1, costs 2, patch 3; cells costs
abbrev s_course_book : Stmt := topS 6
abbrev n_course_book : List Str := ["night", "course", "dial", "fold", "stations", "matrices", "channels", "terms", "names", "stands", "rows", "beat", "patch", "channel", "plan", "station"]
theorem sc_course_book : FnScope n_course_book ["night", "course"] (defScope s_course_book) := ⟨rfl, rfl, rfl, by decide +kernel, rfl, by decide +kernel, by decide +kernel⟩
-- slots: night 0, course 1, dial 2, fold 3, stations 4, matrices 5, channels 6, terms 7, names 8, stands 9, rows 10, beat 11, patch 12, channel 13, plan 14, station 15
abbrev s_pair_rows : Stmt := topS 7
abbrev n_pair_rows : List Str := ["beat", "channel", "names", "rows", "at", "station", "other"]
theorem sc_pair_rows : FnScope n_pair_rows ["beat", "channel", "names"] (defScope s_pair_rows) := ⟨rfl, rfl, rfl, by decide +kernel, rfl, by decide +kernel, by decide +kernel⟩
-- slots: beat 0, channel 1, names 2, rows 3, at 4, station 5, other 6
abbrev s_l_numbers : Stmt := topS 9
abbrev n_l_numbers : List Str := ["script", "many", "cells", "left", "numbers", "lap", "place", "mixed", "cell"]
theorem sc_l_numbers : FnScope n_l_numbers ["script", "many"] (defScope s_l_numbers) := ⟨rfl, rfl, rfl, by decide +kernel, rfl, by decide +kernel, by decide +kernel⟩
-- slots: script 0, many 1, cells 2, left 3, numbers 4, lap 5, place 6, mixed 7, cell 8
abbrev s_l_pick : Stmt := topS 10
abbrev n_l_pick : List Str := ["numbers", "at", "many", "value"]
theorem sc_l_pick : FnScope n_l_pick ["numbers", "at", "many"] (defScope s_l_pick) := ⟨rfl, rfl, rfl, by decide +kernel, rfl, by decide +kernel, by decide +kernel⟩
-- slots: numbers 0, at 1, many 2, value 3
abbrev s_l_same : Stmt := topS 11
abbrev n_l_same : List Str := ["told", "due", "pairs", "lap", "one", "two", "place"]
theorem sc_l_same : FnScope n_l_same ["told", "due"] (defScope s_l_same) := ⟨rfl, rfl, rfl, by decide +kernel, rfl, by decide +kernel, by decide +kernel⟩
-- slots: told 0, due 1, pairs 2, lap 3, one 4, two 5, place 6
abbrev s_l_name : Stmt := topS 12
abbrev n_l_name : List Str := ["numbers", "at", "names", "stem", "letters", "signs", "name", "lap", "place", "sign", "words", "bump"]
theorem sc_l_name : FnScope n_l_name ["numbers", "at", "names", "stem"] (defScope s_l_name) := ⟨rfl, rfl, rfl, by decide +kernel, rfl, by decide +kernel, by decide +kernel⟩
-- slots: numbers 0, at 1, names 2, stem 3, letters 4, signs 5, name 6, lap 7, place 8, sign 9, words 10, bump 11
abbrev s_l_names : Stmt := topS 13
abbrev n_l_names : List Str := ["numbers", "at", "many", "ahead", "stem", "names", "lap"]
theorem sc_l_names : FnScope n_l_names ["numbers", "at", "many", "ahead"] (defScope s_l_names) := ⟨rfl, rfl, rfl, by decide +kernel, rfl, by decide +kernel, by decide +kernel⟩
-- slots: numbers 0, at 1, many 2, ahead 3, stem 4, names 5, lap 6
abbrev s_l_sizes : Stmt := topS 14
abbrev n_l_sizes : List Str := ["numbers", "at", "shape", "sizes", "product", "lap", "size"]
theorem sc_l_sizes : FnScope n_l_sizes ["numbers", "at"] (defScope s_l_sizes) := ⟨rfl, rfl, rfl, by decide +kernel, rfl, by decide +kernel, by decide +kernel⟩
-- slots: numbers 0, at 1, shape 2, sizes 3, product 4, lap 5, size 6
abbrev s_l_ups : Stmt := topS 15
abbrev n_l_ups : List Str := ["numbers", "at", "sizes", "patches", "first", "lap", "ups", "size", "start", "place"]
theorem sc_l_ups : FnScope n_l_ups ["numbers", "at", "sizes", "patches"] (defScope s_l_ups) := ⟨rfl, rfl, rfl, by decide +kernel, rfl, by decide +kernel, by decide +kernel⟩
-- slots: numbers 0, at 1, sizes 2, patches 3, first 4, lap 5, ups 6, size 7, start 8, place 9; cells patches, start
abbrev s_l_slews : Stmt := topS 16
abbrev n_l_slews : List Str := ["numbers", "at", "patches", "habit", "slews", "lap", "first", "second", "rest", "slew"]
theorem sc_l_slews : FnScope n_l_slews ["numbers", "at", "patches"] (defScope s_l_slews) := ⟨rfl, rfl, rfl, by decide +kernel, rfl, by decide +kernel, by decide +kernel⟩
-- slots: numbers 0, at 1, patches 2, habit 3, slews 4, lap 5, first 6, second 7, rest 8, slew 9; cells first, second
abbrev s_l_prices : Stmt := topS 17
abbrev n_l_prices : List Str := ["numbers", "at", "ups", "habit", "seen", "names", "name", "prices", "free"]
theorem sc_l_prices : FnScope n_l_prices ["numbers", "at", "ups"] (defScope s_l_prices) := ⟨rfl, rfl, rfl, by decide +kernel, rfl, by decide +kernel, by decide +kernel⟩
-- slots: numbers 0, at 1, ups 2, habit 3, seen 4, names 5, name 6, prices 7, free 8
abbrev s_l_lead : Stmt := topS 18
abbrev n_l_lead : List Str := ["fold", "first", "second", "one", "other"]
theorem sc_l_lead : FnScope n_l_lead ["fold", "first", "second"] (defScope s_l_lead) := ⟨rfl, rfl, rfl, by decide +kernel, rfl, by decide +kernel, by decide +kernel⟩
-- slots: fold 0, first 1, second 2, one 3, other 4
abbrev s_l_plan : Stmt := topS 19
abbrev n_l_plan : List Str := ["numbers", "at", "ahead", "beats", "dials", "dial", "fold", "pairs", "many", "stations", "name", "rows", "most", "channels", "lap", "channel", "gains", "terms", "early", "low", "kind", "station", "late", "term"]
theorem sc_l_plan : FnScope n_l_plan ["numbers", "at", "ahead", "beats"] (defScope s_l_plan) := ⟨rfl, rfl, rfl, by decide +kernel, rfl, by decide +kernel, by decide +kernel⟩
-- slots: numbers 0, at 1, ahead 2, beats 3, dials 4, dial 5, fold 6, pairs 7, many 8, stations 9, name 10, rows 11, most 12, channels 13, lap 14, channel 15, gains 16, terms 17, early 18, low 19, kind 20, station 21, late 22, term 23
abbrev s_l_facts : Stmt := topS 20
abbrev n_l_facts : List Str := ["numbers", "at", "plan", "patches", "facts", "size", "lap", "pairs", "part", "first", "lead", "unknown", "factor", "mark", "pair"]
theorem sc_l_facts : FnScope n_l_facts ["numbers", "at", "plan", "patches"] (defScope s_l_facts) := ⟨rfl, rfl, rfl, by decide +kernel, rfl, by decide +kernel, by decide +kernel⟩
-- slots: numbers 0, at 1, plan 2, patches 3, facts 4, size 5, lap 6, pairs 7, part 8, first 9, lead 10, unknown 11, factor 12, mark 13, pair 14; cells unknown
abbrev s_l_night : Stmt := topS 21
abbrev n_l_night : List Str := ["numbers", "at", "sizes", "patches", "ups", "plan", "matrices", "beat", "matrix", "slews", "prices", "facts", "place"]
theorem sc_l_night : FnScope n_l_night ["numbers", "at"] (defScope s_l_night) := ⟨rfl, rfl, rfl, by decide +kernel, rfl, by decide +kernel, by decide +kernel⟩
-- slots: numbers 0, at 1, sizes 2, patches 3, ups 4, plan 5, matrices 6, beat 7, matrix 8, slews 9, prices 10, facts 11, place 12; cells numbers, at
abbrev s_l_choices : Stmt := topS 22
abbrev n_l_choices : List Str := ["ups", "rows", "names", "longer", "row", "name"]
theorem sc_l_choices : FnScope n_l_choices ["ups"] (defScope s_l_choices) := ⟨rfl, rfl, rfl, by decide +kernel, rfl, by decide +kernel, by decide +kernel⟩
-- slots: ups 0, rows 1, names 2, longer 3, row 4, name 5
abbrev s_l_keeps : Stmt := topS 23
abbrev n_l_keeps : List Str := ["course", "slews", "last", "gap", "name", "slew"]
theorem sc_l_keeps : FnScope n_l_keeps ["course", "slews"] (defScope s_l_keeps) := ⟨rfl, rfl, rfl, by decide +kernel, rfl, by decide +kernel, by decide +kernel⟩
-- slots: course 0, slews 1, last 2, gap 3, name 4, slew 5
abbrev s_l_is_due : Stmt := topS 24
abbrev n_l_is_due : List Str := ["night", "thing", "ups", "beat"]
theorem sc_l_is_due : FnScope n_l_is_due ["night", "thing"] (defScope s_l_is_due) := ⟨rfl, rfl, rfl, by decide +kernel, rfl, by decide +kernel, by decide +kernel⟩
-- slots: night 0, thing 1, ups 2, beat 3
abbrev s_l_book : Stmt := topS 25
abbrev n_l_book : List Str := ["night", "course", "stands", "rows", "beat", "channel", "first", "second", "plan"]
theorem sc_l_book : FnScope n_l_book ["night", "course"] (defScope s_l_book) := ⟨rfl, rfl, rfl, by decide +kernel, rfl, by decide +kernel, by decide +kernel⟩
-- slots: night 0, course 1, stands 2, rows 3, beat 4, channel 5, first 6, second 7, plan 8
abbrev s_l_price : Stmt := topS 26
abbrev n_l_price : List Str := ["night", "course", "total", "name", "pair"]
theorem sc_l_price : FnScope n_l_price ["night", "course"] (defScope s_l_price) := ⟨rfl, rfl, rfl, by decide +kernel, rfl, by decide +kernel, by decide +kernel⟩
-- slots: night 0, course 1, total 2, name 3, pair 4
abbrev s_l_bent : Stmt := topS 27
abbrev n_l_bent : List Str := ["numbers", "at", "night", "course", "refused", "beat", "bent", "other", "names", "name", "start", "pair", "slew"]
theorem sc_l_bent : FnScope n_l_bent ["numbers", "at", "night", "course", "refused"] (defScope s_l_bent) := ⟨rfl, rfl, rfl, by decide +kernel, rfl, by decide +kernel, by decide +kernel⟩
-- slots: numbers 0, at 1, night 2, course 3, refused 4, beat 5, bent 6, other 7, names 8, name 9, start 10, pair 11, slew 12
abbrev s_law : Stmt := topS 28
abbrev n_law : List Str := ["script", "numbers", "at", "night", "choices", "due", "refused", "asked", "drawn", "course", "thing", "choice"]
theorem sc_law : FnScope n_law ["script"] (defScope s_law) := ⟨rfl, rfl, rfl, by decide +kernel, rfl, by decide +kernel, by decide +kernel⟩
-- slots: script 0, numbers 1, at 2, night 3, choices 4, due 5, refused 6, asked 7, drawn 8, course 9, thing 10, choice 11; cells night
end K78
set_option Elab.async false
set_option linter.all false
set_option maxRecDepth 100000
set_option maxHeartbeats 0
namespace K78
open PySem PySem.Spec PyProof.Rows L2
abbrev FnP (K : PySem.W.Frag) (x : Str) (st : Stmt) (f : Addr) (fd : FuncData) : Prop := FunD K x x (defArgs st) (defBody st) (defScope st) [] [] f fd
def d_seen_row : He.DefD := ⟨("seen_row", none), "seen_row", "seen_row", defArgs s_seen_row, defBody s_seen_row, defScope s_seen_row, [], []⟩
def d_is_course : He.DefD := ⟨("is_course", none), "is_course", "is_course", defArgs s_is_course, defBody s_is_course, defScope s_is_course, [], []⟩
def d_courses_of : He.DefD := ⟨("courses_of", none), "courses_of", "courses_of", defArgs s_courses_of, defBody s_courses_of, defScope s_courses_of, [], []⟩
def d_course_price : He.DefD := ⟨("course_price", none), "course_price", "course_price", defArgs s_course_price, defBody s_course_price, defScope s_course_price, [], []⟩
def d_course_book : He.DefD := ⟨("course_book", none), "course_book", "course_book", defArgs s_course_book, defBody s_course_book, defScope s_course_book, [], []⟩
def d_pair_rows : He.DefD := ⟨("_pair_rows", none), "_pair_rows", "_pair_rows", defArgs s_pair_rows, defBody s_pair_rows, defScope s_pair_rows, [], []⟩
def d_l_numbers : He.DefD := ⟨("_law_numbers", none), "_law_numbers", "_law_numbers", defArgs s_l_numbers, defBody s_l_numbers, defScope s_l_numbers, [], []⟩
def d_l_pick : He.DefD := ⟨("_law_pick", none), "_law_pick", "_law_pick", defArgs s_l_pick, defBody s_l_pick, defScope s_l_pick, [], []⟩
def d_l_same : He.DefD := ⟨("_law_same", none), "_law_same", "_law_same", defArgs s_l_same, defBody s_l_same, defScope s_l_same, [], []⟩
def d_l_name : He.DefD := ⟨("_law_name", none), "_law_name", "_law_name", defArgs s_l_name, defBody s_l_name, defScope s_l_name, [], []⟩
def d_l_names : He.DefD := ⟨("_law_names", none), "_law_names", "_law_names", defArgs s_l_names, defBody s_l_names, defScope s_l_names, [], []⟩
def d_l_sizes : He.DefD := ⟨("_law_sizes", none), "_law_sizes", "_law_sizes", defArgs s_l_sizes, defBody s_l_sizes, defScope s_l_sizes, [], []⟩
def d_l_ups : He.DefD := ⟨("_law_ups", none), "_law_ups", "_law_ups", defArgs s_l_ups, defBody s_l_ups, defScope s_l_ups, [], []⟩
def d_l_slews : He.DefD := ⟨("_law_slews", none), "_law_slews", "_law_slews", defArgs s_l_slews, defBody s_l_slews, defScope s_l_slews, [], []⟩
def d_l_prices : He.DefD := ⟨("_law_prices", none), "_law_prices", "_law_prices", defArgs s_l_prices, defBody s_l_prices, defScope s_l_prices, [], []⟩
def d_l_lead : He.DefD := ⟨("_law_lead", none), "_law_lead", "_law_lead", defArgs s_l_lead, defBody s_l_lead, defScope s_l_lead, [], []⟩
def d_l_plan : He.DefD := ⟨("_law_plan", none), "_law_plan", "_law_plan", defArgs s_l_plan, defBody s_l_plan, defScope s_l_plan, [], []⟩
def d_l_facts : He.DefD := ⟨("_law_facts", none), "_law_facts", "_law_facts", defArgs s_l_facts, defBody s_l_facts, defScope s_l_facts, [], []⟩
def d_l_night : He.DefD := ⟨("_law_night", none), "_law_night", "_law_night", defArgs s_l_night, defBody s_l_night, defScope s_l_night, [], []⟩
def d_l_choices : He.DefD := ⟨("_law_choices", none), "_law_choices", "_law_choices", defArgs s_l_choices, defBody s_l_choices, defScope s_l_choices, [], []⟩
def d_l_keeps : He.DefD := ⟨("_law_keeps", none), "_law_keeps", "_law_keeps", defArgs s_l_keeps, defBody s_l_keeps, defScope s_l_keeps, [], []⟩
def d_l_is_due : He.DefD := ⟨("_law_is_due", none), "_law_is_due", "_law_is_due", defArgs s_l_is_due, defBody s_l_is_due, defScope s_l_is_due, [], []⟩
def d_l_book : He.DefD := ⟨("_law_book", none), "_law_book", "_law_book", defArgs s_l_book, defBody s_l_book, defScope s_l_book, [], []⟩
def d_l_price : He.DefD := ⟨("_law_price", none), "_law_price", "_law_price", defArgs s_l_price, defBody s_l_price, defScope s_l_price, [], []⟩
def d_l_bent : He.DefD := ⟨("_law_bent", none), "_law_bent", "_law_bent", defArgs s_l_bent, defBody s_l_bent, defScope s_l_bent, [], []⟩
def d_law : He.DefD := ⟨("law", none), "law", "law", defArgs s_law, defBody s_law, defScope s_law, [], []⟩
def fn : List He.DefD := [d_seen_row, d_is_course, d_courses_of, d_course_price, d_course_book, d_pair_rows, d_l_numbers, d_l_pick, d_l_same, d_l_name, d_l_names, d_l_sizes, d_l_ups, d_l_slews, d_l_prices, d_l_lead, d_l_plan, d_l_facts, d_l_night, d_l_choices, d_l_keeps, d_l_is_due, d_l_book, d_l_price, d_l_bent, d_law]
def fa : List He.Fa := [.glo "seen_row", .glo "is_course", .glo "courses_of", .glo "course_price", .glo "course_book", .glo "_pair_rows", .glo "_law_numbers", .glo "_law_pick", .glo "_law_same", .glo "_law_name", .glo "_law_names", .glo "_law_sizes", .glo "_law_ups", .glo "_law_slews", .glo "_law_prices", .glo "_law_lead", .glo "_law_plan", .glo "_law_facts", .glo "_law_night", .glo "_law_choices", .glo "_law_keeps", .glo "_law_is_due", .glo "_law_book", .glo "_law_price", .glo "_law_bent", .glo "law", .free "bool", .free "dict", .free "enumerate", .free "int", .free "isinstance", .free "len", .free "list", .free "max", .free "min", .free "range", .free "sorted", .free "str", .free "sum", .free "tuple", .free "zip"]
-- free: bool 26, dict 27, enumerate 28, int 29, isinstance 30, len 31, list 32, max 33, min 34, range 35, sorted 36, str 37, sum 38, tuple 39, zip 40
abbrev R : PySem.W.OpenRow := PySem.W.OpenLaw.row PySem.Challenge.rw_everygain_k78_whole_courses
abbrev hk : PySem.W.Hook := He.hookD 4 fa fn
def ob (s : PySem.W.SharedT) : He.AlD := He.obsDG 4 fa fn (HandSHeadRun.getT s)
theorem ob_eq (s : PySem.W.SharedT) : ob s = hk.obs s.abs := He.obsDG_eq (HandSHeadRun.getT_eq s)
abbrev loose : List Str := ["seen_row", "is_course", "courses_of", "course_price", "course_book", "_pair_rows", "_law_numbers", "_law_pick", "_law_same", "_law_name", "_law_names", "_law_sizes", "_law_ups", "_law_slews", "_law_prices", "_law_lead", "_law_plan", "_law_facts", "_law_night", "_law_choices", "_law_keeps", "_law_is_due", "_law_book", "_law_price", "_law_bent"]
theorem run (w : World) : HandSHeadRun.RunEq R (PySem.W.view R.prog [28]) hk ob 4000 loose w := by
  intro os
  kernel_rfl
end K78
set_option Elab.async false
set_option linter.all false
set_option maxRecDepth 100000
set_option maxHeartbeats 4000000
/-! words that more than one law's proof uses: a counter in a list (AtO), data of tuples (Tp), what grows -/
namespace KB
open PySem PySem.Spec PyProof.Rows L2

/-! ### a list that holds one number that is not told: the place in the drawn numbers -/
def atP (a : Addr) (h : Heap) : Prop := ∃ (j : Nat) (t : Tok) (n : Nat), h.get? a = some { cls := .type "list", data := .seq ([Value.int (j : Int) t] : List Value).toArray n }
def AtO (a : Addr) : HO := .ext (atP a)
theorem atO_ok {P : Program} {w : World} {H : Hp} {h : Heap} {a : Addr} (x : atP a h) : ObjOk P w H h a (AtO a) := by
  obtain ⟨j, t, n, e⟩ := id x
  refine ⟨x, ⟨_, e⟩, fun h1 h2 p k => ?_⟩
  obtain ⟨j, t, n, e⟩ := p
  exact ⟨j, t, n, k _ e⟩
theorem upd_self {H : Hp} {a : Addr} {o : HO} (h : H a = some o) : upd H a o = H := by
  funext b
  unfold upd
  by_cases e : b = a
  · rw [if_pos e, e, h]
  · rw [if_neg e]
section
variable {X : Cx}
theorem at_of {pins : List (Addr × Obj)} {σ : L2.St} {H : Hp} {s : Shared} {a : Addr} (I : Inv X pins σ H s) (h : H a = some (AtO a)) : atP a s.heap := (I.hok a _ h).1
/-- at[0] -/
def rIxAt : R2 := fun x y H Q => ∃ a, x = .ref a ∧ y = .int 0 ∧ H a = some (AtO a) ∧ ∀ j : Nat, Q (.int (j : Int)) H
theorem ix_at : IxR X rIxAt := by
  intro value slice pins s σ H x y v u Q I rx ry h hs
  obtain ⟨a, rfl, rfl, ha, q⟩ := h
  cases rx
  obtain ⟨t, rfl⟩ := ry
  obtain ⟨j, tk, n, e⟩ := at_of I ha
  have fin : EP X pins σ Q (.int (j : Int) tk) s := ⟨.int (j : Int), H, I, ⟨tk, rfl⟩, q j⟩
  exact item_listR (show s.heap.IsList a ([Value.int (j : Int) tk] : List Value).toArray from ⟨_, e, rfl, n, rfl⟩) (Int.le_refl 0) (by decide) (by rfl) fin hs
/-- at[0] = a number -/
def rSetAt : V → V → V → Hp → (Hp → Prop) → Prop := fun o i v H Q => ∃ (a : Addr) (j : Nat), o = .ref a ∧ i = .int 0 ∧ v = .int (j : Int) ∧ H a = some (AtO a) ∧ Q H
theorem set_at : PSet X rSetAt := by
  intro pins s σ H o i v ov iv u Q I ro ri rv h
  obtain ⟨a, j, rfl, rfl, rfl, ha, q⟩ := h
  cases ro
  obtain ⟨t, rfl⟩ := ri
  obtain ⟨tj, rfl⟩ := rv
  obtain ⟨j0, tk, n, e⟩ := at_of I ha
  have e2 : (s.heap.update a (Obj.mapSeq (·.setIfInBounds 0 (Value.int (j : Int) tj)))).get? a = some { cls := .type "list", data := .seq ([Value.int (j : Int) tj] : List Value).toArray n } := by
    rw [Heap.get?_update_self _ e (by rw [mapSeq_set] <;> rfl), mapSeq_set]
    rfl
  have I' : Inv X pins σ (upd H a (AtO a)) { s with heap := s.heap.update a (Obj.mapSeq (·.setIfInBounds 0 (Value.int (j : Int) tj))), toks := s.toks } := by
    refine I.write (x := a) (e := a) (by rw [ha]; trivial) (.inl rfl) (fun b u hb q => (Heap.get?_update_other _ _ (Ne.symm hb)).trans q) ⟨_, e2⟩ (atO_ok ⟨j, tj, n, e2⟩)
  rw [upd_self ha] at I'
  exact PySem.W.ki_setAt e (Int.le_refl 0) (by show (0 : Int) < 2 ^ 63; decide) (by show (0 : Int) < ((1 : Nat) : Int); decide) ⟨H, I', q⟩
/-- [n], the place's list -/
def tLstAt (t : TA) : TE := fun σ H Q => t σ H fun xs H1 => ∃ j : Nat, xs = [.int (j : Int)] ∧ ∀ p, H1 p = none → Q (.ref p) (upd H1 p (AtO p))
theorem pe_lstAt {es : List Expr} {t : TA} {pos : Pos} (h : PA X es t) : PE X (.List es pos) (tLstAt t) := by
  refine ⟨fun pins s σ H Q I hq => ?_⟩
  refine wpAny_List_spliced (thn (h.run pos pins s σ H _ I hq) fun us s1 ⟨xs, H1, I1, r, j, e, q⟩ => ⟨by rw [← r.length, e]; show 1 ≤ sizeLine; decide, ?_⟩)
  subst e
  have hf : H1 s1.heap.objs.size = none := I1.hok.fresh (Nat.le_refl _)
  obtain ⟨u, eu, ru⟩ : ∃ u, us = [u] ∧ RelV (.int (j : Int)) u := by
    cases r with
    | cons r r2 =>
      cases r2
      exact ⟨_, rfl, r⟩
  subst eu
  obtain ⟨tk, rfl⟩ := ru
  refine ⟨.ref s1.heap.objs.size, upd H1 s1.heap.objs.size (AtO s1.heap.objs.size), I1.laid (t' := s1.toks) (fun b u e => Heap.get?_push_of_some _ e) (Nat.le_refl _) ?_, rfl, q _ hf⟩
  exact atO_ok ⟨j, tk, 0, Heap.get?_push_size _ rfl⟩
end

/-! ### what stays -/
def Gr (H H' : Hp) : Prop := ∀ a xs, Rd H a (.tup xs) → Rd H' a (.tup xs)
theorem Gr.refl (H : Hp) : Gr H H := fun _ _ h => h
theorem Gr.trans {H H1 H2 : Hp} (a : Gr H H1) (b : Gr H1 H2) : Gr H H2 := fun c xs h => b c xs (a c xs h)
theorem Gr.same {H H' : Hp} (e : Same H H') : Gr H H' := fun a xs h => by
  rcases h with h | ⟨o, h⟩
  · exact .inl (e _ _ h)
  · exact .inr ⟨o, e _ _ h⟩
theorem same_new {H : Hp} {p : Addr} {o : HO} (h : H p = none) : Same H (upd H p o) := fun b x e => by
  rw [upd_ne (ne_of_none e h)]
  exact e
theorem Gr.new {H : Hp} {p : Addr} {o : HO} (h : H p = none) : Gr H (upd H p o) := Gr.same (same_new h)
/-- a list is written -/
theorem Gr.lst {H : Hp} {p : Addr} {ys : List V} {o : HO} (h : H p = some (.lst ys)) : Gr H (upd H p o) := fun a xs r => by
  have ne : a ≠ p := fun e => by
    subst e
    rcases r with r | ⟨ob, r⟩ <;> (rw [h] at r; cases r)
  rcases r with r | ⟨ob, r⟩
  · exact .inl (by rw [upd_ne ne]; exact r)
  · exact .inr ⟨ob, by rw [upd_ne ne]; exact r⟩
theorem Gr.t {K : PySem.W.Frag} {H H' : Hp} {a : Addr} {xs : List V} (g : Gr H H') (h : SqT K H a xs) : SqT K H' a xs := by
  rcases h with h | h
  · exact .inl (g _ _ h)
  · exact .inr h
/-- an object that H does not know may change -/
theorem smut {H H' : Hp} {p : Addr} {o : HO} (e : Same H H') (h : H p = none) : Same H (upd H' p o) := fun a u ha => by
  rw [upd_ne (ne_of_none ha h)]
  exact e a u ha

/-! ### data made of tuples: they never change -/
mutual
inductive Tp (K : PySem.W.Frag) (H : Hp) : V → PyData → Prop
  | non : Tp K H .non .none
  | bl (b : Bool) : Tp K H (.bl b) (.bool b)
  | int (i : Int) : Tp K H (.int i) (.int i)
  | str (x : Str) : Tp K H (.str x) (.str x)
  | tup {a : Addr} {xs : List V} {ds : List PyData} : SqT K H a xs → TpAll K H xs ds → Tp K H (.ref a) (.tuple ds)
inductive TpAll (K : PySem.W.Frag) (H : Hp) : List V → List PyData → Prop
  | nil : TpAll K H [] []
  | cons {v : V} {vs : List V} {d : PyData} {ds : List PyData} : Tp K H v d → TpAll K H vs ds → TpAll K H (v :: vs) (d :: ds)
end
section
variable {K : PySem.W.Frag} {H H' : Hp}
mutual
theorem Tp.gr (g : Gr H H') : ∀ (d : PyData) (v : V), Tp K H v d → Tp K H' v d
  | .none, _, h => by
    cases h
    exact .non
  | .bool b, _, h => by
    cases h
    exact .bl b
  | .int i, _, h => by
    cases h
    exact .int i
  | .str x, _, h => by
    cases h
    exact .str x
  | .list ds, _, h => by cases h
  | .dict _, _, h => by cases h
  | .tuple ds, _, h => by
    cases h with
    | tup hs ha => exact .tup (g.t hs) (TpAll.gr g ds _ ha)
theorem TpAll.gr (g : Gr H H') : ∀ (ds : List PyData) (vs : List V), TpAll K H vs ds → TpAll K H' vs ds
  | [], _, h => by
    cases h
    exact .nil
  | d :: ds, _, h => by
    cases h with
    | cons h1 h2 => exact .cons (Tp.gr g d _ h1) (TpAll.gr g ds _ h2)
end
theorem Tp.up {v : V} {d : PyData} (h : Tp K H v d) (g : Gr H H') : Tp K H' v d := Tp.gr g d v h
theorem TpAll.up {vs : List V} {ds : List PyData} (h : TpAll K H vs ds) (g : Gr H H') : TpAll K H' vs ds := TpAll.gr g ds vs h
mutual
theorem Tp.dp' : ∀ (d : PyData) (v : V), Tp K H v d → Dp K H v d
  | .none, _, h => by
    cases h
    exact .non
  | .bool b, _, h => by
    cases h
    exact .bl b
  | .int i, _, h => by
    cases h
    exact .int i
  | .str x, _, h => by
    cases h
    exact .str x
  | .list ds, _, h => by cases h
  | .dict _, _, h => by cases h
  | .tuple ds, _, h => by
    cases h with
    | tup hs ha => exact .tup hs (TpAll.dp' ds _ ha)
theorem TpAll.dp' : ∀ (ds : List PyData) (vs : List V), TpAll K H vs ds → DpAll K H vs ds
  | [], _, h => by
    cases h
    exact .nil
  | d :: ds, _, h => by
    cases h with
    | cons h1 h2 => exact .cons (Tp.dp' d _ h1) (TpAll.dp' ds _ h2)
end
theorem Tp.dp {v : V} {d : PyData} (h : Tp K H v d) : Dp K H v d := Tp.dp' d v h
theorem TpAll.dp {vs : List V} {ds : List PyData} (h : TpAll K H vs ds) : DpAll K H vs ds := TpAll.dp' ds vs h
mutual
theorem Tp.plain' : ∀ (d : PyData) (v : V), Tp K H v d → d.plain = true
  | .none, _, h => rfl
  | .bool b, _, h => rfl
  | .int i, _, h => rfl
  | .str x, _, h => rfl
  | .list ds, _, h => by cases h
  | .dict _, _, h => by cases h
  | .tuple ds, _, h => by
    cases h with
    | tup hs ha =>
      unfold PyData.plain
      exact TpAll.plain' ds _ ha
theorem TpAll.plain' : ∀ (ds : List PyData) (vs : List V), TpAll K H vs ds → PyData.plainAll ds = true
  | [], _, h => rfl
  | d :: ds, _, h => by
    cases h with
    | cons h1 h2 =>
      unfold PyData.plainAll
      rw [Tp.plain' d _ h1, TpAll.plain' ds _ h2]
      rfl
end
theorem TpAll.len {vs : List V} {ds : List PyData} (h : TpAll K H vs ds) : vs.length = ds.length := by
  induction ds generalizing vs with
  | nil => cases h; rfl
  | cons d ds ih =>
    cases h with
    | cons h1 h2 => exact congrArg Nat.succ (ih h2)
theorem TpAll.get {vs : List V} {ds : List PyData} (h : TpAll K H vs ds) {i : Nat} {d : PyData} (e : ds[i]? = some d) : ∃ v, vs[i]? = some v ∧ Tp K H v d := by
  induction ds generalizing vs i with
  | nil => simp at e
  | cons d0 ds ih =>
    cases h with
    | cons h1 h2 =>
      cases i with
      | zero =>
        have e' : d0 = d := Option.some.inj e
        subst e'
        exact ⟨_, rfl, h1⟩
      | succ i => exact ih h2 e
theorem TpAll.at {vs : List V} {ds : List PyData} (h : TpAll K H vs ds) {i : Nat} {v : V} (e : vs[i]? = some v) : ∃ d, ds[i]? = some d ∧ Tp K H v d := by
  induction ds generalizing vs i with
  | nil => cases h; simp at e
  | cons d0 ds ih =>
    cases h with
    | cons h1 h2 =>
      cases i with
      | zero =>
        have e' := Option.some.inj e
        subst e'
        exact ⟨_, rfl, h1⟩
      | succ i => exact ih h2 e
theorem TpAll.app {vs ws : List V} {ds es : List PyData} (h : TpAll K H vs ds) (h' : TpAll K H ws es) : TpAll K H (vs ++ ws) (ds ++ es) := by
  induction ds generalizing vs with
  | nil => cases h; exact h'
  | cons d ds ih =>
    cases h with
    | cons h1 h2 => exact .cons h1 (ih h2)
theorem TpAll.one {v : V} {d : PyData} (h : Tp K H v d) : TpAll K H [v] [d] := .cons h .nil
theorem TpAll.strs (zs : List Str) : TpAll K H (zs.map V.str) (zs.map PyData.str) := by
  induction zs with
  | nil => exact .nil
  | cons z zs ih => exact .cons (.str z) ih
theorem TpAll.strs_of {vs : List V} {zs : List Str} (h : TpAll K H vs (zs.map PyData.str)) : vs = zs.map V.str := by
  induction zs generalizing vs with
  | nil => cases h; rfl
  | cons z zs ih =>
    cases h with
    | cons h1 h2 =>
      cases h1
      rw [ih h2]
      rfl
theorem TpAll.ints (zs : List Int) : TpAll K H (zs.map V.int) (zs.map PyData.int) := by
  induction zs with
  | nil => exact .nil
  | cons z zs ih => exact .cons (.int z) ih
theorem TpAll.ints_of {vs : List V} {zs : List Int} (h : TpAll K H vs (zs.map PyData.int)) : vs = zs.map V.int := by
  induction zs generalizing vs with
  | nil => cases h; rfl
  | cons z zs ih =>
    cases h with
    | cons h1 h2 =>
      cases h1
      rw [ih h2]
      rfl
theorem Tp.str_of {v : V} {z : Str} (h : Tp K H v (.str z)) : v = .str z := by
  cases h
  rfl
theorem Tp.int_of {v : V} {z : Int} (h : Tp K H v (.int z)) : v = .int z := by
  cases h
  rfl
theorem Tp.tup_of {v : V} {ds : List PyData} (h : Tp K H v (.tuple ds)) : ∃ a xs, v = .ref a ∧ SqT K H a xs ∧ TpAll K H xs ds := by
  cases h with
  | tup hs ha => exact ⟨_, _, rfl, hs, ha⟩
theorem TpAll.zip {vs : List V} {ds : List PyData} (h : TpAll K H vs ds) : (vs.zip ds).map (·.1) = vs ∧ (vs.zip ds).map (·.2) = ds ∧ ∀ q ∈ vs.zip ds, Tp K H q.1 q.2 := by
  induction ds generalizing vs with
  | nil =>
    cases h
    exact ⟨rfl, rfl, fun q hq => by simp at hq⟩
  | cons d ds ih =>
    cases h with
    | cons h1 h2 =>
      obtain ⟨e1, e2, e3⟩ := ih h2
      refine ⟨?_, ?_, fun q hq => ?_⟩
      · rw [List.zip_cons_cons, List.map_cons, e1]
      · rw [List.zip_cons_cons, List.map_cons, e2]
      · rw [List.zip_cons_cons] at hq
        rcases List.mem_cons.mp hq with e | hq
        · subst e
          exact h1
        · exact e3 q hq
theorem TpAll.of_all : ∀ {ps : List (V × PyData)}, (∀ q ∈ ps, Tp K H q.1 q.2) → TpAll K H (ps.map (·.1)) (ps.map (·.2))
  | [], _ => .nil
  | p :: ps, h => .cons (h p (List.mem_cons_self ..)) (TpAll.of_all fun q hq => h q (List.mem_cons_of_mem _ hq))
end

/-! ### built-ins over data -/
section
variable {X : Cx}
open PySem.W in
/-- sorted(xs), xs a list of data that are alike -/
def rSortD (K : PySem.W.Frag) : List V → Hp → VK → Prop := fun vs H Q => ∃ (a : Addr) (ps : List (V × PyData)), vs = [V.ref a] ∧ SqL K H a (ps.map (·.1)) ∧ (∀ q ∈ ps, Tp K H q.1 q.2) ∧ AllAlike (ps.map (·.2)) ∧ Sortable (ps.map (·.2)) ∧
  (∀ q ∈ ps, q.2.depth ≤ 50) ∧ ∀ p, H p = none → Q (.ref p) (upd H p (.lst ((ps.mergeSort (dataLe false Prod.snd)).map (·.1))))
open PySem.W in
theorem eachIs_of {K : PySem.W.Frag} {H : Hp} : ∀ {ps : List (V × PyData)} {its : List Value}, Vals (ps.map (·.1)) its → EachIs (fun (u : Value) (q : V × PyData) => RelV q.1 u) its ps
  | [], _, h => by
    cases h
    exact .nil
  | p :: ps, _, h => by
    cases h with
    | cons r t => exact .cons r (eachIs_of (K := K) (H := H) t)
open PySem.W in
theorem vals_of_each : ∀ {ps : List (V × PyData)} {its : List Value}, EachIs (fun (u : Value) (q : V × PyData) => RelV q.1 u) its ps → Vals (ps.map (·.1)) its
  | [], _, h => by
    cases h
    exact .nil
  | p :: ps, _, h => by
    cases h with
    | cons r t => exact .cons r (vals_of_each t)
open PySem.W in
theorem cr_sortD (hu : X.A.units + 64 < cLine) : CallR X (.builtin "sorted") (rSortD X.K) := by
  intro pins s σ H vs us Q I r h
  obtain ⟨a, ps, rfl, hs, ht, hal, hk, hd, q⟩ := h
  obtain ⟨its, rv, hl, hz⟩ := I.list hs
  obtain ⟨u, rfl, ru⟩ := vals1 r
  obtain rfl : u = Value.ref a := ru
  have e1 := eachIs_of (K := X.K) (H := H) rv
  have e2 : EachIs (fun (v : Value) (b : V × PyData) => ∃ as, Reads s.heap v (Prod.snd b) as) its ps := by
    have go : ∀ {ps : List (V × PyData)} {its : List Value}, (∀ q ∈ ps, Tp X.K H q.1 q.2) → EachIs (fun (u : Value) (q : V × PyData) => RelV q.1 u) its ps → EachIs (fun (v : Value) (b : V × PyData) => ∃ as, Reads s.heap v (Prod.snd b) as) its ps := by
      intro ps its hq e
      induction e with
      | nil => exact .nil
      | cons r t ih => exact .cons (Dp.reads I _ _ _ (hq _ (List.mem_cons_self ..)).dp r) (ih fun q hm => hq q (List.mem_cons_of_mem _ hm))
    exact go ht e1
  have hz' : ps.length ≤ sizeLine := by
    rw [List.length_map] at hz
    exact hz
  refine sorted_data (enc := Prod.snd) (R := fun (u : Value) (q : V × PyData) => RelV q.1 u) hl.isList e1 e2 hal hk hz' (fun b hb => by have := hd b hb; omega) fun out hlen hout => ?_
  have hd0 : H (s.heap.objs.size + 1) = none := I.hok.fresh (Nat.le_succ _)
  refine ⟨.ref (s.heap.objs.size + 1), upd H (s.heap.objs.size + 1) (.lst ((ps.mergeSort (dataLe false Prod.snd)).map (·.1))), I.laid (t' := s.toks) (fun b o e => sortedAll_old e) (Nat.le_succ _) ?_, rfl, q _ hd0⟩
  obtain ⟨n, hn⟩ := sortedAll_at s.heap its out.toArray
  exact ⟨by rw [List.length_map, List.length_mergeSort]; exact hz', out, n, vals_of_each hout, hn⟩
/-- x == y, x != y: data of any kind -/
def rEqP (K : PySem.W.Frag) : R2 := fun x y H Q => ∃ d e, Dp K H x d ∧ Dp K H y e ∧ d.plain = true ∧ e.plain = true ∧ d.depth ≤ 50 ∧ Q (.bl (PyData.eqv d e)) H
theorem op_eqP (hu : X.A.units + 64 < cLine) : OpR X (compareOp .Eq) (rEqP X.K) := by
  intro pins s σ H x y v u Q I rx ry h
  obtain ⟨d, e, hd, he, sd, se, hn, q⟩ := h
  obtain ⟨as, r1⟩ := Dp.reads I d x v hd rx
  obtain ⟨bs, r2⟩ := Dp.reads I e y u he ry
  exact PySem.SeqAt.eq_plain r1 r2 sd se (by have := Nat.min_le_left d.depth e.depth; omega) ⟨.bl _, H, I, rfl, q⟩
/-- x not in l: data -/
def rNotInP (K : PySem.W.Frag) : R2 := fun x y H Q => ∃ d ds, Dp K H x d ∧ Dp K H y (.list ds) ∧ d.plain = true ∧ PyData.plainAll ds = true ∧ d.depth ≤ 50 ∧ Q (.bl (!ds.any fun z => PyData.eqv z d)) H
theorem op_notInP (hu : X.A.units + 64 < cLine) : OpR X (compareOp .NotIn) (rNotInP X.K) := by
  intro pins s σ H x y v u Q I rx ry h
  obtain ⟨d, ds, hd, he, sd, se, hn, q⟩ := h
  obtain ⟨as, r1⟩ := Dp.reads I d x v hd rx
  obtain ⟨bs, r2⟩ := Dp.reads I (.list ds) y u he ry
  exact PySem.SeqAt.notIn_list_data r2 r1 se sd (by have := Nat.min_le_right (PyData.depthAll ds) d.depth; omega) ⟨.bl _, H, I, rfl, q⟩
/-- min(a, b, c) of three numbers -/
theorem call_min3 (hc : X.calm = true) : CallR X (.builtin "min") (fun xs H Q => ∃ i j k, xs = [.int i, .int j, .int k] ∧ Q (.int (min i (min j k))) H) := by
  intro pins s σ H xs us Q I r h
  obtain ⟨i, j, k, rfl, q⟩ := h
  obtain ⟨u, v, w', rfl, ⟨t, rfl⟩, ⟨t', rfl⟩, ⟨t2, rfl⟩⟩ : ∃ u v w, us = [u, v, w] ∧ RelV (.int i) u ∧ RelV (.int j) v ∧ RelV (.int k) w := by
    cases r with
    | cons a r =>
      cases r with
      | cons b r =>
        cases r with
        | cons c r =>
          cases r
          exact ⟨_, _, _, rfl, a, b, c⟩
  refine min_three_ints (I.ok.hd hc) fun h' tk kk => ⟨_, H, I.kept kk, ?_, q⟩
  by_cases h1 : j < i
  · rw [if_pos h1]
    by_cases h2 : k < j
    · rw [if_pos h2, show min i (min j k) = k by omega]
      exact ⟨_, rfl⟩
    · rw [if_neg h2, show min i (min j k) = j by omega]
      exact ⟨_, rfl⟩
  · rw [if_neg h1]
    by_cases h2 : k < i
    · rw [if_pos h2, show min i (min j k) = k by omega]
      exact ⟨_, rfl⟩
    · rw [if_neg h2, show min i (min j k) = i by omega]
      exact ⟨_, rfl⟩
end
end KB
set_option Elab.async false
set_option linter.all false
set_option maxRecDepth 100000
set_option maxHeartbeats 4000000
namespace KB
open PySem PySem.Spec PyProof.Rows L2

/-! ### max of two data -/
section
open PySem.W
variable {prog : Program} {w : World} {A : Around} {E : Value → Shared → Prop} {s : Shared}
theorem call_max_twoH {a b : Value} {Q : Value → Shared → Prop}
    (h : wpAny (model prog w) A.in1 (pyIter (.ref s.heap.objs.size)) (fun it s₂ => ∃ I fp wr G n P St H bt, it = .ref I ∧ WalksS prog w A.in1 I fp wr G n P St ∧ St 0 s₂ ∧ (∀ b ∈ fp, b < s₂.heap.objs.size) ∧ 0 < n ∧
      (∀ b o, H.get? b = some o → b ∉ wr) ∧ (∀ b o, H.get? b = some o → s₂.heap.get? b = some o) ∧ CmpIn prog w A.in1 .Gt H P bt ∧ ∀ v s', P (argBest bt (n - 1)) v → Moved wr G s₂ s' → Q v s') E
      { s with heap := s.heap.push { cls := .type "tuple", data := .seq #[a, b] } }) :
    wpAny (model prog w) A (call (.builtin "max") [a, b]) Q E s := by
  have hname : (toString "max" ++ toString ".loop" : String) = "max.loop" := by decide
  refine call_function_tree F.kind_max F.plain_max F.entry_max (F.args_max2 _ _) ?_
  show wpAny _ A.in1 (Builtin.Builtins.bindParams "max" ["key", "default"] 0 ⟨[], []⟩ >>= _) _ _ s
  refine wpAny_bind (wpAny_of_eq (show Builtin.Builtins.bindParams "max" ["key", "default"] 0 ⟨[], []⟩ = pure [none, none] from rfl) ?_)
  show wpAny _ A.in1 (newTuple [a, b] >>= _) _ _ s
  refine wpAny_bind (wpAny_newObj_type ?_)
  refine wpAny_bind (wpAny_mono h (fun it s₂ h₂ => ?_) fun _ _ e => e)
  obtain ⟨I, fp, wr, G, n, P, St, H, bt, rfl, W, hst, hfp, hn, hw, hkeep, hcmp, hQ⟩ := h₂
  refine wpAny_bind (wpAny_newObj_type ?_)
  have hSf : s₂.heap.objs.size ∉ fp := fun hm => Nat.lt_irrefl _ (hfp _ hm)
  rw [hname]
  refine wpAny_pure ⟨plainId_quiet F.plain_max_loop _, codeAny_max_loop_firstH W H hw bt hcmp s₂.heap.objs.size hSf (fresh_in hkeep) _ hn (fun b o e => Heap.get?_push_of_some _ (hkeep b o e)) (W.frame 0 s₂ _ s₂.toks hst (Nat.le_refl _) fun b _ o e => Heap.get?_push_of_some _ e) (Heap.get?_push_size _ rfl) fun v s' hP hm => ?_⟩
  exact hQ v s' hP (Moved.drop_new (tk := s₂.toks) hm (Nat.le_refl _))
/-- max(x, y), x and y alike: one of them -/
theorem max_two_data {u v : Value} {d e : PyData} {as bs : List Addr} {Q : Value → Shared → Prop} (hh : A.handled = none) (ru : Reads s.heap u d as) (rv : Reads s.heap v e bs) (h1 : alike d e = true) (h2 : alike e d = true) (h3 : alike d d = true) (h4 : alike e e = true)
    (nd : d ≠ .none) (ne : e ≠ .none) (hu : A.units + 1 + max d.depth e.depth < cLine)
    (h : ∀ (x : Value) h' tk, x = u ∨ x = v → (∀ b o, s.heap.get? b = some o → h'.get? b = some o) → Q x { s with heap := h', toks := tk }) :
    wpAny (model prog w) A (call (.builtin "max") [u, v]) Q E s := by
  have hT : (s.heap.push { cls := .type "tuple", data := .seq #[u, v] }).IsTuple s.heap.objs.size #[u, v] := ⟨_, Heap.get?_push_size _ rfl, rfl, 0, rfl⟩
  have old : ∀ b o, s.heap.get? b = some o → (s.heap.push { cls := .type "tuple", data := .seq #[u, v] }).get? b = some o := fun b o q => Heap.get?_push_of_some _ q
  have hr : ReadsAll (s.heap.push { cls := .type "tuple", data := .seq #[u, v] }) (#[u, v] : Array Value).toList [d, e] (as ++ (bs ++ [])) := by
    exact ReadsAll.cons (Reads.keeps old ru) (ReadsAll.cons (Reads.keeps old rv) ReadsAll.nil)
  have ha : AlikeAll [d, e] := by
    refine ⟨fun x hx y hy => ?_, fun x hx => ?_⟩
    · rcases List.mem_cons.mp hx with rfl | hx
      · rcases List.mem_cons.mp hy with rfl | hy
        · exact h3
        · rcases List.mem_cons.mp hy with rfl | hy
          · exact h1
          · cases hy
      · rcases List.mem_cons.mp hx with rfl | hx
        · rcases List.mem_cons.mp hy with rfl | hy
          · exact h2
          · rcases List.mem_cons.mp hy with rfl | hy
            · exact h4
            · cases hy
        · cases hx
    · rcases List.mem_cons.mp hx with rfl | hx
      · exact nd
      · rcases List.mem_cons.mp hx with rfl | hx
        · exact ne
        · cases hx
  have hdp : PyData.depthAll [d, e] = max d.depth e.depth := by
    simp [PyData.depthAll]
  refine call_max_twoH (iter_tupleW (A := A.in1) (s := { s with heap := s.heap.push { cls := .type "tuple", data := .seq #[u, v] } }) hh hT fun s₂ e2 W st hfp hw hk => ?_)
  refine ⟨_, _, _, _, _, _, _, s.heap.push { cls := .type "tuple", data := .seq #[u, v] }, _, rfl, W, st, hfp, (by decide : 0 < 2), hw, hk, cmpIn_gt (A := A.in1) (s := { s with heap := s.heap.push { cls := .type "tuple", data := .seq #[u, v] } }) hr ha (by rw [hdp]; exact hu), fun x s' hP m => ?_⟩
  obtain ⟨h', tk, rfl, hk'⟩ := moved_old e2 rfl m
  have hx : x = u ∨ x = v := by
    generalize argBest _ _ = k at hP
    match k, hP with
    | 0, hP => exact .inl (Option.some.inj hP).symm
    | 1, hP => exact .inr (Option.some.inj hP).symm
    | k + 2, hP => simp at hP
  exact h x h' tk hx fun b o q => hk' b o (old b o q)
end
section
variable {X : Cx}
open PySem.W in
def rMaxD2 (K : PySem.W.Frag) : List V → Hp → VK → Prop := fun vs H Q => ∃ x y d e, vs = [x, y] ∧ Tp K H x d ∧ Tp K H y e ∧ (alike d e = true ∧ alike e d = true ∧ alike d d = true ∧ alike e e = true) ∧ d ≠ .none ∧ e ≠ .none ∧ (d.depth ≤ 50 ∧ e.depth ≤ 50) ∧ Q x H ∧ Q y H
theorem cr_maxD2 (hc : X.calm = true) (hu : X.A.units + 64 < cLine) : CallR X (.builtin "max") (rMaxD2 X.K) := by
  intro pins s σ H vs us Q I r h
  obtain ⟨x, y, d, e, rfl, hx, hy, ⟨a1, a2, a3, a4⟩, nd, ne, ⟨b1, b2⟩, q1, q2⟩ := h
  obtain ⟨u, v, rfl, ru, rv⟩ := vals2 r
  obtain ⟨as, r1⟩ := Dp.reads I d x u hx.dp ru
  obtain ⟨bs, r2⟩ := Dp.reads I e y v hy.dp rv
  refine max_two_data (I.ok.hd hc) r1 r2 a1 a2 a3 a4 nd ne (by omega) fun z h' tk hz k => ?_
  rcases hz with rfl | rfl
  · exact ⟨x, H, I.kept k, ru, q1⟩
  · exact ⟨y, H, I.kept k, rv, q2⟩
end
end KB
set_option Elab.async false
set_option linter.all false
set_option maxRecDepth 100000
set_option maxHeartbeats 4000000
/-! {(a, b): v for ..}: the dict comprehension whose keys are tuples (turned from the layer's one for plain keys) -/
namespace KB
open PySem PySem.Spec PyProof.Rows L2
theorem d_dictSetT {X : Cx} {pins : List (Addr × Obj)} {σ : L2.St} {H : Hp} {s : Shared} {E : Value → Shared → Prop} {D b : Addr} {kvs : List (List Key × V)} {k : List Key} {v : V} {u r : Value} {Q : Unit → Shared → Prop} (hu : X.A.units + 1 < cLine) (I : Inv X pins σ H s) (e : H D = some (.dT kvs)) (eb : H b = some (.tup (k.map kV)))
    (l : kvs.length < sizeLine) (ry : RelV (.ref b) u) (rv : RelV v r) (h : ∀ s', Inv X pins σ (upd H D (.dT (putK kvs k v))) s' → Q () s') : wpAny (model X.prog X.w) X.A (dictSet D u r) Q E s := by
  cases (show u = Value.ref b from ry)
  obtain ⟨z, hd, xs, rel, dd⟩ := dt_of I.hok e
  have hz : xs.length ≤ sizeLine := by rw [← Paired.length rel]; exact z
  have hl : (putK kvs k v).length ≤ sizeLine := by have := length_putK kvs k v; omega
  refine wpAny_dictSet_heap (hsz := hz) (show (tupleKind (mixKind X.prog X.w)).room X.A from Nat.lt_of_succ_lt hu) (key_of I.hok eb) dd fun h' dd' hs => h _ ?_
  obtain ⟨q, es, ep, hq, h2, h3, h4, _, h5⟩ := dd'
  refine d_write I (by rw [e]; exact True.intro) hs ⟨q, hq⟩ ⟨hl, hd, _, (rel.put k eb rv).keeps fun c ys ec => ?_, q, es, ep, hq, h2, h3, h4, h5⟩
  rw [upd_ne (ne_of ec e (fun z => nomatch z))]
  exact ec
section
variable {X : Cx}
def tDcT (wi : TI) (g : TG) (tt : TT) (tk tv : TE) (vs : List Nat) : TE := fun σ H Q => wi σ H fun J H1 => ∀ D, H1 D = none → ∃ W : Nat → Nat → Hp → Prop, (∃ m, W 0 m (upd H1 D (.dT []))) ∧ ∀ i m H, W i m H →
  (J.stop i H ∧ Q (.ref D) H) ∨ (J.go i H ∧ ∃ Nx : Hp → Prop, (∀ H', Nx H' → ∃ m', m' < m ∧ W (i + 1) m' H') ∧ ∀ x H', J.yld i H x H' → g x (wipe σ vs) H' fun σ2 H2 => wipe σ2 vs = wipe σ vs ∧ tt σ2 H2 fun b H3 =>
    if b = true then tk σ2 H3 fun y H4 => tv σ2 H4 fun z H5 => ∃ kvs k b, y = .ref b ∧ H5 b = some (.tup (k.map kV)) ∧ H5 D = some (.dT kvs) ∧ kvs.length < sizeLine ∧ Nx (upd H5 D (.dT (putK kvs k z))) else Nx H3)
theorem dcT_core {pins : List (Addr × Obj)} {s : Shared} {σ : L2.St} {H : Hp} {Q : VK} {kx vx tg iter : Expr} {ifs : List Expr} {scope : Scope} {own : List (Str × Nat)} {pos pos' : Pos} {wi : TI} {g : TG} {tt : TT} {tk tv : TE} {use : Option (Value → Sem Unit)} {Qf : Value → Shared → Prop}
    (hu : X.A.units + 1 < cLine) (hc : X.calm = true) (hN : X.N.Nodup) (I : Inv X pins σ H s) (hi : PI X tg iter wi) (ok : BlkOk X.N X.env.scope scope own)
    (hg : ∀ (s : Shared) (H : Hp) (C : Addr) (cl : List (Str × Addr)) (fp : List Addr), PG (X.blk s H scope (compEnvC scope cl C X.env) fp) tg g) (ht : ∀ (s : Shared) (H : Hp) (C : Addr) (cl : List (Str × Addr)) (fp : List Addr), PTs (X.blk s H scope (compEnvC scope cl C X.env) fp) ifs tt)
    (hk : ∀ (s : Shared) (H : Hp) (C : Addr) (cl : List (Str × Addr)) (fp : List Addr), PE (X.blk s H scope (compEnvC scope cl C X.env) fp) kx tk)
    (he : ∀ (s : Shared) (H : Hp) (C : Addr) (cl : List (Str × Addr)) (fp : List Addr), PE (X.blk s H scope (compEnvC scope cl C X.env) fp) vx tv) (hs : ∀ x, foldedSetIterable iter X.env x = pure x)
    (h : tDcT wi g tt tk tv (own.map (·.2)) σ H Q)
    (hRR : ∀ D C s' m H', Inv X pins σ H' s' → Q (.ref D) H' → s'.heap.Ns C m → FpOk X pins H' C → compPost (model X.prog X.w) X.A X.xe use Qf (.ref D) C (.ok .next) s') :
    wpAny (model X.prog X.w) X.A (comprehension (.DictComp kx vx [⟨tg, iter, ifs, 0⟩] scope pos) scope X.env pos' newDict false (eval iter X.env) use) Qf X.xe s := by
  have hfree : ∀ y ∈ scope.names, y.2 = .free → ∃ c, X.env.cells.lookup y.1 = some c := fun y hy e => by
    rcases ok.free y hy e with k | k
    · exact I.ok.has _ (.inl k)
    · exact I.ok.has _ (.inr k)
  refine wpAny_comprehension_free (use := use) rfl hs (closure_ok hfree) ok.kind (fun y hy e => by rw [ok.uniq y hy, e])
    (thn (hi.run pins s σ H _ I h) fun xv s1 hx => thn hx fun itv s2 h2 => ?_)
  obtain ⟨it, fp, tn, J, H2, e, I2, T, st2, f2, q⟩ := h2
  subst e
  refine wpAny_newObj_type (newEnv_comp ?_)
  generalize hD : s2.heap.objs.size = D
  have hDn : H2 D = none := I2.hok.fresh (Nat.le_of_eq hD)
  obtain ⟨W, ⟨m0, w0⟩, turn⟩ := q D hDn
  -- the new list
  generalize hs3 : ({ s2 with heap := s2.heap.push { cls := .type "dict", data := .dict #[] } } : Shared) = s3
  have I3 : Inv X pins σ (upd H2 D (.dT [])) s3 := by
    rw [← hs3]
    refine I2.laid (t' := s2.toks) (fun b o e => Heap.get?_push_of_some _ e) (Nat.le_of_eq hD) ?_
    rw [← hD]
    exact dt_empty s2.heap I2.big
  have h3 : s3.heap = s2.heap.push { cls := .type "dict", data := .dict #[] } := by rw [← hs3]
  have sz : ∀ b ∈ fp, b < s2.heap.objs.size := fun b hb => by
    obtain ⟨o, e, _⟩ := T.obj _ _ st2 b hb
    exact Heap.lt_size e
  have f3 : ∀ b ∈ fp, FpOk X pins (upd H2 D (.dT [])) b ∧ b < s3.heap.objs.size := fun b hb => by
    have hlt := sz b hb
    refine ⟨⟨?_, (f2 b hb).2⟩, by rw [h3, Heap.size_push]; exact Nat.lt_succ_of_lt hlt⟩
    rw [upd_ne (by rw [← hD]; exact Nat.ne_of_lt hlt)]
    exact (f2 b hb).1
  have st3 : tn 0 s3.heap := T.keep _ _ _ st2 fun b _ o e => by rw [h3]; exact Heap.get?_push_of_some _ e
  have I4 := block_start I3 ok hN f3
  have pg := hg s3 (upd H2 D (.dT [])) s3.heap.objs.size (cellsFrom (s3.heap.objs.size + 1) scope.names (cloFrom X.env.cells scope.names [])) fp
  have pt := ht s3 (upd H2 D (.dT [])) s3.heap.objs.size (cellsFrom (s3.heap.objs.size + 1) scope.names (cloFrom X.env.cells scope.names [])) fp
  have pk := hk s3 (upd H2 D (.dT [])) s3.heap.objs.size (cellsFrom (s3.heap.objs.size + 1) scope.names (cloFrom X.env.cells scope.names [])) fp
  have pe := he s3 (upd H2 D (.dT [])) s3.heap.objs.size (cellsFrom (s3.heap.objs.size + 1) scope.names (cloFrom X.env.cells scope.names [])) fp
  show codeAny _ _ (.compStart (.DictComp kx vx [⟨tg, iter, ifs, 0⟩] scope pos) 0 (.ref it) (.ref D) (compEnvC scope (cellsFrom (s3.heap.objs.size + 1) scope.names (cloFrom X.env.cells scope.names [])) s3.heap.objs.size X.env)) (compPost (model X.prog X.w) X.A X.xe use Qf (.ref D) s3.heap.objs.size) { s3 with heap := pushCells (s3.heap.push { cls := .type "dict", data := .dict #[] }) scope.names }
  have nfp : ∀ b ∈ fp, (upd H2 D (.dT [])) b = none := fun b hb => (f3 b hb).1.1
  generalize hce : compEnvC scope (cellsFrom (s3.heap.objs.size + 1) scope.names (cloFrom X.env.cells scope.names [])) s3.heap.objs.size X.env = ce at I4 pg pt pk pe ⊢
  have cL : ce.locals = s3.heap.objs.size := by subst hce; rfl
  generalize hH3 : upd H2 D (.dT []) = H3 at I3 I4 pg pt pk pe w0 nfp f3
  generalize hs4 : ({ s3 with heap := pushCells (s3.heap.push { cls := .type "dict", data := .dict #[] }) scope.names } : Shared) = s4 at I4 ⊢
  have st4 : tn 0 s4.heap := T.keep _ _ _ st3 fun b _ o e => by rw [← hs4]; exact pushCells_keeps _ _ _ _ (Heap.get?_push_of_some _ e)
  have stat : ∀ {σ' : L2.St} {H' : Hp} {s' : Shared}, Inv (X.blk s3 H3 scope ce fp) [] σ' H' s' → (∀ b ∈ fp, H' b = none) → ∀ b ∈ fp, FpOk (X.blk s3 H3 scope ce fp) [] H' b := fun {σ' H' s'} I' hn b hb =>
    ⟨hn b hb, (I'.ok.exf b hb).1, I'.ok.exfs b hb, .inl hb, fun x c e => (I'.ok.exf b hb).2 x c e, fun p hp => absurd (show p ∈ ([] : List (Addr × Obj)) ++ [] from hp) (by simp)⟩
  have loop : codeAny (model X.prog X.w) X.A (.compLoop (.DictComp kx vx [⟨tg, iter, ifs, 0⟩] scope pos) 0 (.ref it) (.ref D) ce) (compPost (model X.prog X.w) X.A X.xe use Qf (.ref D) s3.heap.objs.size) s4 := by
    refine compLoop_anyD (fun n s' => ∃ i H', Inv (X.blk s3 H3 scope ce fp) [] (wipe σ (own.map (·.2))) H' s' ∧ tn i s'.heap ∧ (∀ b ∈ fp, H' b = none) ∧ W i n H') ?_ m0 ⟨0, H3, I4, st4, nfp, w0⟩
    rintro n s5 ⟨i, H5, I5, st5, n5, w5⟩
    rcases turn i n H5 w5 with ⟨stop, qq⟩ | ⟨go, Nx, hNx, step⟩
    · have td := T.done (X.blk s3 H3 scope ce fp) rfl rfl rfl hc i [] s5 _ H5 (fun _ _ => False) I5 (stat I5 n5) st5 stop
      refine thnF td fun r s6 ⟨hr, I6⟩ => ?_
      subst hr
      -- back in the def's context
      have I7 : Inv X pins σ H5 s6 := I3.call' (ch := fp) I6.os I6.base I6.hok I6.bare fun b hb => ⟨(f3 b hb).1.2.2.2.1, (f3 b hb).1.2.1, (f3 b hb).1.2.2.2.2.1, (f3 b hb).1.2.2.2.2.2⟩
      have nC : H5 s3.heap.objs.size = none := by
        have z : H5 ce.locals = none := I6.free
        rw [cL] at z
        exact z
      obtain ⟨m, hn, _⟩ := I6.loc
      have hn : s6.heap.Ns ce.locals m := hn
      rw [cL] at hn
      exact hRR D s3.heap.objs.size s6 m H5 I7 qq hn (I3.fpOk (Nat.le_refl _) nC)
    · have ti := T.item (X.blk s3 H3 scope ce fp) rfl rfl rfl hc i [] s5 _ H5 (fun _ _ => False) I5 (stat I5 n5) st5 go
      refine thnF ti fun r s6 ⟨u, hr, h6⟩ => ?_
      subst hr
      refine thnF h6 fun _ s7 ⟨x, H7, I7, r7, y7, st7, n7⟩ => ?_
      have I7' := I7.pinned (stat I7 n7) (T.obj _ _ st7)
      refine thnF (pg.run _ s7 _ H7 x u _ I7' r7 (step x H7 y7)) fun _ s8 ⟨σ8, H8, I8, hw8, q8⟩ => ?_
      refine thnF (pt.run _ s8 σ8 H8 _ I8 q8) fun b s9 ⟨H9, I9, q9⟩ => ?_
      -- the turn's end
      have fin : ∀ {s' : Shared} {H' : Hp}, Inv (X.blk s3 H3 scope ce fp) ([] ++ pinsAt fp s7.heap) σ8 H' s' → Nx H' → ∃ m, m < n ∧ ∃ i H', Inv (X.blk s3 H3 scope ce fp) [] (wipe σ (own.map (·.2))) H' s' ∧ tn i s'.heap ∧ (∀ b ∈ fp, H' b = none) ∧ W i m H' := fun {s' H'} I' nx => by
        obtain ⟨m', hm, w'⟩ := hNx H' nx
        have pin' : ∀ b ∈ fp, ∀ o, s7.heap.get? b = some o → s'.heap.get? b = some o ∧ H' b = none := fun b hb o e =>
          let z := I'.pin (b, o) (List.mem_append_right _ (List.mem_append_right _ (mem_pinsAt hb e)))
          ⟨z.1, z.2.1⟩
        have hl : (wipe σ (own.map (·.2))).length = σ8.length := by rw [← hw8, wipe_length]
        refine ⟨m', hm, i + 1, H', (I'.unpinned (pins := [])).weak hl (fun j v e => ?_), T.keep _ _ _ st7 fun b hb o e => (pin' b hb o e).1, fun b hb => ?_, w'⟩
        · rw [← hw8] at e
          exact (wipe_some e).1
        · obtain ⟨o, e, _⟩ := T.obj _ _ st7 b hb
          exact (pin' b hb o e).2
      cases b with
      | false =>
        simp only [Bool.false_eq_true, if_false] at q9 ⊢
        exact fin I9 q9
      | true =>
        simp only [if_true] at q9 ⊢
        refine thnF (pk.run _ s9 σ8 H9 _ I9 q9) fun z s10 ⟨yk, H10, I10, r10, q10⟩ => ?_
        refine thnF (pe.run _ s10 σ8 H10 _ I10 q10) fun z2 s11 ⟨yv, H11, I11, r11, kvs, k, b, ek, eb, hD11, hz11, nx⟩ => ?_
        subst ek
        exact d_dictSetT (X := X.blk s3 H3 scope ce fp) hu I11 hD11 eb hz11 r10 r11 fun s12 I12 => fin I12 nx
  exact codeAny_compStart_dict loop (T.self X.A 0 _ _ _ st4 loop)
/-- as a value -/
theorem pe_dcT {kx vx tg iter : Expr} {ifs : List Expr} {scope : Scope} {own : List (Str × Nat)} {pos : Pos} {wi : TI} {g : TG} {tt : TT} {tk tv : TE} (hu : X.A.units + 1 < cLine) (hc : X.calm = true) (hN : X.N.Nodup) (hi : PI X tg iter wi) (ok : BlkOk X.N X.env.scope scope own)
    (hg : ∀ (s : Shared) (H : Hp) (C : Addr) (cl : List (Str × Addr)) (fp : List Addr), PG (X.blk s H scope (compEnvC scope cl C X.env) fp) tg g) (ht : ∀ (s : Shared) (H : Hp) (C : Addr) (cl : List (Str × Addr)) (fp : List Addr), PTs (X.blk s H scope (compEnvC scope cl C X.env) fp) ifs tt)
    (hk : ∀ (s : Shared) (H : Hp) (C : Addr) (cl : List (Str × Addr)) (fp : List Addr), PE (X.blk s H scope (compEnvC scope cl C X.env) fp) kx tk)
    (he : ∀ (s : Shared) (H : Hp) (C : Addr) (cl : List (Str × Addr)) (fp : List Addr), PE (X.blk s H scope (compEnvC scope cl C X.env) fp) vx tv) (hs : ∀ x, foldedSetIterable iter X.env x = pure x := by intro _; rfl) :
    PE X (.DictComp kx vx [⟨tg, iter, ifs, 0⟩] scope pos) (tDcT wi g tt tk tv (own.map (·.2))) := by
  refine ⟨fun pins s σ H Q I h => ?_⟩
  rw [arm_eval_DictComp]
  refine dcT_core hu hc hN I hi ok hg ht hk he hs h fun D C s' m H' I' q hn f => ⟨m, hn, fun h'' sb => ?_⟩
  obtain ⟨f0, f1, f2, f3, f4, f5⟩ := f
  exact ⟨.ref D, H', I'.turned (t' := s'.toks) (fun b o hb e => (sb.2 b hb).trans e) f0 f1 f3 f4 f5, rfl, q⟩
end
end KB
set_option Elab.async false
set_option linter.all false
set_option maxRecDepth 100000
set_option maxHeartbeats 4000000
/-! enumerate(t) of a tuple; tuple(list) kept as the very object; dict(t) of such a tuple of pairs -/
namespace PySem
set_option maxHeartbeats 1000000 in
theorem kb_meets_enum_tup (a : Addr) (items : Array Value) :
    Meets (Builtin.«enumerate.__new__» ⟨[.type "enumerate", .ref a], []⟩) (fun _ R s => s.heap.IsTuple a items ∧
      R (.ok (.ret (.ref (s.heap.push { cls := .type "tuple_iterator", data := .fields #[.ref a, .int 0 0] }).objs.size)))
        { s with heap := (s.heap.push { cls := .type "tuple_iterator", data := .fields #[.ref a, .int 0 0] }).push { cls := .type "enumerate", data := .fields #[.none, .bool false, .ref s.heap.objs.size, rawInt 0, .none, .none] } }) :=
  .of_wp fun prog w A R s ⟨ht, h⟩ => by
    obtain ⟨hp, g, d, tk, os⟩ := s
    have hsub := sub_enumerate
    wp_walk
    refine wpAny_stack_any fun st => wpAny_pure ?_
    split
    · rename_i c _ _ _ _ _
      cases (c == Value.type "enumerate")
      · wp_walk using wpAny_pyIter_tuple ht
        exact ⟨_, rfl, h⟩
      · wp_walk using wpAny_pyIter_tuple ht
        exact ⟨_, rfl, h⟩
    · wp_walk using wpAny_pyIter_tuple ht
      exact ⟨_, rfl, h⟩
section
variable {prog : Program} {w : World} {A : Around} {E : Value → Shared → Prop} {s : Shared}
theorem kb_call_enum_tup {a : Addr} {items : Array Value} {Q : Value → Shared → Prop} (ht : s.heap.IsTuple a items)
    (h : ∀ h', IsEnum h' (s.heap.objs.size + 1) s.heap.objs.size 0 .none → h'.IsTupleIter s.heap.objs.size a 0 → h'.objs.size = s.heap.objs.size + 2 →
      (∀ b o, s.heap.get? b = some o → h'.get? b = some o) → Q (.ref (s.heap.objs.size + 1)) { s with heap := h' }) :
    wpAny (model prog w) A (call (.type "enumerate") [.ref a]) Q E s := by
  refine callType_new F.called_enumerate (by decide) (F.typeCall_enumerate_1 _) (F.newCall_enumerate_1 _) (fun obj => F.args_object_init_2 obj _) F.entry_enumerate_new (kb_meets_enum_tup a items) ⟨ht, ?_⟩
  generalize hi : ({ cls := .type "tuple_iterator", data := .fields #[.ref a, .int 0 0] } : Obj) = oi
  have fi : oi.isFreed = false := by rw [← hi]; rfl
  have hz : (s.heap.push oi).objs.size = s.heap.objs.size + 1 := Heap.size_push ..
  show _ ∧ _
  rw [hz]
  generalize ho : ({ cls := .type "enumerate", data := .fields #[.none, .bool false, .ref s.heap.objs.size, rawInt 0, .none, .none] } : Obj) = oe
  have fe : oe.isFreed = false := by rw [← ho]; rfl
  have he : ((s.heap.push oi).push oe).get? (s.heap.objs.size + 1) = some oe := by
    have q := Heap.get?_push_size (s.heap.push oi) fe
    rw [hz] at q
    exact q
  subst ho
  subst hi
  exact ⟨⟨_, he, rfl⟩, h _ he ⟨_, Heap.get?_push_of_some _ (Heap.get?_push_size _ fi), rfl, rfl⟩ (by rw [Heap.size_push, hz]) fun b o x => Heap.get?_push_of_some _ (Heap.get?_push_of_some _ x)⟩
end
end PySem
namespace KB
open PySem PySem.Spec PyProof.Rows L2
/-- the tuple at a, each item with its place in a new pair -/
def IteT (K : PySem.W.Frag) (a : Addr) : It :=
  ⟨fun i H => ∃ (xs : List V) (x : V), SqT K H a xs ∧ xs[i]? = some x, fun i H v H' => ∃ T x, v = .ref T ∧ H T = none ∧ H' = upd H T (.tup [.int (i : Nat), x]) ∧ ∀ xs, SqT K H a xs → xs[i]? = some x, fun i H => ∃ xs : List V, SqT K H a xs ∧ xs.length = i⟩
theorem tup_ne {h : Heap} {a it : Addr} {items : Array Value} {i : Nat} (ht : h.IsTuple a items) (hi : h.IsTupleIter it a i) : a ≠ it := fun z => by
  subst z
  obtain ⟨o, e1, c1, _⟩ := ht
  obtain ⟨o', e2, c2, _⟩ := hi
  rw [e1] at e2
  cases e2
  rw [c1] at c2
  exact absurd (Value.type.inj c2) (by decide)
theorem tup_neE {h : Heap} {a e it : Addr} {items : Array Value} {i : Int} {old : Value} (ht : h.IsTuple a items) (he : IsEnum h e it i old) : a ≠ e := fun z => by
  subst z
  obtain ⟨o, e1, c1, _⟩ := ht
  have e2 : h.get? a = some { cls := .type "enumerate", data := .fields #[.none, .bool false, .ref it, rawInt i, .none, old] } := he
  rw [e1] at e2
  cases e2
  exact absurd (Value.type.inj c1) (by decide)
theorem turn_enumT {P : Program} {w : World} {K : PySem.W.Frag} {elts : List Expr} {kk : Nat} {tpos : Pos} (a e it : Addr) :
    Turn P w K (.Tuple elts kk tpos) (IteT K a) [e, it] e (fun i h => (∃ old, IsEnum h e it ((i : Nat) : Int) old) ∧ h.IsTupleIter it a i ∧ e ≠ it) where
  mem := by simp
  obj := fun i h st b hb => by
    obtain ⟨⟨old, he⟩, ⟨o, ho, hc, hd⟩, _⟩ := st
    have e' : b = e ∨ b = it := by simpa using hb
    rcases e' with z | z
    · rw [z]; exact ⟨_, he, fun v q => nomatch q⟩
    · rw [z]; exact ⟨o, ho, fun v q => by rw [hd] at q; cases q⟩
  keep := fun i h h' st k => by
    obtain ⟨⟨old, he⟩, hi, hne⟩ := st
    exact ⟨⟨old, k e (by simp) _ he⟩, hi.at fun o q => k it (by simp) o q, hne⟩
  item := by
    intro X hP hw hK hc i pins s σ H E I hf st hg
    subst hP hw hK
    obtain ⟨⟨old, he⟩, hit, hne⟩ := st
    obtain ⟨xs, x, hq, hx⟩ := hg
    obtain ⟨its, rv, p, hz⟩ := I.tuple hq
    have ht : s.heap.IsTuple a its.toArray := p
    have hel : e < s.heap.objs.size := Heap.lt_size he
    have hil : it < s.heap.objs.size := by obtain ⟨_, q, _⟩ := hit; exact Heap.lt_size q
    have n1 := tup_ne ht hit
    have n2 := tup_neE ht he
    have hl := rv.length
    have hlt : i < its.toArray.size := by
      have := (List.getElem?_eq_some_iff.mp hx).1
      rw [List.size_toArray]
      omega
    refine wpAny_pyNext_enum_itemD (Draws.tuple (A := X.A.in1) (I.ok.hd hc) it a n1 its.toArray) he ⟨hit, ht⟩ hlt hne (by simp [hne, Ne.symm n2]) fun u h' tk hu ho hst hT hsz hk => ?_
    obtain ⟨hit', ht'⟩ := hst
    have ru : RelV x u := by
      obtain ⟨u', eu, ru⟩ := rv.get hx
      have e1 : its[i]? = some u := by simpa using hu
      rw [eu] at e1
      cases e1
      exact ru
    refine ⟨_, rfl, wpAny_letOwnedTupleGo_enum (s := { s with heap := h', toks := tk + 1 }) ho fun h'' he' sb => ?_⟩
    have hT2 : h''.get? s.heap.objs.size = some { cls := .type "tuple", data := .seq #[.int i tk, u] } := (sb.2 _ (Nat.ne_of_gt hel)).trans hT
    have new : ObjOk X.prog X.w (upd H s.heap.objs.size (.tup [.int (i : Nat), x])) h'' s.heap.objs.size (.tup [.int (i : Nat), x]) :=
      ⟨by show 2 ≤ sizeLine; decide, [.int i tk, u], .cons ⟨_, rfl⟩ (.cons ru .nil), ⟨_, hT2, rfl, _, rfl⟩⟩
    have I1 : Inv X pins σ (upd H s.heap.objs.size (.tup [.int (i : Nat), x])) { s with heap := h'', toks := tk + 1 } :=
      I.turnedNew (ch := [e, it]) (fun b ob hb q => (sb.2 b (fun z => hb (by simp [z]))).trans (hk b ob (fun z => hb (by simp [z])) (fun z => hb (by simp [z])) q)) hf (Nat.le_refl _) new
    refine ⟨.ref s.heap.objs.size, _, I1, rfl, ⟨_, x, rfl, I.hok.fresh (Nat.le_refl _), rfl, fun ys hy => by rw [I.tuple_inj hy hq]; exact hx⟩, ⟨⟨u, ?_⟩, hit'.at fun o q => (sb.2 it (Ne.symm hne)).trans q, hne⟩, fun b hb => ?_⟩
    · have e1 : ((i + 1 : Nat) : Int) = (i : Int) + 1 := by omega
      rw [e1]; exact he'
    · have hb' : b < s.heap.objs.size := by
        have e' : b = e ∨ b = it := by simpa using hb
        rcases e' with z | z
        · rw [z]; exact hel
        · rw [z]; exact hil
      rw [upd_ne (Nat.ne_of_lt hb')]
      exact (hf b hb).1
  done := by
    intro X hP hw hK hc i pins s σ H E I hf st hg
    subst hP hw hK
    obtain ⟨⟨old, he⟩, hit, hne⟩ := st
    obtain ⟨xs, hq, hx⟩ := hg
    obtain ⟨its, rv, p, hz⟩ := I.tuple hq
    have ht : s.heap.IsTuple a its.toArray := p
    obtain ⟨f0, f1, f2, f3, f4, f5⟩ := hf it (by simp)
    have n1 := tup_ne ht hit
    have hl := rv.length
    have hi : i = its.toArray.size := by
      rw [List.size_toArray]
      omega
    subst hi
    exact wpAny_pyNext_enum_endD (Draws.tuple (A := X.A.in1) (I.ok.hd hc) it a n1 its.toArray) he ⟨hit, ht⟩ fun h' eb => ⟨rfl, I.turned (t' := s.toks) (fun b o hb q => eb b o hb q) f0 f1 f3 f4 f5⟩
  self := fun A i s Q E st h => let ⟨⟨_, he⟩, _⟩ := st; wpAny_pyIter_enum he h
def iEnumT (K : PySem.W.Frag) (ta : TA) : TI := fun σ H R => ta σ H fun vs H1 => ∃ a xs, vs = [.ref a] ∧ SqT K H1 a xs ∧ R (IteT K a) H1
theorem pi_enumT {X : Cx} {e : Expr} {ta : TA} {p pos tpos : Pos} {elts : List Expr} {kk : Nat} (hg : Gl X "enumerate") (hm : X.mg "enumerate" = none) (ha : PA X [e] ta) (hs : starEach [e] X.env = [(false, eval e X.env)] := by rfl) :
    PI X (.Tuple elts kk tpos) (.Call (.Name "enumerate" p) [e] [] pos) (iEnumT X.K ta) := by
  refine ⟨fun pins s σ H R I h => ?_⟩
  refine Call_ (ld_blt I hg hm boot_enumerate (PyProof.Rows.callWith_type1 (thn (ha.run pos pins s σ H _ I h) fun us s1 ⟨vs, H1, I1, r1, q1⟩ => ?_) hs rfl))
  obtain ⟨a, xs, ex, hq, q⟩ := q1
  subst ex
  obtain ⟨u, rfl, ru⟩ := vals1 r1
  cases ru
  obtain ⟨its, rv, p', hz⟩ := I1.tuple hq
  refine kb_call_enum_tup (show s1.heap.IsTuple a its.toArray from p') fun h' he hit hsz hk => wpAny_pyIter_enum he ?_
  have I2 : Inv X pins σ H1 { s1 with heap := h' } := I1.kept (t' := s1.toks) hk
  refine ⟨s1.heap.objs.size + 1, [s1.heap.objs.size + 1, s1.heap.objs.size], _, _, H1, rfl, I2, turn_enumT a (s1.heap.objs.size + 1) s1.heap.objs.size, ⟨⟨.none, he⟩, hit, Nat.succ_ne_self _⟩, fun b hb => ?_, q⟩
  have hle : s1.heap.objs.size ≤ b := by
    have e' : b = s1.heap.objs.size + 1 ∨ b = s1.heap.objs.size := by simpa using hb
    rcases e' with z | z
    · rw [z]; exact Nat.le_add_right _ _
    · rw [z]; exact Nat.le_refl _
  exact I1.fpOk hle (I1.hok.fresh hle)
/-- a for over enumerate(t) -/
theorem for_enumT {K : PySem.W.Frag} {a : Addr} {xs : List V} {g : TG} {tb : TS} {D : Ends} {σ : L2.St} {H : Hp} (Pv : Nat → L2.St → Hp → Prop) (h0 : Pv 0 σ H) (hq : ∀ i σ H, Pv i σ H → SqT K H a xs)
    (hs : ∀ (i : Nat) (x : V) (T : Addr) (σ : L2.St) (H : Hp), xs[i]? = some x → Pv i σ H → H T = none → g (.ref T) σ (upd H T (.tup [.int (i : Nat), x])) fun σ2 H2 => tb { D with nx := Pv (i + 1), ct := Pv (i + 1), bk := D.nx } σ2 H2) (hd : ∀ σ H, Pv xs.length σ H → D.nx σ H) :
    ∃ W : Nat → Nat → L2.St → Hp → Prop, (∃ m, W 0 m σ H) ∧ ∀ i m σ H, W i m σ H →
      ((IteT K a).stop i H ∧ D.nx σ H) ∨ ((IteT K a).go i H ∧ ∃ N : L2.St → Hp → Prop, (∀ σ' H', N σ' H' → ∃ m', m' < m ∧ W (i + 1) m' σ' H') ∧ ∀ x H', (IteT K a).yld i H x H' → g x σ H' fun σ2 H2 => tb { D with nx := N, ct := N, bk := D.nx } σ2 H2) := by
  refine ⟨fun i m σ H => m = xs.length - i ∧ i ≤ xs.length ∧ Pv i σ H, ⟨xs.length, by simp, Nat.zero_le _, h0⟩, fun i m σ H w => ?_⟩
  obtain ⟨rfl, hi, p⟩ := w
  have q := hq i σ H p
  by_cases hlt : i < xs.length
  · have hx : xs[i]? = some xs[i] := by simp [hlt]
    refine .inr ⟨⟨xs, xs[i], q, hx⟩, Pv (i + 1), fun σ' H' p' => ⟨xs.length - (i + 1), by omega, rfl, hlt, p'⟩, fun x H' y => ?_⟩
    obtain ⟨T, z, rfl, hT, rfl, hz⟩ := y
    have e : z = xs[i] := Option.some.inj ((hz xs q).symm.trans hx)
    subst e
    exact hs i _ T σ H hx p hT
  · have e : i = xs.length := by omega
    subst e
    exact .inl ⟨⟨xs, q, rfl⟩, hd σ H p⟩
theorem for_enumL {K : PySem.W.Frag} {a : Addr} {xs : List V} {g : TG} {tb : TS} {D : Ends} {σ : L2.St} {H : Hp} (Pv : Nat → L2.St → Hp → Prop) (h0 : Pv 0 σ H) (hq : ∀ i σ H, Pv i σ H → SqL K H a xs)
    (hs : ∀ (i : Nat) (x : V) (T : Addr) (σ : L2.St) (H : Hp), xs[i]? = some x → Pv i σ H → H T = none → g (.ref T) σ (upd H T (.tup [.int (i : Nat), x])) fun σ2 H2 => tb { D with nx := Pv (i + 1), ct := Pv (i + 1), bk := D.nx } σ2 H2) (hd : ∀ σ H, Pv xs.length σ H → D.nx σ H) :
    ∃ W : Nat → Nat → L2.St → Hp → Prop, (∃ m, W 0 m σ H) ∧ ∀ i m σ H, W i m σ H →
      ((Ite K a).stop i H ∧ D.nx σ H) ∨ ((Ite K a).go i H ∧ ∃ N : L2.St → Hp → Prop, (∀ σ' H', N σ' H' → ∃ m', m' < m ∧ W (i + 1) m' σ' H') ∧ ∀ x H', (Ite K a).yld i H x H' → g x σ H' fun σ2 H2 => tb { D with nx := N, ct := N, bk := D.nx } σ2 H2) := by
  refine ⟨fun i m σ H => m = xs.length - i ∧ i ≤ xs.length ∧ Pv i σ H, ⟨xs.length, by simp, Nat.zero_le _, h0⟩, fun i m σ H w => ?_⟩
  obtain ⟨rfl, hi, p⟩ := w
  have q := hq i σ H p
  by_cases hlt : i < xs.length
  · have hx : xs[i]? = some xs[i] := by simp [hlt]
    refine .inr ⟨⟨xs, xs[i], q, hx⟩, Pv (i + 1), fun σ' H' p' => ⟨xs.length - (i + 1), by omega, rfl, hlt, p'⟩, fun x H' y => ?_⟩
    obtain ⟨T, z, rfl, hT, rfl, hz⟩ := y
    have e : z = xs[i] := Option.some.inj ((hz xs q).symm.trans hx)
    subst e
    exact hs i _ T σ H hx p hT
  · have e : i = xs.length := by omega
    subst e
    exact .inl ⟨⟨xs, q, Nat.le_refl _⟩, hd σ H p⟩
/-! ### tuple(l) as the very object that it makes -/
section
variable {X : Cx}
def rTupFz (K : PySem.W.Frag) : List V → Hp → VK → Prop := fun vs H Q => ∃ p ys, vs = [.ref p] ∧ SqL K H p ys ∧ ∀ (l : Addr) (o : Obj), H l = none → o.cls = .type "tuple" → o.dict = none → Q (.ref l) (upd H l (.frz o (.tup ys)))
theorem call_tupFz : CallR X (.type "tuple") (rTupFz X.K) := by
  intro pins s σ H xs us Q I r h
  obtain ⟨p, ys, rfl, hq, q⟩ := h
  obtain ⟨u, rfl, rx⟩ := vals1 r
  cases rx
  obtain ⟨its, r', pl, hz⟩ := I.list hq
  have hlen := r'.length
  refine call_tuple_list pl.isList (fun h' kp => ?_) (by simp only [List.size_toArray] <;> omega)
  have I1 : Inv X pins σ H { s with heap := h' } := I.kept (t' := s.toks) kp
  have e : (h'.push { cls := .type "tuple", data := .seq its.toArray }).get? h'.objs.size = some { cls := .type "tuple", data := .seq its.toArray } := Heap.get?_push_size _ rfl
  have I2 := I1.laid (a := h'.objs.size) (o := .frz { cls := .type "tuple", data := .seq its.toArray } (.tup ys)) (t' := s.toks) (fun b o e => Heap.get?_push_of_some _ e) (Nat.le_refl _) (show ObjOk X.prog X.w _ (h'.push { cls := .type "tuple", data := .seq its.toArray }) _ (.frz _ (.tup ys)) from ⟨e, hz, its, r', IsTup.new _ _⟩)
  exact ⟨.ref h'.objs.size, _, I2, rfl, q _ _ (I1.hok.fresh (Nat.le_refl _)) rfl rfl⟩
end
end KB
set_option Elab.async false
set_option linter.all false
set_option maxRecDepth 100000
set_option maxHeartbeats 4000000
namespace KB
open PySem PySem.Spec PyProof.Rows L2
section
variable {X : Cx} {pins : List (Addr × Obj)} {σ : L2.St} {H : Hp} {s : Shared}
theorem kb_pairs (I : Inv X pins σ H s) : ∀ {ps : List Addr} {kvs : List (Key × V)}, Paired (fun p kv => SqT X.K H p [kV kv.1, kv.2]) ps kvs →
    ∃ (pv : List (Value × Value)) (prs : List (Key × Value)), KV kvs prs ∧ pv.length = ps.length ∧ prs.length = ps.length ∧
      ∀ (j : Nat) (k v : Value), pv[j]? = some (k, v) → (∃ b, ps[j]? = some b ∧ IsTup s.heap b #[k, v]) ∧ ∃ kk, prs[j]? = some (kk, v) ∧ keyIs kk k = true
  | _, _, .nil => ⟨[], [], .nil, rfl, rfl, fun j k v e => by simp at e⟩
  | _, _, .cons (a := p) (b := kv) h t => by
    obtain ⟨pv, prs, r, l1, l2, hp⟩ := kb_pairs I t
    obtain ⟨its, rv, ht, _⟩ := I.tuple h
    obtain ⟨u, y, rfl, ru, ry⟩ := vals2 rv
    refine ⟨(u, y) :: pv, (kv.1, y) :: prs, .cons ⟨rfl, ry⟩ r, by rw [List.length_cons, List.length_cons, l1], by rw [List.length_cons, List.length_cons, l2], fun j k v e => ?_⟩
    cases j with
    | zero =>
      have e' : (u, y) = (k, v) := Option.some.inj e
      cases e'
      exact ⟨⟨p, rfl, ht⟩, kv.1, rfl, kV_is (P := X.prog) (w := X.w) ru⟩
    | succ j =>
      obtain ⟨⟨b, e1, e2⟩, kk, e3, e4⟩ := hp j k v (by simpa using e)
      exact ⟨⟨b, by simpa using e1, e2⟩, kk, by simpa using e3, e4⟩
end
section
variable {X : Cx}
/-- dict(t), t a tuple of pairs that is known as an object -/
def rDictFz (K : PySem.W.Frag) : List V → Hp → VK → Prop := fun xs H Q => ∃ (a : Addr) (o : Obj) (ps : List Addr) (kvs : List (Key × V)), xs = [.ref a] ∧ H a = some (.frz o (.tup (ps.map V.ref))) ∧ o.cls = .type "tuple" ∧ o.dict = none ∧
  Paired (fun p kv => SqT K H p [kV kv.1, kv.2]) ps kvs ∧ ∀ p, H p = none → Q (.ref p) (upd H p (.dK (mergeK [] kvs)))
theorem call_dictFz (hcalm : X.calm = true) : CallR X (.type "dict") (rDictFz X.K) := by
  intro pins s σ H xs us Q I r h
  obtain ⟨a, o, ps, kvs, rfl, ha, hcl, hdn, hp, q⟩ := h
  obtain ⟨u, rfl, rx⟩ := vals1 r
  cases rx
  obtain ⟨ho, hz, its, rv, o', ho', _, n, hdat⟩ := I.hok a _ ha
  rw [ho] at ho'
  cases ho'
  have ei := refs_at rv
  subst ei
  rw [List.length_map] at hz
  obtain ⟨pv, prs, rel, l1, l2, hpr⟩ := kb_pairs I hp
  have hnd : ∀ j, ∃ b : Addr, j < ps.length → ps[j]? = some b := fun j => by
    by_cases hj : j < ps.length
    · exact ⟨ps[j], fun _ => List.getElem?_eq_getElem hj⟩
    · exact ⟨0, fun z => absurd z hj⟩
  have hTs : ∀ j, j < ps.length → ps[j]? = some (ps.getD j 0) := fun j hj => by
    rw [List.getD_eq_getElem?_getD, List.getElem?_eq_getElem hj]
    rfl
  have P := PairArg.tuple (prog := X.prog) (w := X.w) a (ps.map Value.ref).toArray (fun j => ps.getD j 0) pv
  have ok : PlainSeq "tuple" s.heap a (ps.map Value.ref).toArray ∧ PairItems s.heap (ps.map Value.ref).toArray (fun j => ps.getD j 0) pv := by
    refine ⟨⟨o, n, ho, hcl, hdn, hdat⟩, by simp [l1], fun j k v e => ?_⟩
    obtain ⟨⟨b, e1, e2⟩, _⟩ := hpr j k v e
    have hj := (List.getElem?_eq_some_iff.mp e1).1
    have eb : ps.getD j 0 = b := by
      have := hTs j hj
      rw [e1] at this
      exact (Option.some.inj this).symm
    refine ⟨?_, .inl ?_⟩
    · show (ps.map Value.ref).toArray[j]? = some (.ref (ps.getD j 0))
      rw [eb]
      simp [e1]
    · show s.heap.IsTuple (ps.getD j 0) #[k, v]
      rw [eb]
      exact e2
  refine PySem.call_dict_pairs (knd := mixKind X.prog X.w) (kvs := prs) P (I.ok.hd hcalm) ok ⟨by rw [l2, l1], fun i key v hr => ?_⟩ (by rw [l1]; exact hz) fun h' tk hd' k => ?_
  · obtain ⟨_, kk, e3, e4⟩ := hpr i key v hr
    exact ⟨kk, e3, e4⟩
  · have hm : (s.heap.objs.size == sysModules) = false := beq_eq_false_iff_ne.mpr (Nat.ne_of_gt I.big)
    have hlen : (mergeK [] kvs).length ≤ sizeLine := by
      refine Nat.le_trans (length_mergeK kvs []) ?_
      rw [List.length_nil, Nat.zero_add, rel.length, l2]
      exact hz
    exact ⟨.ref s.heap.objs.size, upd H s.heap.objs.size (.dK (mergeK [] kvs)), I.laid (t' := tk) (fun b o e => k b o (by simp) e) (Nat.le_refl _) (show ObjOk X.prog X.w _ _ _ (.dK (mergeK [] kvs)) from ⟨hlen, hm, merged [] prs, KV.merge rel .nil, hd'⟩), rfl, q _ (I.hok.fresh (Nat.le_refl _))⟩
end
end KB
set_option Elab.async false
set_option linter.all false
set_option maxRecDepth 100000
set_option maxHeartbeats 4000000
/-! a def of the text, its promise; isinstance over data -/
namespace KB
open PySem PySem.Spec PyProof.Rows L2
abbrev FnP (K : PySem.W.Frag) (x : Str) (st : Stmt) (f : Addr) (fd : FuncData) : Prop := FunD K x x (defArgs st) (defBody st) (defScope st) [] [] f fd
/-- the def st stands under its name -/
structure Dn (K : PySem.W.Frag) (mg : Str → Option Value) (x : Str) (st : Stmt) : Prop where
  ex : ∃ f fd, FnP K x st f fd ∧ mg x = some (.ref f)
/-- the built-in names that the text's defs read are the built-ins' -/
structure Bl (mg : Str → Option Value) : Prop where
  bool : mg "bool" = none
  dict : mg "dict" = none
  enumerate : mg "enumerate" = none
  int : mg "int" = none
  isinstance : mg "isinstance" = none
  len : mg "len" = none
  list : mg "list" = none
  max : mg "max" = none
  min : mg "min" = none
  range : mg "range" = none
  sorted : mg "sorted" = none
  str : mg "str" = none
  sum : mg "sum" = none
  tuple : mg "tuple" = none
  zip : mg "zip" = none
/-! ### what the built-in names stand for -/
theorem bt_len : bootBuiltins "len" = some (.builtin "len") := by decide +kernel
theorem bt_isinstance : bootBuiltins "isinstance" = some (.builtin "isinstance") := by decide +kernel
theorem bt_max : bootBuiltins "max" = some (.builtin "max") := by decide +kernel
theorem bt_min : bootBuiltins "min" = some (.builtin "min") := by decide +kernel
theorem bt_sorted : bootBuiltins "sorted" = some (.builtin "sorted") := by decide +kernel
theorem bt_sum : bootBuiltins "sum" = some (.builtin "sum") := by decide +kernel
theorem bt_int : bootBuiltins "int" = some (.type "int") := by decide +kernel
theorem bt_tuple : bootBuiltins "tuple" = some (.type "tuple") := by decide +kernel
theorem bt_list : bootBuiltins "list" = some (.type "list") := by decide +kernel
theorem bt_dict : bootBuiltins "dict" = some (.type "dict") := by decide +kernel
theorem bt_str : bootBuiltins "str" = some (.type "str") := by decide +kernel
theorem bt_bool : bootBuiltins "bool" = some (.type "bool") := by decide +kernel
/-- the def that stands under its name keeps its promise -/
structure Cal (P : Program) (w : World) (K : PySem.W.Frag) (mg : Str → Option Value) (base : Heap) (k : Nat) (x : Str) (sp : Sp) : Prop where
  ex : ∃ (f : Addr) (fd : FuncData) (ps : List Str), FnOk P w K mg base CX0 k f fd ps sp ∧ mg x = some (.ref f) ∧ PySem.W.keepIn K (.ref f) = true ∧ Binds K fd ps []
section
variable {X : Cx} {k j : Nat} {x : Str} {sp : Sp} {p pos : Pos} {e : Expr} {es : List Expr} {t : TA}
theorem pe_c (c : Cal X.prog X.w X.K X.mg X.base k x sp) (hr : Room j X.A) (hk : k ≤ j) (hg : Gl X x) (ha : PA X (e :: es) t)
    (hdb : (x == ("__debug__" : Str)) = false := by decide) (he : starEach (e :: es) X.env = (false, eval e X.env) :: starEach es X.env := by rfl) (hpl : (backTo pos (starEach es X.env)).any (·.1) = false := by rfl) :
    PE X (.Call (.Name x p) (e :: es) [] pos) (tCall sp [] E0 t) := by
  obtain ⟨f, fd, ps, F, hm, kp, b⟩ := c.ex
  exact pe_call F (hr.mono hk) hg hm kp b .nil pass0 ha hdb he hpl
end
section
variable {P : Program} {w : World} {K : PySem.W.Frag} {mg : Str → Option Value} {base : Heap}
theorem cal_of {x : Str} {st : Stmt} {N ps : List Str} {k : Nat} {sp : Sp} (D : Dn K mg x st) (S : FnScope N ps (defScope st)) (len : ∀ vs H Q E, sp vs H Q E → vs.length = ps.length)
    (hb : ∀ (kV doc pm : Value) (an : Option Addr) (cdv ct : Value) (us : List Value), us.length = ps.length → bindArgs (PySem.W.fnOf x x (defArgs st) (defBody st) (defScope st) .none kV doc pm an cdv ct) ⟨us, []⟩ = pure (ps.zip us))
    (hbody : ∀ (f : Addr) (cdv : Value) (A : Around) (outer : List Env) (s : Shared) (H : Hp) (vs : List V) (Q : VK) (E : XK), Room k (A.deeper (envOfC x (defScope st) s.heap.objs.size f cdv)) → sp vs H Q E →
      ∃ t, PSs (cxOf CX0 P w K mg base N x (defScope st) f cdv A outer s H E).nox (defBody st) t ∧ t { nx := fun _ H' => Q .non H', rt := Q } (start N vs) H) : Cal P w K mg base (k + 1) x sp := by
  obtain ⟨f, fd, F, hm⟩ := D.ex
  refine ⟨f, fd, ps, F.ok S len fun cdv A outer s H vs Q E hr h => ?_, hm, F.kp, F.bindsN hb⟩
  obtain ⟨t, h1, h2⟩ := hbody f cdv A outer s H vs Q E hr h
  exact ⟨t, h1.nox, h2⟩
end
section
variable {X : Cx}
theorem call_is_tuple : CallR X (.builtin "isinstance") (fun xs H Q => ∃ x d, xs = [x, .ty "tuple"] ∧ Dp X.K H x d ∧ Q (.bl d.isTuple) H) := by
  intro pins s σ H xs us Q I r h
  obtain ⟨x, d, rfl, hd, q⟩ := h
  obtain ⟨u, v, rfl, ru, rv⟩ := vals2 r
  cases rv
  obtain ⟨as, r1⟩ := Dp.reads I d x u hd ru
  exact PySem.W.isinstance_tuple_data r1 fun tk _ => ⟨.bl _, H, I.tok tk, rfl, q⟩
theorem call_is_bool : CallR X (.builtin "isinstance") (fun xs H Q => ∃ x d, xs = [x, .ty "bool"] ∧ Dp X.K H x d ∧ Q (.bl d.isBool) H) := by
  intro pins s σ H xs us Q I r h
  obtain ⟨x, d, rfl, hd, q⟩ := h
  obtain ⟨u, v, rfl, ru, rv⟩ := vals2 r
  cases rv
  obtain ⟨as, r1⟩ := Dp.reads I d x u hd ru
  exact PySem.W.isinstance_bool_data r1 fun tk _ => ⟨.bl _, H, I.tok tk, rfl, q⟩
theorem call_is_int : CallR X (.builtin "isinstance") (fun xs H Q => ∃ x d, xs = [x, .ty "int"] ∧ Dp X.K H x d ∧ Q (.bl d.isInt) H) := by
  intro pins s σ H xs us Q I r h
  obtain ⟨x, d, rfl, hd, q⟩ := h
  obtain ⟨u, v, rfl, ru, rv⟩ := vals2 r
  cases rv
  obtain ⟨as, r1⟩ := Dp.reads I d x u hd ru
  exact PySem.W.isinstance_int_data r1 fun tk _ => ⟨.bl _, H, I.tok tk, rfl, q⟩
theorem call_is_str : CallR X (.builtin "isinstance") (fun xs H Q => ∃ x d, xs = [x, .ty "str"] ∧ Dp X.K H x d ∧ Q (.bl d.isStr) H) := by
  intro pins s σ H xs us Q I r h
  obtain ⟨x, d, rfl, hd, q⟩ := h
  obtain ⟨u, v, rfl, ru, rv⟩ := vals2 r
  cases rv
  obtain ⟨as, r1⟩ := Dp.reads I d x u hd ru
  exact PySem.W.isinstance_str_data r1 fun tk _ => ⟨.bl _, H, I.tok tk, rfl, q⟩
end
/-! ### a test's answer, a value, where the heap stays -/
def Ans (t : TT) (σ : L2.St) (H : Hp) (b : Bool) : Prop := ∀ Q : Bool → Hp → Prop, Q b H → t σ H Q
section
variable {t u : TT} {σ : L2.St} {H : Hp} {a b : Bool} {ts us : TS} {D : Ends}
theorem aAnd (h1 : Ans t σ H a) (h2 : a = true → Ans u σ H b) : Ans (tAnd t u) σ H (a && b) := fun Q q => h1 _ (by
  cases a with
  | true => exact iteT (h2 rfl Q q)
  | false => exact iteF q)
theorem aOr (h1 : Ans t σ H a) (h2 : a = false → Ans u σ H b) : Ans (tOr t u) σ H (a || b) := fun Q q => h1 _ (by
  cases a with
  | true => exact iteT q
  | false => exact iteF (h2 rfl Q q))
theorem aNot (h1 : Ans t σ H a) : Ans (tNot t) σ H (!a) := fun Q q => h1 _ q
theorem st_if (h : Ans t σ H b) (h1 : b = true → ts D σ H) (h2 : b = false → us D σ H) : tIfS t ts us D σ H := h _ (by
  cases b with
  | true => exact iteT (h1 rfl)
  | false => exact iteF (h2 rfl))
theorem ex_if {ta tb : TE} {Q : VK} (h : Ans t σ H b) (h1 : b = true → ta σ H Q) (h2 : b = false → tb σ H Q) : tIf t ta tb σ H Q := h _ (by
  cases b with
  | true => exact iteT (h1 rfl)
  | false => exact iteF (h2 rfl))
theorem tYes_i {A B : Hp → Prop} (h : A H) : tYes σ H (fun c H3 => if c = true then A H3 else B H3) := iteT (B := B H) h
theorem ixN_nat {n j : Nat} (h : j < n) : ixN n (j : Int) = some j := by
  unfold ixN
  rw [if_pos (by omega), if_pos (by omega)]
  rfl
theorem ixN_of {n j : Nat} {z : Int} (e : z = (j : Int)) (h : j < n) : ixN n z = some j := by
  rw [e]
  exact ixN_nat h
theorem and_t {a b : Bool} (h : (a && b) = true) : a = true ∧ b = true := by
  cases a <;> cases b <;> first | exact ⟨rfl, rfl⟩ | cases h
end
/-! ### lists of numbers, of texts -/
theorem cut_map {α : Type} (f : α → V) (ns : List α) (lo hi : Option Int) : ∃ ms : List α, cutV (ns.map f) lo hi = ms.map f ∧ ms.length ≤ ns.length ∧ ∀ x ∈ ms, x ∈ ns := by
  unfold cutV
  rw [← List.map_drop, ← List.map_take]
  refine ⟨_, rfl, ?_, fun x hx => List.mem_of_mem_drop (List.mem_of_mem_take hx)⟩
  rw [List.length_take, List.length_drop]
  omega
theorem map_at {α : Type} (f : α → V) {cs : List α} {j : Nat} {x : α} (h : cs[j]? = some x) : (cs.map f)[j]? = some (f x) := by
  rw [List.getElem?_map, h]
  rfl
theorem map_at_inv {α : Type} {f : α → V} {cs : List α} {j : Nat} {v : V} (h : (cs.map f)[j]? = some v) : ∃ x, cs[j]? = some x ∧ v = f x ∧ j < cs.length := by
  have hj := (List.getElem?_eq_some_iff.mp h).1
  rw [List.length_map] at hj
  refine ⟨cs[j], List.getElem?_eq_getElem hj, ?_, hj⟩
  rw [map_at f (List.getElem?_eq_getElem hj)] at h
  exact (Option.some.inj h).symm
theorem take_next {α : Type} {cs : List α} {j : Nat} {x : α} (h : cs[j]? = some x) : cs.take (j + 1) = cs.take j ++ [x] := by
  rw [List.take_add_one, h]
  rfl
/-! ### the same rules within a comprehension's block: K told -/
section
variable {X : Cx}
theorem ix_listK (K : PySem.W.Frag) (e : X.K = K) : IxR X (rIxL K) := e ▸ ix_list
theorem ix_tupK (K : PySem.W.Frag) (e : X.K = K) : IxR X (rIxT K) := e ▸ ix_tup
def rLenQ (K : PySem.W.Frag) : List V → Hp → VK → Prop := fun xs H Q => ∃ p ys, xs = [.ref p] ∧ (SqL K H p ys ∨ SqT K H p ys) ∧ Q (.int ys.length) H
theorem len_seqK (K : PySem.W.Frag) (e : X.K = K) : CallR X (.builtin "len") (rLenQ K) := e ▸ call_len_seq
theorem catAK (K : PySem.W.Frag) (e : X.K = K) : OpR X (binaryOp .Add) (rCatA K) := e ▸ op_catA
theorem eqPK (K : PySem.W.Frag) (e : X.K = K) (hu : X.A.units + 64 < cLine) : OpR X (compareOp .Eq) (rEqP K) := e ▸ op_eqP hu
theorem tupK (K : PySem.W.Frag) (e : X.K = K) {tg l : Expr} {tl : TE} (hl : PE X l tl) : PI X tg l (iTup K tl) := e ▸ pi_tup hl
end
end KB
set_option Elab.async false
set_option linter.all false
set_option maxRecDepth 100000
set_option maxHeartbeats 4000000
namespace K78
open PySem PySem.Spec PyProof.Rows L2 KB
section
variable {P : Program} {w : World} {K : PySem.W.Frag} {mg : Str → Option Value} {base : Heap}
/-- the drawn number, below many -/
def spPick (K : PySem.W.Frag) : Sp := fun vs H Q _ => ∃ (nb pl : Addr) (ns : List Int) (m : Int), vs = [.ref nb, .ref pl, .int m] ∧ SqL K H nb (ns.map V.int) ∧ ns ≠ [] ∧ H pl = some (AtO pl) ∧ 0 < m ∧ ∀ v : Int, 0 ≤ v → v < m → Q (.int v) H
theorem c_l_pick (D : Dn K mg "_law_pick" s_l_pick) (B : Bl mg) : Cal P w K mg base 1 "_law_pick" (spPick K) := by
  refine cal_of D sc_l_pick (fun vs H Q E h => ?_) (fun _ _ _ _ _ _ us hl => match us, hl with | [_, _, _], _ => rfl) (fun f cdv A outer s H vs Q E hr h => ?_)
  · obtain ⟨nb, pl, ns, m, rfl, _⟩ := h
    rfl
  · obtain ⟨nb, pl, ns, m, rfl, hS, hne, hat, hm, q⟩ := h
    refine ⟨_, (pss_cons (ps_set (i := 3) sc_l_pick.nd rfl (.inl rfl) (pe_op op_mod (pe_callTy call_int1 (by rfl) B.int bt_int (pa_cons (pe_ix ix_list (pv 0) (pe_op op_mod (pe_callTy call_int1 (by rfl) B.int bt_int (pa_cons (pe_ix ix_at (pv 1) pe_int (fun _ _ => rfl)) pa_nil)) (pe_callB call_len_seq (by rfl) B.len bt_len (pa_cons (pv 0) pa_nil))) (fun _ _ => rfl)) pa_nil)) (pv 2)))
      (pss_cons (ps_asg (pe_op op_add (pe_ix ix_at (pv 1) pe_int (fun _ _ => rfl)) pe_int) (pg_sub (pv 1) pe_int set_at))
      (pss_one (ps_ret (pv 3))))), ?_⟩
    have hlen : 0 < ns.length := List.length_pos_iff.mpr hne
    refine ⟨.ref nb, rfl, .ref pl, rfl, pl, rfl, rfl, hat, fun j => ?_⟩
    refine .inl ⟨(j : Int), rfl, .ref nb, rfl, nb, _, rfl, .inl hS, (j : Int), _, rfl, rfl, ?_, ?_⟩
    · show (0 : Int) < (((ns.map V.int).length : Nat) : Int)
      rw [List.length_map]
      omega
    have hj : (j % ns.length) < ns.length := Nat.mod_lt _ hlen
    have hx : (ns.map V.int)[j % ns.length]? = some (.int ns[j % ns.length]) := by
      rw [List.getElem?_map, List.getElem?_eq_getElem hj]
      rfl
    have hi : ((j : Int) % (((ns.map V.int).length : Nat) : Int)) = ((j % ns.length : Nat) : Int) := by
      rw [List.length_map]
      rfl
    refine ⟨nb, _, _, _, rfl, rfl, hS, at_of hi hx, .inl ⟨_, rfl, .int m, rfl, _, m, rfl, rfl, hm, ?_⟩⟩
    refine ⟨.ref pl, rfl, pl, rfl, rfl, hat, fun i => ⟨_, _, rfl, rfl, ?_⟩⟩
    refine ⟨.ref pl, rfl, pl, i + 1, rfl, rfl, rfl, hat, ?_⟩
    exact ⟨_, rfl, q _ (Int.emod_nonneg _ (by omega)) (Int.emod_lt_of_pos _ hm)⟩
end
end K78
set_option Elab.async false
set_option linter.all false
set_option maxRecDepth 100000
set_option maxHeartbeats 4000000
namespace K78
open PySem PySem.Spec PyProof.Rows L2 KB
section
variable {P : Program} {w : World} {K : PySem.W.Frag} {mg : Str → Option Value} {base : Heap}
/-- the numbers that a script gives -/
def spNumbers (K : PySem.W.Frag) : Sp := fun vs H Q _ => ∃ (a : Addr) (ns : List Int), vs = [.ref a, .int 509] ∧ SqL K H a (ns.map V.int) ∧ ns.length ≤ 63 ∧ ∀ (p : Addr) (ms : List Int) (H' : Hp), ms ≠ [] → Same H H' → H p = none → H' p = some (.lst (ms.map V.int)) → Q (.ref p) H'
theorem c_l_numbers (D : Dn K mg "_law_numbers" s_l_numbers) (B : Bl mg) : Cal P w K mg base 1 "_law_numbers" (spNumbers K) := by
  refine cal_of D sc_l_numbers (fun vs H Q E h => ?_) (fun _ _ _ _ _ _ us hl => match us, hl with | [_, _], _ => rfl) (fun f cdv A outer s H vs Q E hr h => ?_)
  · obtain ⟨a, ns, rfl, _⟩ := h
    rfl
  · obtain ⟨a, ns, rfl, hS, hl, q⟩ := h
    refine ⟨_, (pss_cons (ps_setLc (i := 2) (own := [("cell", 8)]) (by rfl) sc_l_numbers.nd rfl rfl (sw_true rfl rfl rfl (by decide +kernel)) (pi_list (pe_slice sl_list (pv 0) po_none (po_some pe_int))) (blkOk_by (N := n_l_numbers) (sc := defScope s_l_numbers) (by decide +kernel)) (fun _ _ _ _ _ => (pg_name (i := 8) sc_l_numbers.nd rfl (.inl rfl))) (fun _ _ _ _ _ => pts_nil) (fun _ _ _ _ _ => (pe_callTy call_int1 (by rfl) B.int bt_int (pa_cons (pv 8) pa_nil))))
      (Evl.pss_cut (ps_if (pt_cmpR op_eq (pe_callB call_len_seq (by rfl) B.len bt_len (pa_cons (pv 2) pa_nil)) pe_int (nomark _)) 
        (pss_one (ps_set (i := 2) sc_l_numbers.nd rfl (.inl rfl) (pe_lst (pa_cons pe_int pa_nil)))) pss_nil)
      (pss_cons (ps_setLc (i := 3) (own := [("cell", 8)]) (by rfl) sc_l_numbers.nd rfl rfl (sw_true rfl rfl rfl (by decide +kernel)) (pi_list (pv 2)) (blkOk_by (N := n_l_numbers) (sc := defScope s_l_numbers) (by decide +kernel)) (fun _ _ _ _ _ => (pg_name (i := 8) sc_l_numbers.nd rfl (.inl rfl))) (fun _ _ _ _ _ => pts_nil) (fun _ _ _ _ _ => (pv 8)))
      (pss_cons (ps_set (i := 4) sc_l_numbers.nd rfl (.inl rfl) (pe_lst pa_nil))
      (pss_cons (ps_for PassesOwn.never rfl (pi_range1 (by rfl) B.range (pa_cons (pv 1) pa_nil)) (pg_name (i := 5) sc_l_numbers.nd rfl (.inl rfl)) 
        (pss_cons (ps_set (i := 6) sc_l_numbers.nd rfl (.inl rfl) (pe_op op_mod (pv 5) (pe_callB call_len_seq (by rfl) B.len bt_len (pa_cons (pv 2) pa_nil))))
        (pss_one (ps_if (PW.pt (pw_and (pt_cmpR op_ge (pe_ix ix_list (pv 2) (pv 6) (fun _ _ => rfl)) (pe_op op_pow pe_int pe_int) (nomark _)) (pw_and1 (pt_cmpR op_gt (pe_ix ix_list (pv 3) (pv 6) (fun _ _ => rfl)) pe_int (nomark _))))) 
          (pss_cons (ps_expr (pe_bm PySem.F.plainAttrs_list PySem.F.slot_list_append PySem.F.type_list_append mt_append (pv 4) (pa_cons (pe_op op_mod (pe_callTy call_int1 (by rfl) B.int bt_int (pa_cons (pe_ix ix_list (pv 3) (pv 6) (fun _ _ => rfl)) pa_nil)) pe_int) pa_nil)))
          (pss_one (ps_asg (pe_op op_fdiv (pe_ix ix_list (pv 3) (pv 6) (fun _ _ => rfl)) pe_int) (pg_sub (pv 3) (pv 6) set_list)))) 
          (pss_cons (ps_set (i := 7) sc_l_numbers.nd rfl (.inl rfl) (pe_op op_add (pe_op op_mul (pe_op op_mod (pe_callTy call_int1 (by rfl) B.int bt_int (pa_cons (pe_ix ix_list (pv 2) (pv 6) (fun _ _ => rfl)) pa_nil)) pe_int) pe_int) (pe_op op_mul (pe_op op_add (pv 5) pe_int) pe_int)))
          (pss_cons (ps_set (i := 7) sc_l_numbers.nd rfl (.inl rfl) (pe_op op_mod (pe_callTy call_int1 (by rfl) B.int bt_int (pa_cons (pe_op op_mul (pv 7) pe_int) pa_nil)) pe_int))
          (pss_one (ps_expr (pe_bm PySem.F.plainAttrs_list PySem.F.slot_list_append PySem.F.type_list_append mt_append (pv 4) (pa_cons (pe_op op_fdiv (pe_op op_mod (pe_callTy call_int1 (by rfl) B.int bt_int (pa_cons (pe_op op_mul (pv 7) pe_int) pa_nil)) pe_int) pe_int) pa_nil))))))))))
      (pss_one (ps_ret (pv 4)))))))), ?_⟩
    -- cells = [int(cell) for cell in script[:63]]
    obtain ⟨cs, ecs, lcs, _⟩ := cut_map V.int ns none (some 63)
    refine ⟨.ref a, rfl, 63, rfl, a, _, rfl, hS, fun c0 n0 => ?_⟩
    rw [ecs]
    have s0 : Same H (upd H c0 (.lst (cs.map V.int))) := same_new n0
    generalize hH0 : upd H c0 (.lst (cs.map V.int)) = H0 at s0
    have e0 : H0 c0 = some (.lst (cs.map V.int)) := by rw [← hH0, upd_same]
    refine ⟨c0, rfl, ⟨_, .of e0⟩, fun c nc => ?_⟩
    refine lc_list (K := K) (a := c0) (xs := cs.map V.int) (fun i H' => Same H0 H' ∧ H' c = some (.lst ((cs.take i).map V.int))) ⟨same_new nc, upd_same⟩ (fun i H' _ p => .of (p.1 _ _ e0)) (fun i x H' hx p => ?_) (fun H' p => ?_)
    · obtain ⟨p1, p2⟩ := p
      obtain ⟨z, hz, rfl, hi⟩ := map_at_inv hx
      refine ⟨rfl, tYes_i ?_⟩
      refine ⟨_, rfl, .inl ⟨_, rfl, _, p2, ?_, smut p1 nc, ?_⟩⟩
      · rw [List.length_map, List.length_take]
        exact small1000 (by omega)
      · rw [upd_same, take_next hz, List.map_append]
        rfl
    obtain ⟨p1, p2⟩ := p
    rw [List.length_map, List.take_length] at p2
    have s1 : Same H H' := s0.trans p1
    -- if len(cells) == 0: cells = [78]
    refine ⟨fun σ' H2 => ∃ (c : Addr) (cs : List Int) (y8 : Option V), σ' = [some (.ref a), some (.int 509), some (.ref c), none, none, none, none, none, y8] ∧ Same H H2 ∧ H c = none ∧ H2 c = some (.lst (cs.map V.int)) ∧ cs ≠ [] ∧ cs.length ≤ 63, ?_, ?_⟩
    · refine ⟨.ref c, rfl, c, _, rfl, .inl (.of p2), rfl, _, rfl, ite2 (fun e => ?_) (fun e => ?_)⟩
      · refine ⟨by show 1 ≤ sizeLine; decide, fun d nd => ?_⟩
        exact ⟨d, [78], _, rfl, s1.trans (same_new nd), s1.free nd, upd_same, by decide, by decide⟩
      · refine ⟨c, cs, _, rfl, s1, s0.free nc, p2, fun z => ?_, by omega⟩
        subst z
        exact e (decide_eq_true rfl)
    clear p1 p2 s1 nc e0 s0 hH0
    rintro σ' H2 ⟨c, cs, y8, rfl, s1, nc, ec, hne, lc⟩
    -- left = [cell for cell in cells]
    refine ⟨.ref c, rfl, c, rfl, ⟨_, .of ec⟩, fun l nl => ?_⟩
    refine lc_list (K := K) (a := c) (xs := cs.map V.int) (fun i H' => Same H2 H' ∧ H' l = some (.lst ((cs.take i).map V.int))) ⟨same_new nl, upd_same⟩ (fun i H' _ p => .of (p.1 _ _ ec)) (fun i x H' hx p => ?_) (fun H' p => ?_)
    · obtain ⟨p1, p2⟩ := p
      obtain ⟨z, hz, rfl, hi⟩ := map_at_inv hx
      refine ⟨rfl, tYes_i ?_⟩
      refine ⟨_, rfl, _, p2, ?_, smut p1 nl, ?_⟩
      · rw [List.length_map, List.length_take]
        exact small1000 (by omega)
      · rw [upd_same, take_next hz, List.map_append]
        rfl
    obtain ⟨p1, el⟩ := p
    rw [List.length_map, List.take_length] at el
    have ec' := p1 _ _ ec
    have s2 : Same H H' := s1.trans p1
    have ncl : c ≠ l := ne_of_none ec nl
    have nlH : H l = none := s1.free nl
    -- numbers = []
    refine ⟨by show 0 ≤ sizeLine; decide, fun p np => ?_⟩
    have npc : c ≠ p := ne_of_none ec' np
    have npl : l ≠ p := ne_of_none el np
    have npH : H p = none := s2.free np
    refine ⟨_, rfl, 509, rfl, by decide, by decide, ?_⟩
    refine for_range (n := 509) (fun i σ H3 => ∃ y5 y6 y7 y8 ls ms, σ = [some (.ref a), some (.int 509), some (.ref c), some (.ref l), some (.ref p), y5, y6, y7, y8] ∧ Same H H3 ∧ H3 c = some (.lst (cs.map V.int)) ∧ H3 l = some (.lst (ls.map V.int)) ∧ ls.length = cs.length ∧ H3 p = some (.lst (ms.map V.int)) ∧ ms.length = i)
      ⟨_, _, _, _, cs, [], rfl, s2.trans (same_new np), by rw [upd_ne npc]; exact ec', by rw [upd_ne npl]; exact el, rfl, upd_same, rfl⟩ (fun i σ H3 hi h3 => ?_) (fun σ H3 h3 => ?_)
    · obtain ⟨y5, y6, y7, y8, ls, ms, rfl, s3, e1, e2, hlen, e3, hms⟩ := h3
      have hpos : 0 < cs.length := List.length_pos_iff.mpr hne
      -- place = lap % len(cells)
      refine ⟨_, rfl, .ref c, rfl, c, _, rfl, .inl (.of e1), 0 + (i : Int), _, rfl, rfl, ?_, ?_⟩
      · show (0 : Int) < (((cs.map V.int).length : Nat) : Int)
        rw [List.length_map]
        omega
      have hpl : ((0 + (i : Int)) % (((cs.map V.int).length : Nat) : Int)) = ((i % cs.length : Nat) : Int) := by
        rw [List.length_map, Int.zero_add]
        rfl
      have hj : i % cs.length < cs.length := Nat.mod_lt _ hpos
      generalize hjj : i % cs.length = j at hj hpl
      have xc := map_at V.int (List.getElem?_eq_getElem hj)
      have hj2 : j < ls.length := by omega
      have xl := map_at V.int (List.getElem?_eq_getElem hj2)
      generalize cs[j] = x at xc
      generalize ls[j] = y at xl
      have mb : ms.length < 1000 := by omega
      have ml : (ms.map V.int).length < sizeLine := by
        rw [List.length_map]
        exact small1000 (by omega)
      dsimp only [gName]
      show tIfS _ _ _ _ _ _
      refine st_if (b := decide ((10 : Int) ^ (18 : Int).toNat ≤ x) && decide (0 < y)) (aAnd (fun Q q => ?_) (fun _ Q q => ?_)) (fun hb => ?_) (fun hb => ?_)
      · exact ⟨.ref c, rfl, _, rfl, c, _, _, _, rfl, rfl, .of e1, at_of hpl xc, 10, 18, rfl, rfl, ⟨by decide, by decide, by decide⟩, _, _, rfl, rfl, _, rfl, q⟩
      · exact ⟨.ref l, rfl, _, rfl, l, _, _, _, rfl, rfl, .of e2, at_of hpl xl, _, _, rfl, rfl, _, rfl, q⟩
      · -- numbers.append(int(left[place]) % 9973); left[place] = left[place] // 9973
        refine ⟨.ref p, rfl, .inl ⟨rfl, _, .of e3⟩, .ref l, rfl, _, rfl, l, _, _, _, rfl, rfl, .of e2, at_of hpl xl, .inl ⟨_, rfl, _, _, rfl, rfl, by show (0 : Int) < 9973; decide, p, _, _, rfl, rfl, e3, ml, ?_⟩⟩
        have e2' : (upd H3 p (.lst (ms.map V.int ++ [.int (y % 9973)]))) l = some (.lst (ls.map V.int)) := by rw [upd_ne npl]; exact e2
        refine ⟨.ref l, rfl, _, rfl, l, _, _, _, rfl, rfl, .of e2', at_of hpl xl, _, _, rfl, rfl, ⟨by decide, by decide⟩, .ref l, rfl, _, rfl, l, _, _, j, rfl, rfl, e2', ixN_of hpl (by rw [List.length_map]; exact hj2), ?_⟩
        refine ⟨_, _, _, _, ls.set j (y / 9973), ms ++ [y % 9973], rfl, smut (smut s3 npH) nlH, ?_, ?_, ?_, ?_, ?_⟩
        · rw [upd_ne ncl, upd_ne npc]
          exact e1
        · rw [upd_same, List.map_set]
        · rw [List.length_set]
          exact hlen
        · rw [upd_ne npl.symm, upd_same, List.map_append]
          rfl
        · rw [List.length_append, hms]
          rfl
      · -- mixed
        refine ⟨.ref c, rfl, _, rfl, c, _, _, _, rfl, rfl, .of e1, at_of hpl xc, .inl ⟨_, rfl, _, _, rfl, rfl, by show (0 : Int) < 1000003; decide, ?_⟩⟩
        have b1 := Int.emod_nonneg x (show (1000003 : Int) ≠ 0 by decide)
        have b2 := Int.emod_lt_of_pos x (show (0 : Int) < 1000003 by decide)
        refine ⟨_, _, rfl, rfl, .inl ⟨by omega, by omega⟩, ?_⟩
        refine ⟨_, rfl, _, _, rfl, rfl, _, _, rfl, rfl, .inl ⟨by omega, by omega⟩, _, _, rfl, rfl, ?_⟩
        generalize x % 1000003 = x1 at b1 b2
        refine ⟨_, rfl, _, _, rfl, rfl, .inl ⟨by omega, by omega⟩, .inl ⟨_, rfl, _, _, rfl, rfl, by show (0 : Int) < 2147483399; decide, ?_⟩⟩
        generalize hx2 : ((x1 * 40692 + (0 + (i : Int) + 3) * 52774) * 16807) = x2
        have b3 := Int.emod_nonneg x2 (show (2147483399 : Int) ≠ 0 by decide)
        have b4 := Int.emod_lt_of_pos x2 (show (0 : Int) < 2147483399 by decide)
        refine ⟨.ref p, rfl, .inl ⟨rfl, _, .of e3⟩, _, rfl, _, _, rfl, rfl, .inl ⟨by omega, by omega⟩, .inl ⟨_, rfl, _, _, rfl, rfl, by show (0 : Int) < 2147483647; decide, _, _, rfl, rfl, ⟨by decide, by decide⟩, p, _, _, rfl, rfl, e3, ml, ?_⟩⟩
        exact ⟨_, _, _, _, ls, ms ++ [_], rfl, smut s3 npH, by rw [upd_ne npc]; exact e1, by rw [upd_ne npl]; exact e2, hlen, by rw [upd_same, List.map_append]; rfl, by rw [List.length_append, hms]; rfl⟩
    · obtain ⟨y5, y6, y7, y8, ls, ms, rfl, s3, e1, e2, hlen, e3, hms⟩ := h3
      exact ⟨_, rfl, q p ms H3 (fun z => by rw [z] at hms; cases hms) s3 npH e3⟩
end
end K78
set_option Elab.async false
set_option linter.all false
set_option maxRecDepth 100000
set_option maxHeartbeats 4000000
namespace KB
open PySem PySem.Spec PyProof.Rows L2
theorem strLen (z : Str) : z.cps.toList.length = z.length := by simp [Str.length]
theorem at_str {z : Str} {i : Int} {j : Nat} (e : i = (j : Int)) (h : j < z.length) : ∃ c, atI z.cps.toList i = some c := by
  have h' : j < z.cps.toList.length := by rw [strLen]; exact h
  exact ⟨z.cps.toList[j], by rw [e]; exact atI_nat (List.getElem?_eq_getElem h')⟩
theorem len_one (c : Nat) : (⟨#[c]⟩ : Str).length = 1 := rfl
theorem cutS_to (z : Str) (p : Nat) (h : p ≤ z.length) : (cutS z none (some (p : Int))).length = p := by
  unfold cutS
  rw [show HT.sIx z.length 0 none = 0 from HT.sIx_none _ _, show HT.sIx z.length z.length (some (p : Int)) = min p z.length from HT.sIx_nat _ _ _]
  show (List.toArray _).size = p
  rw [List.size_toArray, List.length_take, List.length_drop, strLen]
  omega
theorem cutS_from (z : Str) (p : Nat) (h : p ≤ z.length) : (cutS z (some (p : Int)) none).length = z.length - p := by
  unfold cutS
  rw [show HT.sIx z.length z.length none = z.length from HT.sIx_none _ _, show HT.sIx z.length 0 (some (p : Int)) = min p z.length from HT.sIx_nat _ _ _]
  show (List.toArray _).size = _
  rw [List.size_toArray, List.length_take, List.length_drop, strLen]
  omega
theorem str_empty {z : Str} (h : z.length = 0) : z = ("" : Str) := by
  obtain ⟨a⟩ := z
  have e : a = #[] := Array.eq_empty_of_size_eq_zero h
  subst e
  rfl
theorem flat_strs (zs : List Str) : (zs.map V.str).all flatV = true := by
  rw [List.all_map, List.all_eq_true]
  intro x _
  rfl
theorem inV_strs {z : Str} {zs : List Str} : inV (.str z) (zs.map V.str) = decide (z ∈ zs) := by
  unfold inV
  rw [List.any_map, Bool.eq_iff_iff, List.any_eq_true, decide_eq_true_eq]
  constructor
  · rintro ⟨y, hy, e⟩
    have e' : eqV (.str y) (.str z) = true := e
    have : y = z := by simpa [eqV] using e'
    rw [← this]
    exact hy
  · intro h
    refine ⟨z, h, ?_⟩
    show eqV (.str z) (.str z) = true
    simp [eqV]
theorem toNat_eq {v : Int} (h : 0 ≤ v) : v = (v.toNat : Int) := by omega
theorem nodup_len {α : Type} [DecidableEq α] : ∀ {l m : List α}, l.Nodup → (∀ x ∈ l, x ∈ m) → l.length ≤ m.length
  | [], _, _, _ => Nat.zero_le _
  | x :: l, m, hn, hs => by
    have hx := hs x (List.mem_cons_self ..)
    obtain ⟨h1, h2⟩ := List.nodup_cons.mp hn
    have ih := nodup_len (m := m.erase x) h2 fun y hy => (List.mem_erase_of_ne (fun e : y = x => h1 (by rw [← e]; exact hy))).mpr (hs y (List.mem_cons_of_mem _ hy))
    rw [List.length_erase_of_mem hx] at ih
    have := List.length_pos_of_mem hx
    rw [List.length_cons]
    omega
/-- the names that are tried one after another -/
def cand (b : Nat) : Str := ⟨#[97 + b % 26]⟩ ++ ⟨#[97 + b / 26 % 26]⟩ ++ ⟨#[48 + b % 10]⟩
theorem cand_cps (b : Nat) : (cand b).cps.toList = [97 + b % 26, 97 + b / 26 % 26, 48 + b % 10] := by
  show (Array.toList (#[97 + b % 26] ++ #[97 + b / 26 % 26] ++ #[48 + b % 10])) = _
  simp
theorem cand_ne {a b : Nat} (h : a < b) (hb : b < 676) : cand a ≠ cand b := fun e => by
  have e1 := congrArg (fun z : Str => z.cps.toList) e
  simp only [cand_cps] at e1
  injection e1 with e2 e3
  injection e3 with e4 _
  omega
theorem cand_in {zs : List Str} (hz : zs.length ≤ 600) (h : ∀ b, b + 1 < zs.length + 20 → cand b ∈ zs) : False := by
  have hn : ((List.range (zs.length + 1)).map cand).Nodup := by
    refine List.Pairwise.map cand (R := fun a b => a < b ∧ b < 676) (fun a b h => cand_ne h.1 h.2) ?_
    refine (List.pairwise_lt_range (n := zs.length + 1)).imp_of_mem fun ha hb h => ⟨h, ?_⟩
    have := List.mem_range.mp hb
    omega
  have hl := nodup_len hn fun x hx => by
    obtain ⟨b, hb, rfl⟩ := List.mem_map.mp hx
    have := List.mem_range.mp hb
    exact h b (by omega)
  rw [List.length_map, List.length_range] at hl
  omega
theorem let_at : ∀ j, j < 26 → ("abcdefghijklmnopqrstuvwxyz" : Str).cps.toList[j]? = some (97 + j) := by decide +kernel
theorem sig_at : ∀ j, j < 10 → (("abcdefghijklmnopqrstuvwxyz" : Str) ++ ("0123456789" : Str)).cps.toList[26 + j]? = some (48 + j) := by decide +kernel
def wordL : List Str := ["seen", "told", "is", "gain", "sky", "free", "off", "by", "any", "row", "pair", "rest", "beat", "channel", "station"]
theorem cand_word (b : Nat) : cand b ∉ wordL := fun h => by
  have z : ∀ w ∈ wordL, ∀ d, d < 10 → w.cps.toList[2]? ≠ some (48 + d) := by decide +kernel
  refine z _ h (b % 10) (Nat.mod_lt _ (by decide)) ?_
  rw [cand_cps]
  rfl
end KB
namespace K78
open PySem PySem.Spec PyProof.Rows L2 KB
/-- what a def may make calls of -/
structure Ca (P : Program) (w : World) (K : PySem.W.Frag) (mg : Str → Option Value) (base : Heap) : Prop where
  l_pick : Cal P w K mg base 1 "_law_pick" (spPick K)
section
variable {P : Program} {w : World} {K : PySem.W.Frag} {mg : Str → Option Value} {base : Heap}
/-- a name of one to eight signs -/
def spName (K : PySem.W.Frag) : Sp := fun vs H Q _ => ∃ (nb pl nm : Addr) (ns : List Int) (zs : List Str) (stem : Str), vs = [.ref nb, .ref pl, .ref nm, .str stem] ∧ SqL K H nb (ns.map V.int) ∧ ns ≠ [] ∧ H pl = some (AtO pl) ∧
  SqL K H nm (zs.map V.str) ∧ zs.length ≤ 600 ∧ stem.length ≤ 8 ∧ ∀ (z : Str) (H' : Hp), z ∉ zs → 1 ≤ z.length → z.length ≤ 8 → Same H H' → Q (.str z) H'
theorem c_l_name (D : Dn K mg "_law_name" s_l_name) (B : Bl mg) (C : Ca P w K mg base) : Cal P w K mg base 2 "_law_name" (spName K) := by
  refine cal_of D sc_l_name (fun vs H Q E h => ?_) (fun _ _ _ _ _ _ us hl => match us, hl with | [_, _, _, _], _ => rfl) (fun f cdv A outer s H vs Q E hr h => ?_)
  · obtain ⟨nb, pl, nm, ns, zs, stem, rfl, _⟩ := h
    rfl
  · obtain ⟨nb, pl, nm, ns, zs, stem, rfl, hS, hne, hat, hN, hzs, hst, q⟩ := h
    refine ⟨_, (pss_cons (ps_set (i := 4) sc_l_name.nd rfl (.inl rfl) pe_str)
      (pss_cons (ps_set (i := 5) sc_l_name.nd rfl (.inl rfl) (pe_op op_add_str (pv 4) pe_str))
      (Evl.pss_cut (ps_if (pt_cmpR op_eq (pv 3) pe_str (nomark _)) 
        (pss_cons (ps_set (i := 6) sc_l_name.nd rfl (.inl rfl) (pe_ix ix_str (pv 4) (pe_c C.l_pick hr (by decide) rfl (pa_cons (pv 0) (pa_cons (pv 1) (pa_cons pe_int pa_nil)))) (fun _ _ => rfl)))
        (pss_one (ps_for PassesOwn.never rfl (pi_range1 (by rfl) B.range (pa_cons (pe_c C.l_pick hr (by decide) rfl (pa_cons (pv 0) (pa_cons (pv 1) (pa_cons pe_int pa_nil)))) pa_nil)) (pg_name (i := 7) sc_l_name.nd rfl (.inl rfl)) 
          (pss_one (ps_set (i := 6) sc_l_name.nd rfl (.inl rfl) (pe_op op_add_str (pv 6) (pe_ix ix_str (pv 5) (pe_c C.l_pick hr (by decide) rfl (pa_cons (pv 0) (pa_cons (pv 1) (pa_cons pe_int pa_nil)))) (fun _ _ => rfl)))))))) 
        (pss_cons (ps_set (i := 8) sc_l_name.nd rfl (.inl rfl) (pe_c C.l_pick hr (by decide) rfl (pa_cons (pv 0) (pa_cons (pv 1) (pa_cons (pe_callB call_len_str (by rfl) B.len bt_len (pa_cons (pv 3) pa_nil)) pa_nil)))))
        (pss_cons (ps_set (i := 9) sc_l_name.nd rfl (.inl rfl) (pe_ix ix_str (pv 5) (pe_c C.l_pick hr (by decide) rfl (pa_cons (pv 0) (pa_cons (pv 1) (pa_cons (pe_ifExp (pt_cmpR op_eq (pv 8) pe_int (nomark _)) pe_int pe_int) pa_nil)))) (fun _ _ => rfl)))
        (pss_one (ps_set (i := 6) sc_l_name.nd rfl (.inl rfl) (pe_op op_add_str (pe_op op_add_str (pe_slice sl_str (pv 3) po_none (po_some (pv 8))) (pv 9)) (pe_slice sl_str (pv 3) (po_some (pe_op op_add (pv 8) pe_int)) po_none)))))))
      (pss_cons (ps_set (i := 10) sc_l_name.nd rfl (.inl rfl) (pe_tup (pa_cons pe_str (pa_cons pe_str (pa_cons pe_str (pa_cons pe_str (pa_cons pe_str (pa_cons pe_str (pa_cons pe_str (pa_cons pe_str (pa_cons pe_str (pa_cons pe_str (pa_cons pe_str (pa_cons pe_str (pa_cons pe_str (pa_cons pe_str (pa_cons pe_str pa_nil)))))))))))))))))
      (pss_cons (ps_for PassesOwn.never rfl (pi_range1 (by rfl) B.range (pa_cons (pe_op op_add (pe_callB call_len_seq (by rfl) B.len bt_len (pa_cons (pv 2) pa_nil)) pe_int) pa_nil)) (pg_name (i := 11) sc_l_name.nd rfl (.inl rfl)) 
        (pss_cons (ps_if (PW.pt (pw_and (pt_cmpR op_notIn_seq (pv 6) (pv 2) rfl) (pw_and1 (pt_cmpR op_notIn_seq (pv 6) (pv 10) rfl)))) 
          (pss_one (ps_ret (pv 6))) pss_nil)
        (pss_one (ps_set (i := 6) sc_l_name.nd rfl (.inl rfl) (pe_op op_add_str (pe_op op_add_str (pe_ix ix_str (pv 4) (pe_op op_mod (pv 11) pe_int) (fun _ _ => rfl)) (pe_ix ix_str (pv 4) (pe_op op_mod (pe_op op_fdiv (pv 11) pe_int) pe_int) (fun _ _ => rfl))) (pe_ix ix_str (pv 5) (pe_op op_add pe_int (pe_op op_mod (pv 11) pe_int)) (fun _ _ => rfl)))))))
      (pss_one (ps_ret (pv 6)))))))), ?_⟩
    have l26 : (("abcdefghijklmnopqrstuvwxyz" : Str)).length = 26 := by decide +kernel
    have l36 : (("abcdefghijklmnopqrstuvwxyz" : Str) ++ ("0123456789" : Str)).length = 36 := by decide +kernel
    have hlat := let_at
    have hsat := sig_at
    generalize hlet : ("abcdefghijklmnopqrstuvwxyz" : Str) = letters at l26 l36 hlat hsat
    refine ⟨_, rfl, _, _, rfl, rfl, ?_, ?_⟩
    · have e := l36
      rw [Str.length_append] at e
      rw [e]
      decide
    dsimp only [gName]
    generalize hsig : letters ++ ("0123456789" : Str) = signs at l36 hsat
    -- the first name
    refine ⟨fun σ' H2 => ∃ (z : Str) (y7 y8 y9 : Option V), σ' = [some (.ref nb), some (.ref pl), some (.ref nm), some (.str stem), some (.str letters), some (.str signs), some (.str z), y7, y8, y9, none, none] ∧ H2 = H ∧ 1 ≤ z.length ∧ z.length ≤ 8, ?_, ?_⟩
    · refine ⟨_, rfl, rfl, _, rfl, ite2 (fun e => ?_) (fun e => ?_)⟩
      · -- stem == ""
        refine ⟨_, rfl, _, rfl, _, rfl, nb, pl, ns, 26, rfl, hS, hne, hat, by decide, fun v v0 v1 => ?_⟩
        obtain ⟨c, hc⟩ := at_str (z := letters) (toNat_eq v0) (by omega)
        refine ⟨letters, v, c, rfl, rfl, by rw [l26]; decide, hc, ?_⟩
        refine ⟨_, rfl, _, rfl, nb, pl, ns, 8, rfl, hS, hne, hat, by decide, fun n n0 n1 => ⟨n, rfl, by omega, by omega, ?_⟩⟩
        refine for_range (n := n.toNat) (fun i σ H3 => ∃ z y7, σ = [some (.ref nb), some (.ref pl), some (.ref nm), some (.str stem), some (.str letters), some (.str signs), some (.str z), y7, none, none, none, none] ∧ H3 = H ∧ z.length = i + 1)
          ⟨_, _, rfl, rfl, rfl⟩ (fun i σ H3 hi h3 => ?_) (fun σ H3 h3 => ?_)
        · obtain ⟨z, y7, rfl, rfl, hz⟩ := h3
          refine ⟨_, rfl, _, rfl, _, rfl, _, rfl, nb, pl, ns, 36, rfl, hS, hne, hat, by decide, fun v v0 v1 => ?_⟩
          obtain ⟨c, hc⟩ := at_str (z := signs) (toNat_eq v0) (by omega)
          refine ⟨signs, v, c, rfl, rfl, by rw [l36]; decide, hc, _, _, rfl, rfl, ?_, ?_⟩
          · rw [len_one, hz]
            exact Nat.le_trans (show i + 1 + 1 ≤ 10 by omega) (by decide)
          · refine ⟨_, _, rfl, rfl, ?_⟩
            rw [Str.length_append, len_one, hz]
        · obtain ⟨z, y7, rfl, rfl, hz⟩ := h3
          exact ⟨z, _, _, _, rfl, rfl, by omega, by omega⟩
      · have h1 : 1 ≤ stem.length := Nat.pos_of_ne_zero fun z => e (by rw [str_empty z]; exact decide_eq_true rfl)
        -- place
        refine ⟨_, rfl, _, rfl, _, rfl, stem, rfl, Nat.le_trans hst (by decide), nb, pl, ns, _, rfl, hS, hne, hat, by omega, fun v v0 v1 => ?_⟩
        obtain ⟨p, rfl⟩ : ∃ p : Nat, v = (p : Int) := ⟨v.toNat, by omega⟩
        -- sign
        refine ⟨_, rfl, _, rfl, _, rfl, ?_⟩
        have sign : ∀ (m : Int), 0 < m → m ≤ 36 → ∀ (QQ : VK), (∀ c, QQ (.str ⟨#[c]⟩) H) → spPick K ([.ref nb, .ref pl, .int m] ++ []) H (fun y H2 => rIxS (.str signs) y H2 QQ) E0 := fun m m0 m1 QQ k => ⟨nb, pl, ns, m, rfl, hS, hne, hat, m0, fun v v0 v1 => by
          obtain ⟨c, hc⟩ := at_str (z := signs) (toNat_eq v0) (by omega)
          exact ⟨signs, v, c, rfl, rfl, by rw [l36]; decide, hc, k c⟩⟩
        have rest : ∀ c : Nat, ∃ (z : Str) (y7 y8 y9 : Option V), ([some (.ref nb), some (.ref pl), some (.ref nm), some (.str stem), some (.str letters), some (.str signs), some (.str (cutS stem none (some (p : Int)) ++ ⟨#[c]⟩ ++ cutS stem (some ((p : Int) + 1)) none)), none, some (.int (p : Int)), some (.str ⟨#[c]⟩), none, none] : L2.St) = [some (.ref nb), some (.ref pl), some (.ref nm), some (.str stem), some (.str letters), some (.str signs), some (.str z), y7, y8, y9, none, none] ∧ H = H ∧ 1 ≤ z.length ∧ z.length ≤ 8 := fun c => by
          refine ⟨_, _, _, _, rfl, rfl, ?_, ?_⟩
          · rw [Str.length_append, Str.length_append, len_one]
            omega
          · rw [Str.length_append, Str.length_append, len_one, cutS_to stem p (by omega), show ((p : Int) + 1) = ((p + 1 : Nat) : Int) from rfl, cutS_from stem (p + 1) (by omega)]
            omega
        have small : ∀ c : Nat, (cutS stem none (some (p : Int)) ++ ⟨#[c]⟩).length + (cutS stem (some ((p : Int) + 1)) none).length ≤ sizeLine := fun c => by
          rw [Str.length_append, len_one, cutS_to stem p (by omega), show ((p : Int) + 1) = ((p + 1 : Nat) : Int) from rfl, cutS_from stem (p + 1) (by omega)]
          exact Nat.le_trans (show _ ≤ 10 by omega) (by decide)
        have small1 : ∀ c : Nat, (cutS stem none (some (p : Int))).length + (⟨#[c]⟩ : Str).length ≤ sizeLine := fun c => by
          rw [len_one, cutS_to stem p (by omega)]
          exact Nat.le_trans (show _ ≤ 10 by omega) (by decide)
        have hst' : stem.length ≤ sizeLine := Nat.le_trans hst (by decide)
        refine ex_if (b := decide (V.int (p : Int) = V.int 0)) (fun Q q => ⟨_, rfl, rfl, _, rfl, q⟩) (fun _ => ?_) (fun _ => ?_)
        · refine sign 26 (by decide) (by decide) _ fun c => ?_
          exact ⟨_, rfl, _, rfl, _, rfl, stem, rfl, hst', _, rfl, _, _, rfl, rfl, small1 c, _, rfl, _, rfl, _, _, rfl, rfl, _, rfl, stem, rfl, hst', _, _, rfl, rfl, small c, rest c⟩
        · refine sign 36 (by decide) (by decide) _ fun c => ?_
          exact ⟨_, rfl, _, rfl, _, rfl, stem, rfl, hst', _, rfl, _, _, rfl, rfl, small1 c, _, rfl, _, rfl, _, _, rfl, rfl, _, rfl, stem, rfl, hst', _, _, rfl, rfl, small c, rest c⟩
    rintro σ' H2 ⟨z, y7, y8, y9, rfl, rfl, z1, z8⟩
    -- words
    refine ⟨by show 15 ≤ sizeLine; decide, fun t nt => ?_⟩
    dsimp only [gName]
    generalize hws : ([V.str _, V.str _, V.str _, V.str _, V.str _, V.str _, V.str _, V.str _, V.str _, V.str _, V.str _, V.str _, V.str _, V.str _, V.str _] : List V) = ws
    have hws2 : ws = wordL.map V.str := hws.symm
    have fw : ws.all flatV = true := by
      rw [hws2]
      exact flat_strs wordL
    have st := same_new (o := .tup ws) nt
    have et : (upd H2 t (.tup ws)) t = some (.tup ws) := upd_same
    generalize hH3 : upd H2 t (.tup ws) = H3 at st et
    refine ⟨.ref nm, rfl, nm, _, rfl, .inl (st.seq hN), _, _, rfl, rfl, _, rfl, by omega, ?_, ?_⟩
    · rw [List.length_map]
      omega
    refine for_range (n := ((((zs.map V.str).length : Nat) : Int) + 20).toNat) (fun i σ H4 => ∃ z y7 y8 y9 y11, σ = [some (.ref nb), some (.ref pl), some (.ref nm), some (.str stem), some (.str letters), some (.str signs), some (.str z), y7, y8, y9, some (.ref t), y11] ∧ H4 = H3 ∧ 1 ≤ z.length ∧ z.length ≤ 8 ∧ (0 < i → z = cand (i - 1)) ∧ ∀ b, b + 1 < i → cand b ∈ zs)
      ⟨z, _, _, _, _, rfl, rfl, z1, z8, fun h => absurd h (Nat.lt_irrefl 0), fun b h => absurd h (by omega)⟩ (fun i σ H4 hi h4 => ?_) (fun σ H4 h4 => ?_)
    · obtain ⟨z, y7, y8, y9, y11, rfl, rfl, z1, z8, zc, zin⟩ := h4
      refine st_if (b := !inV (.str z) (zs.map V.str) && !inV (.str z) ws) (aAnd (fun Q q => ?_) (fun _ Q q => ?_)) (fun hb => ?_) (fun hb => ?_)
      · exact ⟨_, rfl, _, rfl, nm, _, rfl, .inl (st.seq hN), rfl, flat_strs zs, _, rfl, q⟩
      · exact ⟨_, rfl, _, rfl, t, _, rfl, .inr (.of et), rfl, fw, _, rfl, q⟩
      · have hz : z ∉ zs := by
          have h := (and_t hb).1
          rw [inV_strs] at h
          simpa using h
        exact ⟨_, rfl, q z H4 hz z1 z8 st⟩
      · have big : (0 : Int) + (i : Int) = ((i : Nat) : Int) := by omega
        have h1 : atI letters.cps.toList ((0 + (i : Int)) % 26) = some (97 + i % 26) := by
          rw [big, show ((i : Int) % 26) = ((i % 26 : Nat) : Int) by omega]
          exact atI_nat (hlat _ (Nat.mod_lt _ (by decide)))
        have h2 : atI letters.cps.toList ((0 + (i : Int)) / 26 % 26) = some (97 + i / 26 % 26) := by
          rw [big, show ((i : Int) / 26 % 26) = ((i / 26 % 26 : Nat) : Int) by omega]
          exact atI_nat (hlat _ (Nat.mod_lt _ (by decide)))
        have h3 : atI signs.cps.toList (26 + (0 + (i : Int)) % 10) = some (48 + i % 10) := by
          rw [big, show (26 + (i : Int) % 10) = ((26 + i % 10 : Nat) : Int) by omega]
          exact atI_nat (hsat _ (Nat.mod_lt _ (by decide)))
        have s26 : letters.length ≤ sizeLine := by rw [l26]; decide
        have s36 : signs.length ≤ sizeLine := by rw [l36]; decide
        refine ⟨_, rfl, _, rfl, _, _, rfl, rfl, by show (0 : Int) < 26; decide, letters, _, _, rfl, rfl, s26, h1, ?_⟩
        refine ⟨_, rfl, _, rfl, _, _, rfl, rfl, ⟨by decide, by decide⟩, _, _, rfl, rfl, by show (0 : Int) < 26; decide, letters, _, _, rfl, rfl, s26, h2, _, _, rfl, rfl, by rw [len_one, len_one]; decide, ?_⟩
        refine ⟨_, rfl, _, rfl, _, _, rfl, rfl, by show (0 : Int) < 10; decide, _, _, rfl, rfl, signs, _, _, rfl, rfl, s36, h3, _, _, rfl, rfl, by rw [Str.length_append, len_one, len_one, len_one]; decide, ?_⟩
        refine ⟨_, _, _, _, _, rfl, rfl, ?_, ?_, fun _ => rfl, fun b hb' => ?_⟩
        · rw [Str.length_append, Str.length_append, len_one, len_one, len_one]
          decide
        · rw [Str.length_append, Str.length_append, len_one, len_one, len_one]
          decide
        · by_cases hlt : b + 1 < i
          · exact zin b hlt
          · have e : b = i - 1 := by omega
            have hz := zc (by omega)
            rw [inV_strs, hws2, inV_strs] at hb
            rw [e, ← hz]
            have hw := cand_word (i - 1)
            rw [← hz] at hw
            simp only [Bool.and_eq_false_iff, Bool.not_eq_false', decide_eq_true_eq] at hb
            exact hb.resolve_right hw
    · obtain ⟨z, y7, y8, y9, y11, rfl, rfl, z1, z8, _, zin⟩ := h4
      refine absurd (cand_in hzs fun b hb => zin b ?_) id
      rw [List.length_map]
      omega
end
end K78
set_option Elab.async false
set_option linter.all false
set_option maxRecDepth 100000
set_option maxHeartbeats 4000000
namespace K78
open PySem PySem.Spec PyProof.Rows L2 KB
structure Ca2 (P : Program) (w : World) (K : PySem.W.Frag) (mg : Str → Option Value) (base : Heap) : Prop extends Ca P w K mg base where
  l_name : Cal P w K mg base 2 "_law_name" (spName K)
/-- the numbers, their place -/
structure Nb (K : PySem.W.Frag) (H : Hp) (nb pl : Addr) (ns : List Int) : Prop where
  s : SqL K H nb (ns.map V.int)
  ne : ns ≠ []
  at_ : H pl = some (AtO pl)
theorem Nb.up {K : PySem.W.Frag} {H H' : Hp} {nb pl : Addr} {ns : List Int} (h : Nb K H nb pl ns) (e : Same H H') : Nb K H' nb pl ns := ⟨e.seq h.s, h.ne, e _ _ h.at_⟩
section
variable {P : Program} {w : World} {K : PySem.W.Frag} {mg : Str → Option Value} {base : Heap}
def spNames (K : PySem.W.Frag) : Sp := fun vs H Q _ => ∃ (nb pl ah : Addr) (ns : List Int) (zs : List Str) (m : Int), vs = [.ref nb, .ref pl, .int m, .ref ah] ∧ Nb K H nb pl ns ∧
  H ah = some (.lst (zs.map V.str)) ∧ zs.length ≤ 200 ∧ 0 ≤ m ∧ m ≤ 200 ∧ ∀ (p : Addr) (ys : List Str) (H' : Hp), ys.length = m.toNat → ys.Nodup → (∀ y ∈ ys, 1 ≤ y.length ∧ y.length ≤ 8) → Same H H' → H p = none → H' p = some (.lst (ys.map V.str)) → Q (.ref p) H'
theorem c_l_names (D : Dn K mg "_law_names" s_l_names) (B : Bl mg) (C : Ca2 P w K mg base) : Cal P w K mg base 3 "_law_names" (spNames K) := by
  refine cal_of D sc_l_names (fun vs H Q E h => ?_) (fun _ _ _ _ _ _ us hl => match us, hl with | [_, _, _, _], _ => rfl) (fun f cdv A outer s H vs Q E hr h => ?_)
  · obtain ⟨nb, pl, ah, ns, zs, m, rfl, _⟩ := h
    rfl
  · obtain ⟨nb, pl, ah, ns, zs, m, rfl, hN, hA, hzs, m0, m1, q⟩ := h
    refine ⟨_, (pss_cons (ps_set (i := 4) sc_l_names.nd rfl (.inl rfl) pe_str)
      (Evl.pss_cut (ps_if (pt_cmpR op_eq (pe_c C.l_pick hr (by decide) rfl (pa_cons (pv 0) (pa_cons (pv 1) (pa_cons pe_int pa_nil)))) pe_int (nomark _)) 
        (pss_one (ps_set (i := 4) sc_l_names.nd rfl (.inl rfl) (pe_c C.l_name hr (by decide) rfl (pa_cons (pv 0) (pa_cons (pv 1) (pa_cons (pv 3) (pa_cons pe_str pa_nil))))))) pss_nil)
      (pss_cons (ps_set (i := 5) sc_l_names.nd rfl (.inl rfl) (pe_lst pa_nil))
      (pss_cons (ps_for PassesOwn.never rfl (pi_range1 (by rfl) B.range (pa_cons (pv 2) pa_nil)) (pg_name (i := 6) sc_l_names.nd rfl (.inl rfl)) 
        (pss_one (ps_expr (pe_bm PySem.F.plainAttrs_list PySem.F.slot_list_append PySem.F.type_list_append mt_append (pv 5) (pa_cons (pe_c C.l_name hr (by decide) rfl (pa_cons (pv 0) (pa_cons (pv 1) (pa_cons (pe_op op_cat (pv 3) (pv 5)) (pa_cons (pv 4) pa_nil))))) pa_nil)))))
      (pss_one (ps_ret (pv 5))))))), ?_⟩
    refine ⟨fun σ' H2 => ∃ stem : Str, σ' = [some (.ref nb), some (.ref pl), some (.int m), some (.ref ah), some (.str stem), none, none] ∧ Same H H2 ∧ stem.length ≤ 8, ?_, ?_⟩
    · refine ⟨_, rfl, _, rfl, nb, pl, ns, 2, rfl, hN.s, hN.ne, hN.at_, by decide, fun v v0 v1 => ⟨rfl, _, rfl, ite2 (fun e => ?_) (fun e => ?_)⟩⟩
      · exact ⟨_, rfl, _, rfl, _, rfl, nb, pl, ah, ns, zs, "", rfl, hN.s, hN.ne, hN.at_, .of hA, by omega, by decide, fun z H' _ z1 z8 s1 => ⟨z, rfl, s1, z8⟩⟩
      · exact ⟨"", rfl, Same.refl H, by decide⟩
    rintro σ' H2 ⟨stem, rfl, s2, hst⟩
    refine ⟨by show 0 ≤ sizeLine; decide, fun p np => ?_⟩
    have npH : H p = none := s2.free np
    refine ⟨_, rfl, m, rfl, by omega, by omega, ?_⟩
    refine for_range (n := m.toNat) (fun i σ H3 => ∃ y6 ys, σ = [some (.ref nb), some (.ref pl), some (.int m), some (.ref ah), some (.str stem), some (.ref p), y6] ∧ Same H H3 ∧ H3 p = some (.lst (ys.map V.str)) ∧ ys.length = i ∧ ys.Nodup ∧ ∀ y ∈ ys, 1 ≤ y.length ∧ y.length ≤ 8)
      ⟨_, [], rfl, s2.trans (same_new np), upd_same, rfl, List.nodup_nil, fun y hy => by cases hy⟩ (fun i σ H3 hi h3 => ?_) (fun σ H3 h3 => ?_)
    · obtain ⟨y6, ys, rfl, s3, e3, hl, hnd, hy⟩ := h3
      have hN3 := hN.up s3
      refine ⟨_, rfl, .inl ⟨rfl, _, .of e3⟩, ?_⟩
      refine ⟨_, rfl, _, rfl, _, rfl, _, rfl, ah, p, _, _, rfl, rfl, s3 _ _ hA, e3, ?_, ?_⟩
      · rw [List.length_map, List.length_map]
        exact Nat.le_trans (show zs.length + ys.length ≤ 400 by omega) (by decide)
      intro d nd
      have npd : p ≠ d := ne_of_none e3 nd
      have s4 : Same H3 (upd H3 d (.lst (zs.map V.str ++ ys.map V.str))) := same_new nd
      have hN4 := hN3.up s4
      refine ⟨_, rfl, nb, pl, d, ns, zs ++ ys, stem, rfl, hN4.s, hN4.ne, hN4.at_, .of (by rw [upd_same, List.map_append]), by rw [List.length_append]; omega, hst, fun z H' hz z1 z8 s5 => ?_⟩
      have e5 : H' p = some (.lst (ys.map V.str)) := s5 _ _ (s4 _ _ e3)
      refine ⟨p, _, _, rfl, rfl, e5, by rw [List.length_map]; exact small1000 (by omega), ?_⟩
      refine ⟨_, ys ++ [z], rfl, smut (s3.trans (s4.trans s5)) npH, by rw [upd_same, List.map_append]; rfl, by rw [List.length_append, hl]; rfl, ?_, fun y hy' => ?_⟩
      · rw [List.nodup_append]
        exact ⟨hnd, List.pairwise_singleton _ _, fun x hx y hy => by rw [List.mem_singleton.mp hy]; exact fun e => hz (List.mem_append_right _ (e ▸ hx))⟩
      rcases List.mem_append.mp hy' with h | h
      · exact hy y h
      · rw [List.mem_singleton.mp h]
        exact ⟨z1, z8⟩
    · obtain ⟨y6, ys, rfl, s3, e3, hl, hnd, hy⟩ := h3
      exact ⟨_, rfl, q p ys H3 hl hnd hy s3 npH e3⟩
/-- how many choices the beats give -/
def prods : List Nat → Nat
  | [] => 1
  | n :: r => (1 + n) * prods r
theorem prods_snoc (n : Nat) : ∀ l : List Nat, prods (l ++ [n]) = prods l * (1 + n)
  | [] => by simp [prods]
  | a :: l => by
    show (1 + a) * prods (l ++ [n]) = (1 + a) * prods l * (1 + n)
    rw [prods_snoc n l, Nat.mul_assoc]
structure SizesOk (ss : List Nat) : Prop where
  one : 1 ≤ ss.length
  most : ss.length ≤ 40
  prod : ss.length ≠ 40 → prods ss ≤ 128
  z40 : ss.length = 40 → ss = List.replicate 40 0
  small : ∀ n ∈ ss, n ≤ 31
abbrev nV (n : Nat) : V := .int (n : Int)
def spSizes (K : PySem.W.Frag) : Sp := fun vs H Q _ => ∃ (nb pl : Addr) (ns : List Int), vs = [.ref nb, .ref pl] ∧ Nb K H nb pl ns ∧
  ∀ (p : Addr) (ss : List Nat) (H' : Hp), SizesOk ss → Same H H' → H p = none → H' p = some (.lst (ss.map nV)) → Q (.ref p) H'
theorem c_l_sizes (D : Dn K mg "_law_sizes" s_l_sizes) (B : Bl mg) (C : Ca2 P w K mg base) : Cal P w K mg base 2 "_law_sizes" (spSizes K) := by
  refine cal_of D sc_l_sizes (fun vs H Q E h => ?_) (fun _ _ _ _ _ _ us hl => match us, hl with | [_, _], _ => rfl) (fun f cdv A outer s H vs Q E hr h => ?_)
  · obtain ⟨nb, pl, ns, rfl, _⟩ := h
    rfl
  · obtain ⟨nb, pl, ns, rfl, hN, q⟩ := h
    refine ⟨_, (pss_cons (ps_set (i := 2) sc_l_sizes.nd rfl (.inl rfl) (pe_c C.l_pick hr (by decide) rfl (pa_cons (pv 0) (pa_cons (pv 1) (pa_cons pe_int pa_nil)))))
      (pss_cons (ps_if (pt_cmpR op_eq (pv 2) pe_int (nomark _)) 
        (pss_one (ps_ret (pe_op op_rep (pe_lst (pa_cons pe_int pa_nil)) pe_int))) pss_nil)
      (pss_cons (ps_if (pt_cmpR op_eq (pe_op op_mod (pv 2) pe_int) pe_int (nomark _)) 
        (pss_one (ps_ret (pe_ix ix_list (pe_lst (pa_cons (pe_lst (pa_cons pe_int (pa_cons pe_int (pa_cons pe_int (pa_cons pe_int (pa_cons pe_int (pa_cons pe_int (pa_cons pe_int pa_nil)))))))) (pa_cons (pe_lst (pa_cons pe_int (pa_cons pe_int (pa_cons pe_int (pa_cons pe_int pa_nil))))) (pa_cons (pe_lst (pa_cons pe_int (pa_cons pe_int pa_nil))) (pa_cons (pe_lst (pa_cons pe_int (pa_cons pe_int pa_nil))) (pa_cons (pe_lst (pa_cons pe_int (pa_cons pe_int (pa_cons pe_int pa_nil)))) (pa_cons (pe_lst (pa_cons pe_int (pa_cons pe_int (pa_cons pe_int (pa_cons pe_int (pa_cons pe_int pa_nil)))))) pa_nil))))))) (pe_op op_fdiv (pv 2) pe_int) (fun _ _ => rfl)))) pss_nil)
      (pss_cons (ps_set (i := 3) sc_l_sizes.nd rfl (.inl rfl) (pe_lst pa_nil))
      (pss_cons (ps_set (i := 4) sc_l_sizes.nd rfl (.inl rfl) pe_int)
      (pss_cons (ps_for PassesOwn.never rfl (pi_range1 (by rfl) B.range (pa_cons (pe_op op_add pe_int (pe_c C.l_pick hr (by decide) rfl (pa_cons (pv 0) (pa_cons (pv 1) (pa_cons pe_int pa_nil))))) pa_nil)) (pg_name (i := 5) sc_l_sizes.nd rfl (.inl rfl)) 
        (pss_cons (ps_set (i := 6) sc_l_sizes.nd rfl (.inl rfl) (pe_c C.l_pick hr (by decide) rfl (pa_cons (pv 0) (pa_cons (pv 1) (pa_cons pe_int pa_nil)))))
        (Evl.pss_cut (ps_if (pt_cmpR op_eq (pe_op op_mod (pv 2) pe_int) pe_int (nomark _)) 
          (pss_one (ps_set (i := 6) sc_l_sizes.nd rfl (.inl rfl) (pe_op op_add pe_int (pe_op op_mod (pv 6) pe_int)))) pss_nil)
        (Evl.pss_cut (ps_if (pt_cmpR op_gt (pe_op op_mul (pv 4) (pe_op op_add pe_int (pv 6))) pe_int (nomark _)) 
          (pss_one (ps_set (i := 6) sc_l_sizes.nd rfl (.inl rfl) pe_int)) pss_nil)
        (pss_cons (ps_set (i := 4) sc_l_sizes.nd rfl (.inl rfl) (pe_op op_mul (pv 4) (pe_op op_add pe_int (pv 6))))
        (pss_one (ps_expr (pe_bm PySem.F.plainAttrs_list PySem.F.slot_list_append PySem.F.type_list_append mt_append (pv 3) (pa_cons (pv 6) pa_nil)))))))))
      (pss_one (ps_ret (pv 3))))))))), ?_⟩
    refine ⟨_, rfl, _, rfl, nb, pl, ns, 42, rfl, hN.s, hN.ne, hN.at_, by decide, fun v v0 v1 => ?_⟩
    dsimp only [gName]
    -- shape == 5
    refine ⟨_, rfl, rfl, _, rfl, ite2 (fun e => ?_) (fun e => ?_)⟩
    · refine ⟨by show 1 ≤ sizeLine; decide, fun d nd => ⟨d, 40, _, rfl, rfl, upd_same, by decide, by decide, by show 1 * 40 ≤ sizeLine; decide, fun p np => ?_⟩⟩
      refine q p (List.replicate 40 0) _ ⟨by decide, by decide, fun h => absurd rfl h, fun _ => rfl, fun n hn => by rw [List.eq_of_mem_replicate hn]; decide⟩ ((same_new nd).trans (same_new np)) ((same_new nd).free np) ?_
      rw [upd_same]
      rfl
    -- shape % 7 == 0
    refine ⟨_, rfl, _, _, rfl, rfl, by show (0 : Int) < 7; decide, rfl, _, rfl, ite2 (fun e7 => ?_) (fun _ => ?_)⟩
    · have e7' : v % 7 = 0 := V.int.inj (of_decide_eq_true e7)
      refine ⟨by show 7 ≤ sizeLine; decide, fun p1 n1 => ?_⟩
      refine ⟨by show 4 ≤ sizeLine; decide, fun p2 n2 => ?_⟩
      refine ⟨by show 2 ≤ sizeLine; decide, fun p3 n3 => ?_⟩
      refine ⟨by show 2 ≤ sizeLine; decide, fun p4 n4 => ?_⟩
      refine ⟨by show 3 ≤ sizeLine; decide, fun p5 n5 => ?_⟩
      refine ⟨by show 5 ≤ sizeLine; decide, fun p6 n6 => ?_⟩
      refine ⟨by show 6 ≤ sizeLine; decide, fun p7 n7 => ?_⟩
      have s1 := same_new (o := .lst [.int 1, .int 1, .int 1, .int 1, .int 1, .int 1, .int 1]) n1
      have f1 := upd_same (H := H) (a := p1) (o := .lst [.int 1, .int 1, .int 1, .int 1, .int 1, .int 1, .int 1])
      generalize hh1 : upd H p1 _ = H1 at n2 n3 n4 n5 n6 n7 s1 f1 ⊢
      have s2 := same_new (o := .lst [.int 3, .int 3, .int 3, .int 1]) n2
      have f2 := upd_same (H := H1) (a := p2) (o := .lst [.int 3, .int 3, .int 3, .int 1])
      generalize hh2 : upd H1 p2 _ = H2 at n3 n4 n5 n6 n7 s2 f2 ⊢
      have s3 := same_new (o := .lst [.int 15, .int 7]) n3
      have f3 := upd_same (H := H2) (a := p3) (o := .lst [.int 15, .int 7])
      generalize hh3 : upd H2 p3 _ = H3 at n4 n5 n6 n7 s3 f3 ⊢
      have s4 := same_new (o := .lst [.int 31, .int 3]) n4
      have f4 := upd_same (H := H3) (a := p4) (o := .lst [.int 31, .int 3])
      generalize hh4 : upd H3 p4 _ = H4 at n5 n6 n7 s4 f4 ⊢
      have s5 := same_new (o := .lst [.int 7, .int 7, .int 1]) n5
      have f5 := upd_same (H := H4) (a := p5) (o := .lst [.int 7, .int 7, .int 1])
      generalize hh5 : upd H4 p5 _ = H5 at n6 n7 s5 f5 ⊢
      have s6 := same_new (o := .lst [.int 1, .int 3, .int 1, .int 3, .int 1]) n6
      have f6 := upd_same (H := H5) (a := p6) (o := .lst [.int 1, .int 3, .int 1, .int 3, .int 1])
      generalize hh6 : upd H5 p6 _ = H6 at n7 s6 f6 ⊢
      have s7 := same_new (o := .lst [.ref p1, .ref p2, .ref p3, .ref p4, .ref p5, .ref p6]) n7
      have f7 := upd_same (H := H6) (a := p7) (o := .lst [.ref p1, .ref p2, .ref p3, .ref p4, .ref p5, .ref p6])
      generalize hh7 : upd H6 p7 _ = H7 at s7 f7 ⊢
      have t7 := s7
      have t6 := s6.trans t7
      have t5 := s5.trans t6
      have t4 := s4.trans t5
      have t3 := s3.trans t4
      have t2 := s2.trans t3
      have t1 := s1.trans t2
      have g1 : H p1 = none := n1
      have g2 : H p2 = none := s1.free n2
      have g3 : H p3 = none := (s1.trans s2).free n3
      have g4 : H p4 = none := (s1.trans (s2.trans s3)).free n4
      have g5 : H p5 = none := (s1.trans (s2.trans (s3.trans s4))).free n5
      have g6 : H p6 = none := (s1.trans (s2.trans (s3.trans (s4.trans s5)))).free n6
      have fin : ∀ (j : Nat) (p : Addr) (ss : List Nat), v / 7 = (j : Int) → ([.ref p1, .ref p2, .ref p3, .ref p4, .ref p5, .ref p6] : List V)[j]? = some (.ref p) → SizesOk ss → H p = none → H7 p = some (.lst (ss.map nV)) →
          ∃ v' : V, some (some (.int v)) = some (some v') ∧ tC (.int 7) ([] : L2.St) H7 (fun y H2 => rI CDiv (fun i j => V.int (i / j)) v' y H2 fun y H2 => rIxL K (.ref p7) y H2 Q) := fun j p ss ej hp ok hn he =>
        ⟨_, rfl, _, _, rfl, rfl, ⟨by decide, by decide⟩, p7, _, _, _, rfl, rfl, .of f7, at_of ej hp, q p ss H7 ok t1 hn he⟩
      have hc : v / 7 = (0 : Nat) ∨ v / 7 = (1 : Nat) ∨ v / 7 = (2 : Nat) ∨ v / 7 = (3 : Nat) ∨ v / 7 = (4 : Nat) ∨ v / 7 = (5 : Nat) := by omega
      have mk : ∀ ss : List Nat, (decide (1 ≤ ss.length) && decide (ss.length ≤ 7) && decide (prods ss ≤ 128) && ss.all (fun n => decide (n ≤ 31))) = true → SizesOk ss := fun ss h => by
        simp only [Bool.and_eq_true, decide_eq_true_eq, List.all_eq_true] at h
        obtain ⟨⟨⟨h1, h2⟩, h3⟩, h4⟩ := h
        exact ⟨h1, by omega, fun _ => h3, fun z => by omega, h4⟩
      rcases hc with z | z | z | z | z | z
      · exact fin 0 p1 [1, 1, 1, 1, 1, 1, 1] z rfl (mk _ (by decide)) g1 (t2 _ _ f1)
      · exact fin 1 p2 [3, 3, 3, 1] z rfl (mk _ (by decide)) g2 (t3 _ _ f2)
      · exact fin 2 p3 [15, 7] z rfl (mk _ (by decide)) g3 (t4 _ _ f3)
      · exact fin 3 p4 [31, 3] z rfl (mk _ (by decide)) g4 (t5 _ _ f4)
      · exact fin 4 p5 [7, 7, 1] z rfl (mk _ (by decide)) g5 (t6 _ _ f5)
      · exact fin 5 p6 [1, 3, 1, 3, 1] z rfl (mk _ (by decide)) g6 (t7 _ _ f6)
    -- sizes = [], product = 1
    refine ⟨by show 0 ≤ sizeLine; decide, fun p np => ?_⟩
    have sp1 := same_new (o := .lst []) np
    have hN1 := hN.up sp1
    refine ⟨_, rfl, _, rfl, nb, pl, ns, 6, rfl, hN1.s, hN1.ne, hN1.at_, by decide, fun n n0 n1 => ⟨_, _, rfl, rfl, _, rfl, by omega, by omega, ?_⟩⟩
    refine for_range (n := (1 + n).toNat) (fun i σ H3 => ∃ y5 y6 ss, σ = [some (.ref nb), some (.ref pl), some (.int v), some (.ref p), some (.int ((prods ss : Nat) : Int)), y5, y6] ∧ Same H H3 ∧ H3 p = some (.lst (ss.map nV)) ∧ ss.length = i ∧ prods ss ≤ 48 ∧ ∀ n ∈ ss, n ≤ 31)
      ⟨_, _, [], rfl, sp1, upd_same, rfl, by decide, fun n hn => by cases hn⟩ (fun i σ H3 hi h3 => ?_) (fun σ H3 h3 => ?_)
    · obtain ⟨y5, y6, ss, rfl, s3, e3, hl, hp, hs⟩ := h3
      have hN3 := hN.up s3
      refine ⟨_, rfl, _, rfl, nb, pl, ns, 4, rfl, hN3.s, hN3.ne, hN3.at_, by decide, fun k k0 k1 => ?_⟩
      dsimp only [gName]
      refine ⟨fun σ' H4 => ∃ k : Nat, σ' = [some (.ref nb), some (.ref pl), some (.int v), some (.ref p), some (.int ((prods ss : Nat) : Int)), some (.int (0 + (i : Int))), some (.int (k : Int))] ∧ H4 = H3 ∧ k ≤ 3, ?_, ?_⟩
      · refine ⟨_, rfl, _, _, rfl, rfl, by show (0 : Int) < 5; decide, rfl, _, rfl, ite2 (fun _ => ?_) (fun _ => ?_)⟩
        · refine ⟨_, rfl, _, _, rfl, rfl, by show (0 : Int) < 2; decide, _, _, rfl, rfl, (1 + k % 2).toNat, ?_, rfl, by omega⟩
          rw [Int.toNat_of_nonneg (by omega)]
          rfl
        · refine ⟨k.toNat, ?_, rfl, by omega⟩
          rw [Int.toNat_of_nonneg k0]
          rfl
      rintro σ' H4 ⟨k, rfl, rfl, hk⟩
      refine ⟨fun σ' H5 => ∃ k : Nat, σ' = [some (.ref nb), some (.ref pl), some (.int v), some (.ref p), some (.int ((prods ss : Nat) : Int)), some (.int (0 + (i : Int))), some (.int (k : Int))] ∧ H5 = H4 ∧ k ≤ 3 ∧ prods ss * (1 + k) ≤ 48, ?_, ?_⟩
      · refine ⟨_, rfl, _, rfl, _, _, rfl, rfl, _, _, rfl, rfl, .inl ⟨by omega, by omega⟩, _, _, rfl, rfl, _, rfl, ite2 (fun _ => ?_) (fun e => ?_)⟩
        · exact ⟨0, rfl, rfl, by omega, by omega⟩
        · refine ⟨k, rfl, rfl, hk, ?_⟩
          have e' : ¬ ((48 : Int) < ((prods ss : Nat) : Int) * (1 + (k : Int))) := fun z => e (decide_eq_true z)
          have e2 : (((prods ss * (1 + k) : Nat)) : Int) = ((prods ss : Nat) : Int) * (1 + (k : Int)) := by
            rw [Int.natCast_mul, Int.natCast_add]
            rfl
          omega
      rintro σ' H5 ⟨k, rfl, rfl, hk, hpk⟩
      refine ⟨_, rfl, _, rfl, _, _, rfl, rfl, _, _, rfl, rfl, .inl ⟨by omega, by omega⟩, ?_⟩
      refine ⟨_, rfl, .inl ⟨rfl, _, .of e3⟩, _, rfl, p, _, _, rfl, rfl, e3, by rw [List.length_map]; exact small1000 (by omega), ?_⟩
      refine ⟨some (.int (0 + (i : Int))), some (.int (k : Int)), ss ++ [k], ?_, smut s3 np, by rw [upd_same, List.map_append]; rfl, by rw [List.length_append, hl]; rfl, by rw [prods_snoc]; exact hpk, fun n hn => ?_⟩
      · rw [prods_snoc, Int.natCast_mul, Int.natCast_add]
        rfl
      · rcases List.mem_append.mp hn with h | h
        · exact hs n h
        · rw [List.mem_singleton.mp h]
          omega
    · obtain ⟨y5, y6, ss, rfl, s3, e3, hl, hp, hs⟩ := h3
      exact ⟨_, rfl, q p ss H3 ⟨by omega, by omega, fun _ => by omega, fun z => by omega, hs⟩ s3 np e3⟩
end
end K78
set_option Elab.async false
set_option linter.all false
set_option maxRecDepth 100000
set_option maxHeartbeats 4000000
namespace KB
open PySem PySem.Spec PyProof.Rows L2
/-! ### texts sorted -/
def leS (a b : Str) : Bool := decide (a.cps.toList ≤ b.cps.toList)
abbrev qS (z : Str) : V × PyData := (V.str z, PyData.str z)
theorem leS_trans (a b c : Str) (h1 : leS a b = true) (h2 : leS b c = true) : leS a c = true := by
  unfold leS at *
  rw [decide_eq_true_eq] at *
  exact List.le_trans h1 h2
theorem leS_total (a b : Str) : (leS a b || leS b a) = true := by
  unfold leS
  rw [Bool.or_eq_true, decide_eq_true_eq, decide_eq_true_eq]
  exact List.le_total _ _
open PySem.W in
theorem le_qS (a b : Str) : leS a b = dataLe false Prod.snd (qS a) (qS b) := (congrFun (congrFun (dataLe_str (fun z : Str => z)) a) b).symm
open PySem.W in
theorem sort_strs (zs : List Str) : (zs.map qS).mergeSort (dataLe false Prod.snd) = (zs.mergeSort leS).map qS :=
  (List.map_mergeSort (f := qS) fun a _ b _ => le_qS a b).symm
theorem sorted_strs (zs : List Str) : (zs.mergeSort leS).Pairwise fun a b => leS a b = true := List.pairwise_mergeSort leS_trans leS_total zs
theorem fst_qS (zs : List Str) : (zs.map qS).map (·.1) = zs.map V.str := by rw [List.map_map]; rfl
theorem snd_qS (zs : List Str) : (zs.map qS).map (·.2) = zs.map PyData.str := by rw [List.map_map]; rfl
theorem sort_read {K : PySem.W.Frag} {H : Hp} {a : Addr} {zs : List Str} {Q : VK} (h : SqL K H a (zs.map V.str)) (q : ∀ p, H p = none → Q (.ref p) (upd H p (.lst ((zs.mergeSort leS).map V.str)))) : rSortD K [.ref a] H Q := by
  refine ⟨a, zs.map qS, rfl, by rw [fst_qS]; exact h, fun x hx => ?_, fun d hd e he => ?_, .inr fun d hd => ?_, fun x hx => ?_, fun p hp => ?_⟩
  · obtain ⟨z, _, rfl⟩ := List.mem_map.mp hx
    exact .str z
  · rw [snd_qS] at hd he
    obtain ⟨z, _, rfl⟩ := List.mem_map.mp hd
    obtain ⟨y, _, rfl⟩ := List.mem_map.mp he
    rfl
  · rw [snd_qS] at hd
    obtain ⟨z, _, rfl⟩ := List.mem_map.mp hd
    exact ⟨fun z => (by cases z), fun xs z => (by cases z)⟩
  · obtain ⟨z, _, rfl⟩ := List.mem_map.mp hx
    exact Nat.zero_le _
  · rw [sort_strs, fst_qS]
    exact q p hp
/-- all but what stands at a is as it was -/
def SameB (a : Addr) (H H' : Hp) : Prop := ∀ b o, b ≠ a → H b = some o → H' b = some o
theorem SameB.of {a : Addr} {H H' : Hp} (e : Same H H') : SameB a H H' := fun b o _ h => e b o h
theorem SameB.trans {a : Addr} {H H1 H2 : Hp} (e : SameB a H H1) (f : SameB a H1 H2) : SameB a H H2 := fun b o n h => f b o n (e b o n h)
theorem SameB.self {a : Addr} {H H' : Hp} {o : HO} (e : SameB a H H') : SameB a H (upd H' a o) := fun b u n h => by
  rw [upd_ne n]
  exact e b u n h
theorem SameB.mut {a p : Addr} {H H' : Hp} {o : HO} (e : SameB a H H') (hp : H p = none) : SameB a H (upd H' p o) := fun b u n h => by
  rw [upd_ne (ne_of_none h hp)]
  exact e b u n h
end KB
namespace K78
open PySem PySem.Spec PyProof.Rows L2 KB
theorem rotNodup (ps : List Str) (nd : ps.Nodup) (st n : Nat) (h : n ≤ ps.length) : ((List.range n).map fun k => ps.getD ((st + k) % ps.length) "").Nodup := by
  refine List.Pairwise.map _ (R := fun a b => a < b ∧ b < n) (fun a b hab e => ?_) ((List.pairwise_lt_range (n := n)).imp_of_mem fun ha hb h => ⟨h, List.mem_range.mp hb⟩)
  have hL : 0 < ps.length := by omega
  have ia : (st + a) % ps.length < ps.length := Nat.mod_lt _ hL
  have ib : (st + b) % ps.length < ps.length := Nat.mod_lt _ hL
  rw [List.getD_eq_getElem?_getD, List.getD_eq_getElem?_getD, List.getElem?_eq_getElem ia, List.getElem?_eq_getElem ib] at e
  have e' : ps[(st + a) % ps.length] = ps[(st + b) % ps.length] := e
  have e2 := (List.getElem_inj nd).mp e'
  have e3 := Nat.sub_mod_eq_zero_of_mod_eq e2.symm
  rw [show st + b - (st + a) = b - a by omega, Nat.mod_eq_of_lt (by omega)] at e3
  omega
theorem prods_set : ∀ (l : List Nat) (i : Nat), prods (l.set i 1) ≤ 2 * prods l
  | [], i => by simp [prods]
  | a :: l, 0 => by
    show (1 + 1) * prods l ≤ 2 * ((1 + a) * prods l)
    exact Nat.mul_le_mul (Nat.le_refl 2) (Nat.le_mul_of_pos_left _ (by omega))
  | a :: l, i + 1 => by
    have ih := prods_set l i
    show (1 + a) * prods (l.set i 1) ≤ 2 * ((1 + a) * prods l)
    calc (1 + a) * prods (l.set i 1) ≤ (1 + a) * (2 * prods l) := Nat.mul_le_mul_left _ ih
      _ = 2 * ((1 + a) * prods l) := by rw [← Nat.mul_assoc, Nat.mul_comm (1 + a) 2, Nat.mul_assoc]
theorem prods_zero : ∀ n : Nat, prods (List.replicate n 0) = 1
  | 0 => rfl
  | n + 1 => by
    show (1 + 0) * prods (List.replicate n 0) = 1
    rw [prods_zero n]
abbrev strsD (u : List Str) : PyData := .tuple (u.map PyData.str)
/-- what the patches up at the beats are -/
structure UpsOk (ups : List (List Str)) : Prop where
  one : 1 ≤ ups.length
  most : ups.length ≤ 40
  prod : prods (ups.map List.length) ≤ 128
  srt : ∀ u ∈ ups, u.Pairwise fun a b => leS a b = true
  small : ∀ u ∈ ups, u.length ≤ 31
  nd : ∀ u ∈ ups, u.Nodup
  len : ∀ u ∈ ups, ∀ z ∈ u, 1 ≤ z.length ∧ z.length ≤ 8
section
variable {P : Program} {w : World} {K : PySem.W.Frag} {mg : Str → Option Value} {base : Heap}
def spUps (K : PySem.W.Frag) : Sp := fun vs H Q _ => ∃ (nb pl sz pa : Addr) (ns : List Int) (ss : List Nat) (ps : List Str), vs = [.ref nb, .ref pl, .ref sz, .ref pa] ∧ Nb K H nb pl ns ∧ nb ≠ sz ∧ H sz = some (.lst (ss.map nV)) ∧ SizesOk ss ∧
  H pa = some (.lst (ps.map V.str)) ∧ pa ≠ sz ∧ 1 ≤ ps.length ∧ ps.length ≤ 200 ∧ ps.Nodup ∧ (∀ y ∈ ps, 1 ≤ y.length ∧ y.length ≤ 8) ∧ (∀ n ∈ ss, n ≤ ps.length) ∧
  ∀ (p : Addr) (xs : List V) (ups : List (List Str)) (H' : Hp), UpsOk ups → SameB sz H H' → H p = none → H' p = some (.lst xs) → TpAll K H' xs (ups.map strsD) → Q (.ref p) H'
theorem c_l_ups (D : Dn K mg "_law_ups" s_l_ups) (B : Bl mg) (C : Ca2 P w K mg base) : Cal P w K mg base 2 "_law_ups" (spUps K) := by
  refine cal_of D sc_l_ups (fun vs H Q E h => ?_) (fun _ _ _ _ _ _ us hl => match us, hl with | [_, _, _, _], _ => rfl) (fun f cdv A outer s H vs Q E hr h => ?_)
  · obtain ⟨nb, pl, sz, pa, ns, ss, ps, rfl, _⟩ := h
    rfl
  · obtain ⟨nb, pl, sz, pa, ns, ss, ps, rfl, hN, nsz, hsz, hok, hpa, psz, hp1, hp2, hpn, hpl, hpm, q⟩ := h
    refine ⟨_, (Evl.pss_cut (ps_if (pt_cmpR op_eq (pe_callB call_len_seq (by rfl) B.len bt_len (pa_cons (pv 2) pa_nil)) pe_int (nomark _)) 
        (pss_cons (ps_set (i := 4) sc_l_ups.nd rfl (.inl rfl) (pe_c C.l_pick hr (by decide) rfl (pa_cons (pv 0) (pa_cons (pv 1) (pa_cons pe_int pa_nil)))))
        (pss_one (ps_for PassesOwn.never rfl (pi_range1 (by rfl) B.range (pa_cons pe_int pa_nil)) (pg_name (i := 5) sc_l_ups.nd rfl (.inl rfl)) 
          (pss_one (ps_asg pe_int (pg_sub (pv 2) (pe_op op_sub (pe_op op_add (pv 4) (pe_op op_mul pe_int (pv 5))) (pe_op op_mod (pe_c C.l_pick hr (by decide) rfl (pa_cons (pv 0) (pa_cons (pv 1) (pa_cons pe_int pa_nil)))) (pe_op op_add (pv 4) pe_int))) set_list)))))) pss_nil)
      (pss_cons (ps_set (i := 6) sc_l_ups.nd rfl (.inl rfl) (pe_lst pa_nil))
      (pss_cons (ps_for PassesOwn.never rfl (pi_list (pv 2)) (pg_name (i := 7) sc_l_ups.nd rfl (.inl rfl)) 
        (pss_cons (ps_set (i := 8) sc_l_ups.nd rfl (.inr rfl) (pe_c C.l_pick hr (by decide) rfl (pa_cons (pv 0) (pa_cons (pv 1) (pa_cons (pe_callB call_len_seq (by rfl) B.len bt_len (pa_cons (pv 3) pa_nil)) pa_nil)))))
        (Evl.pss_cut (ps_if (pt_cmpR op_eq (pe_c C.l_pick hr (by decide) rfl (pa_cons (pv 0) (pa_cons (pv 1) (pa_cons pe_int pa_nil)))) pe_int (nomark _)) 
          (pss_one (ps_set (i := 8) sc_l_ups.nd rfl (.inr rfl) pe_int)) pss_nil)
        (pss_one (ps_expr (pe_bm PySem.F.plainAttrs_list PySem.F.slot_list_append PySem.F.type_list_append mt_append (pv 6) (pa_cons (pe_callTy call_tuple_of (by rfl) B.tuple bt_tuple (pa_cons (pe_callB (cr_sortD hr.units) (by rfl) B.sorted bt_sorted (pa_cons (pe_lc (own := [("place", 9)]) (by rfl) sc_l_ups.nd (pi_range1 (by rfl) B.range (pa_cons (pv 7) pa_nil)) (blkOk_by (N := n_l_ups) (sc := defScope s_l_ups) (by decide +kernel)) (fun _ _ _ _ _ => (pg_name (i := 9) sc_l_ups.nd rfl (.inl rfl))) (fun _ _ _ _ _ => pts_nil) (fun _ _ _ _ _ => (pe_ix (ix_listK K rfl) (pv 3) (pe_op op_mod (pe_op op_add (pv 8) (pv 9)) (pe_callB (len_seqK K rfl) (by rfl) B.len bt_len (pa_cons (pv 3) pa_nil))) (fun _ _ => rfl)))) pa_nil)) pa_nil)) pa_nil)))))))
      (pss_one (ps_ret (pv 6)))))), ?_⟩
    have plsz : pl ≠ sz := ne_of hN.at_ hsz (fun z => by cases z)
    have nbUp : ∀ {H' : Hp}, SameB sz H H' → Nb K H' nb pl ns := fun {H'} e => by
      refine ⟨?_, hN.ne, e _ _ plsz hN.at_⟩
      rcases hN.s with (h | ⟨o, h⟩) | h
      · exact .inl (.inl (e _ _ nsz h))
      · exact .inl (.inr ⟨o, e _ _ nsz h⟩)
      · exact .inr h
    -- the forty beats
    refine ⟨fun σ' H2 => ∃ (y4 y5 : Option V) (ss : List Nat), σ' = [some (.ref nb), some (.ref pl), some (.ref sz), some (.ref pa), y4, y5, none, none, none, none] ∧ SameB sz H H2 ∧ H2 sz = some (.lst (ss.map nV)) ∧ 1 ≤ ss.length ∧ ss.length ≤ 40 ∧ prods ss ≤ 128 ∧ (∀ n ∈ ss, n ≤ ps.length) ∧ ∀ n ∈ ss, n ≤ 31, ?_, ?_⟩
    · refine ⟨_, rfl, sz, _, rfl, .inl (.of hsz), rfl, _, rfl, ite2 (fun e => ?_) (fun e => ?_)⟩
      · have e40 : ss.length = 40 := by
          have z : (((ss.map nV).length : Nat) : Int) = 40 := V.int.inj (of_decide_eq_true e)
          rw [List.length_map] at z
          omega
        have hz := hok.z40 e40
        refine ⟨_, rfl, _, rfl, nb, pl, ns, 6, rfl, hN.s, hN.ne, hN.at_, by decide, fun a a0 a1 => ?_⟩
        refine ⟨7, rfl, by decide, by decide, ?_⟩
        refine for_range (n := 7) (fun i σ H3 => ∃ y5 ss, σ = [some (.ref nb), some (.ref pl), some (.ref sz), some (.ref pa), some (.int a), y5, none, none, none, none] ∧ SameB sz H H3 ∧ H3 sz = some (.lst (ss.map nV)) ∧ ss.length = 40 ∧ prods ss ≤ 2 ^ i ∧ (∀ n ∈ ss, n ≤ ps.length) ∧ ∀ n ∈ ss, n ≤ 31)
          ⟨_, ss, rfl, SameB.of (Same.refl H), hsz, e40, by rw [hz, prods_zero]; decide, hpm, hok.small⟩ (fun i σ H3 hi h3 => ?_) (fun σ H3 h3 => ?_)
        · obtain ⟨y5, ss, rfl, s3, e3, hl, hp, hm, hs⟩ := h3
          have hN3 := nbUp s3
          refine ⟨.ref sz, rfl, _, rfl, _, rfl, _, _, rfl, rfl, .inl ⟨by decide, by decide⟩, _, _, rfl, rfl, ?_⟩
          refine ⟨_, rfl, _, rfl, nb, pl, ns, 3, rfl, hN3.s, hN3.ne, hN3.at_, by decide, fun b b0 b1 => ?_⟩
          have m0 := Int.emod_nonneg b (show a + 1 ≠ 0 by omega)
          have m1 := Int.emod_lt_of_pos b (show 0 < a + 1 by omega)
          refine ⟨_, rfl, _, _, rfl, rfl, _, _, rfl, rfl, by show (0 : Int) < a + 1; omega, _, _, rfl, rfl, ?_⟩
          have hix : ∃ j : Nat, a + 5 * (0 + (i : Int)) - b % (a + 1) = (j : Int) ∧ j < 40 := ⟨(a + 5 * (0 + (i : Int)) - b % (a + 1)).toNat, by omega, by omega⟩
          obtain ⟨j, ej, hj⟩ := hix
          refine ⟨sz, _, _, j, rfl, rfl, e3, ixN_of ej (by rw [List.length_map]; omega), ?_⟩
          refine ⟨_, ss.set j 1, rfl, s3.self, by rw [upd_same, List.map_set]; rfl, by rw [List.length_set]; exact hl, ?_, fun n hn => ?_, fun n hn => ?_⟩
          · have h2 := prods_set ss j
            have h3 : 2 ^ (i + 1) = 2 * 2 ^ i := by rw [Nat.pow_succ, Nat.mul_comm]
            omega
          · rcases List.mem_or_eq_of_mem_set hn with h | h
            · exact hm n h
            · omega
          · rcases List.mem_or_eq_of_mem_set hn with h | h
            · exact hs n h
            · omega
        · obtain ⟨y5, ss, rfl, s3, e3, hl, hp, hm, hs⟩ := h3
          exact ⟨_, _, ss, rfl, s3, e3, by omega, by omega, hp, hm, hs⟩
      · have n40 : ss.length ≠ 40 := fun z => e (decide_eq_true (by rw [List.length_map, z]; rfl))
        exact ⟨_, _, ss, rfl, SameB.of (Same.refl H), hsz, hok.one, hok.most, hok.prod n40, hpm, hok.small⟩
    clear hsz hok hpm
    rintro σ' H2 ⟨y4, y5, ss, rfl, s2, hsz, l1, l40, hprod, hpm, hsm⟩
    refine ⟨by show 0 ≤ sizeLine; decide, fun p np => ?_⟩
    dsimp only [gName]
    have npsz : p ≠ sz := (ne_of_none hsz np).symm
    have npH : H p = none := by
      cases e : H p with
      | none => rfl
      | some o => rw [s2 p o npsz e] at np; cases np
    refine ⟨_, rfl, sz, rfl, ⟨_, .of (by rw [upd_ne npsz.symm]; exact hsz)⟩, ?_⟩
    refine for_list (K := K) (a := sz) (xs := ss.map nV) (fun i σ H3 => ∃ y7 y8 y9 xs ups, σ = [some (.ref nb), some (.ref pl), some (.ref sz), some (.ref pa), y4, y5, some (.ref p), y7, y8, y9] ∧ SameB sz H H3 ∧ H3 sz = some (.lst (ss.map nV)) ∧ H3 p = some (.lst xs) ∧ TpAll K H3 xs (ups.map strsD) ∧ ups.map List.length = ss.take i ∧ (∀ u ∈ ups, u.Nodup ∧ ∀ z ∈ u, z ∈ ps) ∧ ∀ u ∈ ups, u.Pairwise fun a b => leS a b = true)
      ⟨_, _, _, [], [], rfl, s2.mut npH, by rw [upd_ne npsz.symm]; exact hsz, upd_same, .nil, rfl, (fun u hu => by cases hu), fun u hu => by cases hu⟩ (fun i σ H3 _ h3 => ?_) (fun i x σ H3 hx h3 => ?_) (fun σ H3 h3 => ?_)
    · obtain ⟨y7, y8, y9, xs, ups, rfl, s3, e3, _⟩ := h3
      exact .of e3
    · obtain ⟨y7, y8, y9, xs, ups, rfl, s3, e3, ep, ht, hlen, hnd, hsrt⟩ := h3
      obtain ⟨n, hn, rfl, hi⟩ := map_at_inv hx
      have hn31 : n ≤ 31 := hsm n (List.mem_of_getElem? hn)
      have hN3 := nbUp s3
      have hpa3 : H3 pa = some (.lst (ps.map V.str)) := s3 _ _ psz hpa
      have lps : (0 : Int) < (((ps.map V.str).length : Nat) : Int) := by
        rw [List.length_map]
        omega
      -- start
      refine ⟨_, rfl, _, rfl, _, rfl, pa, _, rfl, .inl (.of hpa3), nb, pl, ns, _, rfl, hN3.s, hN3.ne, hN3.at_, lps, fun st0 st00 st01 => ?_⟩
      refine ⟨fun σ' H4 => ∃ st : Nat, σ' = [some (.ref nb), some (.ref pl), some (.ref sz), some (.ref pa), y4, y5, some (.ref p), some (.int (n : Int)), some (.int (st : Int)), y9] ∧ H4 = H3, ?_, ?_⟩
      · refine ⟨_, rfl, _, rfl, nb, pl, ns, 3, rfl, hN3.s, hN3.ne, hN3.at_, by decide, fun v v0 v1 => ⟨rfl, _, rfl, ite2 (fun _ => ?_) (fun _ => ?_)⟩⟩
        · exact ⟨0, rfl, rfl⟩
        · refine ⟨st0.toNat, ?_, rfl⟩
          rw [Int.toNat_of_nonneg st00]
          rfl
      rintro σ' H4 ⟨st, rfl, rfl⟩
      -- ups.append(tuple(sorted([..])))
      refine ⟨_, rfl, .inl ⟨rfl, _, .of ep⟩, _, rfl, _, rfl, by omega, by omega, fun d nd => ?_⟩
      have npd : p ≠ d := ne_of_none ep nd
      refine lc_range (lo := 0) (n := ((n : Nat) : Int).toNat) (fun i H' => ∃ zs : List Str, Same H4 H' ∧ H' d = some (.lst (zs.map V.str)) ∧ zs = (List.range i).map fun k => ps.getD ((st + k) % ps.length) "") ⟨[], same_new nd, upd_same, rfl⟩ (fun k H' hk h => ?_) (fun H' h => ?_)
      · obtain ⟨zs, t1, t2, t3⟩ := h
        refine ⟨rfl, tYes_i ?_⟩
        have hpa' : H' pa = some (.lst (ps.map V.str)) := t1 _ _ hpa3
        have hj : (st + k) % ps.length < ps.length := Nat.mod_lt _ (by omega)
        refine ⟨_, rfl, _, rfl, _, rfl, _, _, rfl, rfl, _, rfl, pa, _, rfl, .inl (.of hpa'), _, _, rfl, rfl, lps, pa, _, _, _, rfl, rfl, .of hpa', at_of (j := (st + k) % ps.length) (by
          rw [List.length_map, Int.zero_add]
          rfl) (map_at V.str (List.getElem?_eq_getElem hj)), ?_⟩
        refine ⟨_, t2, by rw [List.length_map, t3, List.length_map, List.length_range]; exact small1000 (by omega), zs ++ [_], smut t1 nd, by rw [upd_same, List.map_append]; rfl, by rw [t3, List.range_succ, List.map_append, List.map_singleton, List.getD_eq_getElem?_getD, List.getElem?_eq_getElem hj]; rfl⟩
      · obtain ⟨zs, t1, t2, t3'⟩ := h
        have hn31p := hpm n (List.mem_of_getElem? hn)
        have t3 : zs.length = ((n : Nat) : Int).toNat := by rw [t3', List.length_map, List.length_range]
        have tnd : zs.Nodup := by rw [t3']; exact rotNodup ps hpn st _ (by omega)
        dsimp only [tNil]
        refine sort_read (K := K) (.of t2) fun so nso => ?_
        refine ⟨so, _, rfl, .inl ⟨.of upd_same, fun tu ntu => ?_⟩⟩
        have g1 : Same H4 (upd H' so (.lst ((zs.mergeSort leS).map V.str))) := t1.trans (same_new nso)
        have g2 : Same H4 (upd (upd H' so (.lst ((zs.mergeSort leS).map V.str))) tu (.tup ((zs.mergeSort leS).map V.str))) := g1.trans (same_new ntu)
        generalize hH5 : upd (upd H' so (.lst ((zs.mergeSort leS).map V.str))) tu (.tup ((zs.mergeSort leS).map V.str)) = H5 at g2
        have etu : H5 tu = some (.tup ((zs.mergeSort leS).map V.str)) := by rw [← hH5, upd_same]
        have ep5 : H5 p = some (.lst xs) := g2 _ _ ep
        have lxs : xs.length = ups.length := by rw [ht.len, List.length_map]
        have lup : ups.length = i := by
          have z := congrArg List.length hlen
          rw [List.length_map, List.length_take] at z
          omega
        have s5 : SameB sz H H5 := s3.trans (SameB.of g2)
        refine ⟨p, _, _, rfl, rfl, ep5, small1000 (by omega), ?_⟩
        refine ⟨_, _, _, xs ++ [.ref tu], ups ++ [zs.mergeSort leS], rfl, s5.mut npH, by rw [upd_ne npsz.symm]; exact g2 _ _ e3, upd_same, ?_, ?_, fun u hu => ?_, fun u hu => ?_⟩
        · rw [List.map_append]
          exact (ht.up ((Gr.same g2).trans (Gr.lst ep5))).app (.one (Tp.up (.tup (.of etu) (.strs _)) (Gr.lst ep5)))
        · rw [List.map_append, hlen, take_next hn]
          show ss.take i ++ [(zs.mergeSort leS).length] = _
          rw [List.length_mergeSort, t3]
          simp
        · rcases List.mem_append.mp hu with h | h
          · exact hnd u h
          · rw [List.mem_singleton.mp h]
            refine ⟨(List.mergeSort_perm zs leS).nodup_iff.mpr tnd, fun z hz => ?_⟩
            have hz' := (List.mergeSort_perm zs leS).mem_iff.mp hz
            rw [t3'] at hz'
            obtain ⟨k, _, rfl⟩ := List.mem_map.mp hz'
            have hj : (st + k) % ps.length < ps.length := Nat.mod_lt _ (by omega)
            rw [List.getD_eq_getElem?_getD, List.getElem?_eq_getElem hj]
            exact List.getElem_mem hj
        · rcases List.mem_append.mp hu with h | h
          · exact hsrt u h
          · rw [List.mem_singleton.mp h]
            exact sorted_strs zs
    · obtain ⟨y7, y8, y9, xs, ups, rfl, s3, e3, ep, ht, hlen, hnd, hsrt⟩ := h3
      rw [List.length_map, List.take_length] at hlen
      have lup : ups.length = ss.length := by rw [← hlen, List.length_map]
      exact ⟨_, rfl, q p xs ups H3 ⟨by omega, by omega, by rw [hlen]; exact hprod, hsrt, fun u hu => hsm _ (by rw [← hlen]; exact List.mem_map_of_mem hu), fun u hu => (hnd u hu).1, fun u hu z hz => hpl z ((hnd u hu).2 z hz)⟩ s3 npH ep ht⟩
end
end K78
set_option Elab.async false
set_option linter.all false
set_option maxRecDepth 100000
set_option maxHeartbeats 4000000
namespace KB
open PySem PySem.Spec PyProof.Rows L2
theorem TpAll.zipF {K : PySem.W.Frag} {H : Hp} {β : Type} {enc : β → PyData} : ∀ {xs : List V} {bs : List β}, TpAll K H xs (bs.map enc) → (xs.zip bs).map (·.1) = xs ∧ (xs.zip bs).map (·.2) = bs ∧ ∀ q ∈ xs.zip bs, Tp K H q.1 (enc q.2)
  | xs, [], h => by
    cases h
    exact ⟨rfl, rfl, fun q hq => by simp at hq⟩
  | xs, b :: bs, h => by
    cases h with
    | cons h1 h2 =>
      obtain ⟨e1, e2, e3⟩ := TpAll.zipF h2
      refine ⟨?_, ?_, fun q hq => ?_⟩
      · rw [List.zip_cons_cons, List.map_cons, e1]
      · rw [List.zip_cons_cons, List.map_cons, e2]
      · rw [List.zip_cons_cons] at hq
        rcases List.mem_cons.mp hq with e | hq
        · subst e
          exact h1
        · exact e3 q hq
open PySem.W in
/-- sorted of a list of tuples that are alike: they come in another sequence -/
theorem sort_data {K : PySem.W.Frag} {H : Hp} {a : Addr} {β : Type} {enc : β → PyData} {xs : List V} {bs : List β} {Q : VK} (h : SqL K H a xs) (ht : TpAll K H xs (bs.map enc)) (hal : ∀ b ∈ bs, ∀ b' ∈ bs, alike (enc b) (enc b') = true) (hk : ∀ b ∈ bs, ∃ x r, enc b = .tuple (x :: r))
    (hd : ∀ b ∈ bs, (enc b).depth ≤ 50) (q : ∀ (ys : List V) (p : Addr), TpAll K H ys ((bs.mergeSort (dataLe false enc)).map enc) → H p = none → Q (.ref p) (upd H p (.lst ys))) : rSortD K [.ref a] H Q := by
  obtain ⟨e1, e2, e3⟩ := ht.zipF
  have m2 : ∀ q ∈ xs.zip bs, q.2 ∈ bs := fun q hq => by
    have z : q.2 ∈ (xs.zip bs).map (·.2) := List.mem_map_of_mem hq
    rw [e2] at z
    exact z
  have eS : ((xs.zip bs).map fun q => (q.1, enc q.2)).mergeSort (dataLe false Prod.snd) = ((xs.zip bs).mergeSort (fun x y => dataLe false enc x.2 y.2)).map fun q => (q.1, enc q.2) := (List.map_mergeSort (f := fun q : V × β => (q.1, enc q.2)) fun x _ y _ => rfl).symm
  have eB : ((xs.zip bs).mergeSort (fun x y => dataLe false enc x.2 y.2)).map (·.2) = bs.mergeSort (dataLe false enc) := by
    rw [List.map_mergeSort (s := dataLe false enc) (f := fun q : V × β => q.2) fun x _ y _ => rfl, e2]
  refine ⟨a, (xs.zip bs).map fun q => (q.1, enc q.2), rfl, ?_, fun x hx => ?_, fun d hd' e he => ?_, .inl fun d hd' => ?_, fun x hx => ?_, fun p hp => ?_⟩
  · rw [List.map_map]
    show SqL K H a ((xs.zip bs).map (·.1))
    rw [e1]
    exact h
  · obtain ⟨z, hz, rfl⟩ := List.mem_map.mp hx
    exact e3 z hz
  · rw [List.map_map] at hd' he
    obtain ⟨z, hz, rfl⟩ := List.mem_map.mp hd'
    obtain ⟨y, hy, rfl⟩ := List.mem_map.mp he
    exact hal _ (m2 z hz) _ (m2 y hy)
  · rw [List.map_map] at hd'
    obtain ⟨z, hz, rfl⟩ := List.mem_map.mp hd'
    exact hk _ (m2 z hz)
  · obtain ⟨z, hz, rfl⟩ := List.mem_map.mp hx
    exact hd _ (m2 z hz)
  · rw [eS, List.map_map]
    refine q _ p ?_ hp
    rw [← eB]
    have go : ∀ L : List (V × β), (∀ q ∈ L, Tp K H q.1 (enc q.2)) → TpAll K H (L.map ((fun x => x.1) ∘ fun q => (q.1, enc q.2))) ((L.map (·.2)).map enc) := by
      intro L
      induction L with
      | nil => exact fun _ => .nil
      | cons x L ih => exact fun h => .cons (h x (List.mem_cons_self ..)) (ih fun q hq => h q (List.mem_cons_of_mem _ hq))
    exact go _ fun q hq => e3 q ((List.mergeSort_perm _ _).mem_iff.mp hq)
theorem small100k {n : Nat} (h : n ≤ 100000) : n < sizeLine := Nat.lt_of_le_of_lt h (by decide)
theorem small100 {n : Nat} (h : n ≤ 100000) : n ≤ sizeLine := Nat.le_of_lt (small100k h)
end KB
namespace K78
open PySem PySem.Spec PyProof.Rows L2 KB
abbrev slD (s : Str × Str × Int) : PyData := .tuple [.str s.1, .str s.2.1, .int s.2.2]
abbrev prD (s : Str × Int) : PyData := .tuple [.str s.1, .int s.2]
structure SlewsOk (sl : List (Str × Str × Int)) : Prop where
  nd : (sl.map fun s => (s.1, s.2.1)).Nodup
  ne : ∀ s ∈ sl, s.1 ≠ s.2.1
  few : sl.length ≤ 14
  len : ∀ s ∈ sl, s.1.length ≤ 8
section
variable {P : Program} {w : World} {K : PySem.W.Frag} {mg : Str → Option Value} {base : Heap}
def spLead (K : PySem.W.Frag) : Sp := fun vs H Q _ => ∃ (f a b : Int), vs = [.int f, .int a, .int b] ∧ ∀ (r : V) (a b : Int) (H' : Hp), Same H H' → Tp K H' r (.tuple [.int a, .int b]) → Q r H'
theorem c_l_lead (D : Dn K mg "_law_lead" s_l_lead) (B : Bl mg) : Cal P w K mg base 1 "_law_lead" (spLead K) := by
  refine cal_of D sc_l_lead (fun vs H Q E h => ?_) (fun _ _ _ _ _ _ us hl => match us, hl with | [_, _, _], _ => rfl) (fun f cdv A outer s H vs Q E hr h => ?_)
  · obtain ⟨f, a, b, rfl, _⟩ := h
    rfl
  · obtain ⟨fo, a, b, rfl, q⟩ := h
    refine ⟨_, (pss_cons (ps_set (i := 3) sc_l_lead.nd rfl (.inl rfl) (pe_tup (pa_cons (pv 1) (pa_cons (pv 2) pa_nil))))
      (pss_cons (ps_set (i := 4) sc_l_lead.nd rfl (.inl rfl) (pe_tup (pa_cons (pe_un un_neg (pv 1)) (pa_cons (pe_un un_neg (pv 2)) pa_nil))))
      (Evl.pss_cut (ps_if (pt_cmpR op_gt (pv 0) pe_int (nomark _)) 
        (pss_cons (ps_set (i := 3) sc_l_lead.nd rfl (.inl rfl) (pe_tup (pa_cons (pe_op op_mod (pe_callTy call_int1 (by rfl) B.int bt_int (pa_cons (pv 1) pa_nil)) (pv 0)) (pa_cons (pe_op op_mod (pe_callTy call_int1 (by rfl) B.int bt_int (pa_cons (pv 2) pa_nil)) (pv 0)) pa_nil))))
        (pss_one (ps_set (i := 4) sc_l_lead.nd rfl (.inl rfl) (pe_tup (pa_cons (pe_op op_mod (pe_un un_neg (pe_callTy call_int1 (by rfl) B.int bt_int (pa_cons (pv 1) pa_nil))) (pv 0)) (pa_cons (pe_op op_mod (pe_un un_neg (pe_callTy call_int1 (by rfl) B.int bt_int (pa_cons (pv 2) pa_nil))) (pv 0)) pa_nil)))))) pss_nil)
      (pss_one (ps_ret (pe_callB (cr_maxD2 rfl hr.units) (by rfl) B.max bt_max (pa_cons (pv 3) (pa_cons (pv 4) pa_nil)))))))), ?_⟩
    refine ⟨_, rfl, _, rfl, by show 2 ≤ sizeLine; decide, fun p np => ?_⟩
    refine ⟨_, rfl, _, rfl, _, rfl, _, rfl, by show 2 ≤ sizeLine; decide, fun p2 np2 => ?_⟩
    have s1 := same_new (o := .tup [.int a, .int b]) np
    have s2 := same_new (o := .tup [.int (-a), .int (-b)]) np2
    refine ⟨fun σ' H2 => ∃ (p q : Addr) (a1 b1 a2 b2 : Int), σ' = [some (.int fo), some (.int a), some (.int b), some (.ref p), some (.ref q)] ∧ Same H H2 ∧ H2 p = some (.tup [.int a1, .int b1]) ∧ H2 q = some (.tup [.int a2, .int b2]), ?_, ?_⟩
    · refine ⟨_, rfl, _, _, rfl, rfl, _, rfl, ite2 (fun e => ?_) (fun _ => ?_)⟩
      · have f0 : 0 < fo := of_decide_eq_true e
        refine ⟨_, rfl, .inl ⟨_, rfl, _, rfl, _, _, rfl, rfl, f0, _, rfl, .inl ⟨_, rfl, _, rfl, _, _, rfl, rfl, f0, by show 2 ≤ sizeLine; decide, fun p3 np3 => ?_⟩⟩⟩
        refine ⟨_, rfl, .inl ⟨_, rfl, _, rfl, _, rfl, _, _, rfl, rfl, f0, _, rfl, .inl ⟨_, rfl, _, rfl, _, rfl, _, _, rfl, rfl, f0, by show 2 ≤ sizeLine; decide, fun p4 np4 => ?_⟩⟩⟩
        exact ⟨p3, p4, _, _, _, _, rfl, s1.trans (s2.trans ((same_new np3).trans (same_new np4))), same_new np4 _ _ upd_same, upd_same⟩
      · exact ⟨p, p2, _, _, _, _, rfl, s1.trans s2, s2 _ _ upd_same, upd_same⟩
    rintro σ' H2 ⟨p, p2, a1, b1, a2, b2, rfl, s3, e1, e2⟩
    have t1 : Tp K H2 (.ref p) (.tuple [.int a1, .int b1]) := .tup (.of e1) (.cons (.int _) (.cons (.int _) .nil))
    have t2 : Tp K H2 (.ref p2) (.tuple [.int a2, .int b2]) := .tup (.of e2) (.cons (.int _) (.cons (.int _) .nil))
    refine ⟨_, rfl, _, rfl, _, _, _, _, rfl, t1, t2, ⟨rfl, rfl, rfl, rfl⟩, (fun z => by cases z), (fun z => by cases z), ⟨?_, ?_⟩, q _ _ _ H2 s3 t1, q _ _ _ H2 s3 t2⟩
    · simp [PyData.depth, PyData.depthAll]
    · simp [PyData.depth, PyData.depthAll]
def spSlews (K : PySem.W.Frag) : Sp := fun vs H Q _ => ∃ (nb pl pa : Addr) (ns : List Int) (ps : List Str), vs = [.ref nb, .ref pl, .ref pa] ∧ Nb K H nb pl ns ∧ H pa = some (.lst (ps.map V.str)) ∧ 1 ≤ ps.length ∧ (∀ y ∈ ps, y.length ≤ 8) ∧
  ∀ (r : V) (sl : List (Str × Str × Int)) (H' : Hp), SlewsOk sl → Same H H' → Tp K H' r (.tuple (sl.map slD)) → Q r H'
theorem c_l_slews (D : Dn K mg "_law_slews" s_l_slews) (B : Bl mg) (C : Ca2 P w K mg base) : Cal P w K mg base 2 "_law_slews" (spSlews K) := by
  refine cal_of D sc_l_slews (fun vs H Q E h => ?_) (fun _ _ _ _ _ _ us hl => match us, hl with | [_, _, _], _ => rfl) (fun f cdv A outer s H vs Q E hr h => ?_)
  · obtain ⟨nb, pl, pa, ns, ps, rfl, _⟩ := h
    rfl
  · obtain ⟨nb, pl, pa, ns, ps, rfl, hN, hpa, hp1, hpl, q⟩ := h
    refine ⟨_, (pss_cons (ps_set (i := 3) sc_l_slews.nd rfl (.inl rfl) (pe_c C.l_pick hr (by decide) rfl (pa_cons (pv 0) (pa_cons (pv 1) (pa_cons pe_int pa_nil)))))
      (pss_cons (ps_set (i := 4) sc_l_slews.nd rfl (.inl rfl) (pe_lst pa_nil))
      (pss_cons (ps_for PassesOwn.never rfl (pi_range1 (by rfl) B.range (pa_cons (pe_ix ix_list (pe_lst (pa_cons pe_int (pa_cons pe_int (pa_cons pe_int (pa_cons pe_int (pa_cons pe_int pa_nil)))))) (pv 3) (fun _ _ => rfl)) pa_nil)) (pg_name (i := 5) sc_l_slews.nd rfl (.inl rfl)) 
        (pss_cons (ps_set (i := 6) sc_l_slews.nd rfl (.inr rfl) (pe_ix ix_list (pv 2) (pe_c C.l_pick hr (by decide) rfl (pa_cons (pv 0) (pa_cons (pv 1) (pa_cons (pe_callB (call_min2 rfl) (by rfl) B.min bt_min (pa_cons (pe_callB call_len_seq (by rfl) B.len bt_len (pa_cons (pv 2) pa_nil)) (pa_cons pe_int pa_nil))) pa_nil)))) (fun _ _ => rfl)))
        (pss_cons (ps_set (i := 7) sc_l_slews.nd rfl (.inr rfl) (pe_ix ix_list (pv 2) (pe_c C.l_pick hr (by decide) rfl (pa_cons (pv 0) (pa_cons (pv 1) (pa_cons (pe_callB (call_min2 rfl) (by rfl) B.min bt_min (pa_cons (pe_callB call_len_seq (by rfl) B.len bt_len (pa_cons (pv 2) pa_nil)) (pa_cons pe_int pa_nil))) pa_nil)))) (fun _ _ => rfl)))
        (pss_cons (ps_set (i := 8) sc_l_slews.nd rfl (.inl rfl) (pe_ix ix_list (pe_lst (pa_cons pe_int (pa_cons pe_int (pa_cons pe_int (pa_cons pe_int (pa_cons pe_int pa_nil)))))) (pe_c C.l_pick hr (by decide) rfl (pa_cons (pv 0) (pa_cons (pv 1) (pa_cons pe_int pa_nil)))) (fun _ _ => rfl)))
        (Evl.pss_cut (ps_if (pt_cmpR op_gt (pv 8) pe_int (nomark _)) 
          (pss_one (ps_set (i := 8) sc_l_slews.nd rfl (.inl rfl) (pe_c C.l_pick hr (by decide) rfl (pa_cons (pv 0) (pa_cons (pv 1) (pa_cons pe_int pa_nil)))))) pss_nil)
        (pss_one (ps_if (PW.pt (pw_and (pt_cmpR op_ne (pv 6) (pv 7) (nomark _)) (pw_and1 (pt_cmpR op_eq (pe_callB call_len_seq (by rfl) B.len bt_len (pa_cons (pe_lc (own := [("slew", 9)]) (by rfl) sc_l_slews.nd (pi_list (pv 4)) (blkOk_by (N := n_l_slews) (sc := defScope s_l_slews) (by decide +kernel)) (fun _ _ _ _ _ => (pg_name (i := 9) sc_l_slews.nd rfl (.inl rfl))) (fun _ _ _ _ _ => (pts_one (PW.pt (pw_and (pt_cmpR op_eq (pe_ix (ix_tupK K rfl) (pv 9) pe_int (fun _ _ => rfl)) (pv 6) (nomark _)) (pw_and1 (pt_cmpR op_eq (pe_ix (ix_tupK K rfl) (pv 9) pe_int (fun _ _ => rfl)) (pv 7) (nomark _))))))) (fun _ _ _ _ _ => (pv 9))) pa_nil)) pe_int (nomark _))))) 
          (pss_one (ps_expr (pe_bm PySem.F.plainAttrs_list PySem.F.slot_list_append PySem.F.type_list_append mt_append (pv 4) (pa_cons (pe_tup (pa_cons (pv 6) (pa_cons (pv 7) (pa_cons (pv 8) pa_nil)))) pa_nil)))) pss_nil)))))))
      (pss_one (ps_ret (pe_callTy call_tuple_of (by rfl) B.tuple bt_tuple (pa_cons (pe_callB (cr_sortD hr.units) (by rfl) B.sorted bt_sorted (pa_cons (pv 4) pa_nil)) pa_nil))))))), ?_⟩
    refine ⟨_, rfl, _, rfl, nb, pl, ns, 5, rfl, hN.s, hN.ne, hN.at_, by decide, fun hb hb0 hb1 => ?_⟩
    refine ⟨by show 0 ≤ sizeLine; decide, fun l nl => ?_⟩
    have sl1 := same_new (o := .lst []) nl
    refine ⟨by show 5 ≤ sizeLine; decide, fun m nm => ?_⟩
    have hj : hb.toNat < ([0, 3, 5, 9, 14] : List Int).length := by show hb.toNat < 5; omega
    have hmem := List.getElem_mem hj
    have hmax : ∀ x ∈ ([0, 3, 5, 9, 14] : List Int), 0 ≤ x ∧ x ≤ 14 := by decide
    obtain ⟨c0, c1⟩ := hmax _ hmem
    refine ⟨_, rfl, m, _, _, _, rfl, rfl, .of upd_same, at_of (toNat_eq hb0) (map_at V.int (List.getElem?_eq_getElem hj)), ?_⟩
    generalize ([0, 3, 5, 9, 14] : List Int)[hb.toNat] = cnt at c0 c1
    have lm : l ≠ m := ne_of_none upd_same nm
    refine ⟨cnt, rfl, by omega, by omega, ?_⟩
    refine for_range (n := cnt.toNat) (fun i σ H3 => ∃ y5 y6 y7 y8 y9 xs, ∃ sl : List (Str × Str × Int), σ = [some (.ref nb), some (.ref pl), some (.ref pa), some (.int hb), some (.ref l), y5, y6, y7, y8, y9] ∧ Same H H3 ∧ H3 l = some (.lst xs) ∧ TpAll K H3 xs (sl.map slD) ∧ sl.length ≤ i ∧ (sl.map fun s => (s.1, s.2.1)).Nodup ∧ ∀ s ∈ sl, s.1 ≠ s.2.1 ∧ s.1.length ≤ 8)
      ⟨_, _, _, _, _, [], [], rfl, sl1.trans (same_new nm), by rw [upd_ne lm, upd_same], .nil, by simp, List.nodup_nil, fun s hs => by cases hs⟩ (fun i σ H3 hi h3 => ?_) (fun σ H3 h3 => ?_)
    · obtain ⟨y5, y6, y7, y8, y9, xs, sl, rfl, s3, el, ht, hlen, hnd, hne⟩ := h3
      have hN3 := hN.up s3
      have hpa3 := s3 _ _ hpa
      have mn : (0 : Int) < (if (5 : Int) < (((ps.map V.str).length : Nat) : Int) then 5 else (((ps.map V.str).length : Nat) : Int)) := by
        rw [List.length_map]
        split <;> omega
      have mx : (if (5 : Int) < (((ps.map V.str).length : Nat) : Int) then 5 else (((ps.map V.str).length : Nat) : Int)) ≤ ((ps.length : Nat) : Int) := by
        rw [List.length_map]
        split <;> omega
      -- first, second
      refine ⟨_, rfl, _, rfl, _, rfl, _, rfl, pa, _, rfl, .inl (.of hpa3), _, _, rfl, nb, pl, ns, _, rfl, hN3.s, hN3.ne, hN3.at_, mn, fun a a0 a1 => ?_⟩
      have ha : a.toNat < ps.length := by omega
      refine ⟨pa, _, _, _, rfl, rfl, .of hpa3, at_of (toNat_eq a0) (map_at V.str (List.getElem?_eq_getElem ha)), ?_⟩
      have hf8 := hpl _ (List.getElem_mem ha)
      generalize ps[a.toNat] = first at hf8
      refine ⟨_, rfl, _, rfl, _, rfl, _, rfl, pa, _, rfl, .inl (.of hpa3), _, _, rfl, nb, pl, ns, _, rfl, hN3.s, hN3.ne, hN3.at_, mn, fun b b0 b1 => ?_⟩
      have hb' : b.toNat < ps.length := by omega
      refine ⟨pa, _, _, _, rfl, rfl, .of hpa3, at_of (toNat_eq b0) (map_at V.str (List.getElem?_eq_getElem hb')), ?_⟩
      generalize ps[b.toNat] = second
      -- rest
      refine ⟨by show 5 ≤ sizeLine; decide, fun m2 nm2 => ?_⟩
      have s4 : Same H3 (upd H3 m2 (.lst [.int 1, .int 0, .int 3, .int 41, .int 2])) := same_new nm2
      have e4 : (upd H3 m2 (.lst [.int 1, .int 0, .int 3, .int 41, .int 2])) m2 = some (.lst (([1, 0, 3, 41, 2] : List Int).map V.int)) := upd_same
      generalize upd H3 m2 (.lst [.int 1, .int 0, .int 3, .int 41, .int 2]) = H4 at s4 e4
      have hN4 := hN3.up s4
      refine ⟨_, rfl, _, rfl, nb, pl, ns, 5, rfl, hN4.s, hN4.ne, hN4.at_, by decide, fun c c0 c1 => ?_⟩
      have hc : c.toNat < ([1, 0, 3, 41, 2] : List Int).length := by show c.toNat < 5; omega
      refine ⟨m2, _, _, _, rfl, rfl, .of e4, at_of (toNat_eq c0) (map_at V.int (List.getElem?_eq_getElem hc)), ?_⟩
      generalize ([1, 0, 3, 41, 2] : List Int)[c.toNat] = rs
      refine ⟨fun σ' H5 => ∃ rs : Int, σ' = [some (.ref nb), some (.ref pl), some (.ref pa), some (.int hb), some (.ref l), some (.int (0 + (i : Int))), some (.str first), some (.str second), some (.int rs), y9] ∧ H5 = H4, ?_, ?_⟩
      · refine ⟨_, rfl, _, _, rfl, rfl, _, rfl, ite2 (fun _ => ?_) (fun _ => ⟨rs, rfl, rfl⟩)⟩
        exact ⟨_, rfl, _, rfl, nb, pl, ns, 41, rfl, hN4.s, hN4.ne, hN4.at_, by decide, fun v _ _ => ⟨v, rfl, rfl⟩⟩
      rintro σ' H5 ⟨rs, rfl, rfl⟩
      have el5 : H5 l = some (.lst xs) := s4 _ _ el
      have ht5 : TpAll K H5 xs (sl.map slD) := ht.up (Gr.same s4)
      -- the test
      have stay : ∀ (Hx : Hp) (z9 : Option V), Same H5 Hx → ∃ y5 y6 y7 y8 y9 xs, ∃ sl : List (Str × Str × Int), ([some (.ref nb), some (.ref pl), some (.ref pa), some (.int hb), some (.ref l), some (.int (0 + (i : Int))), some (.str first), some (.str second), some (.int rs), z9] : L2.St) = [some (.ref nb), some (.ref pl), some (.ref pa), some (.int hb), some (.ref l), y5, y6, y7, y8, y9] ∧ Same H Hx ∧ Hx l = some (.lst xs) ∧ TpAll K Hx xs (sl.map slD) ∧ sl.length ≤ i + 1 ∧ (sl.map fun s => (s.1, s.2.1)).Nodup ∧ ∀ s ∈ sl, s.1 ≠ s.2.1 ∧ s.1.length ≤ 8 := fun Hx z9 sx =>
        ⟨_, _, _, _, _, xs, sl, rfl, s3.trans (s4.trans sx), sx _ _ el5, ht5.up (Gr.same sx), by omega, hnd, hne⟩
      refine ⟨_, rfl, _, rfl, rfl, _, rfl, ite2 (fun e1 => ?_) (fun _ => iteF (stay H5 _ (Same.refl H5)))⟩
      have hfs : first ≠ second := fun z => by
        rw [z] at e1
        simp at e1
      refine ⟨_, rfl, l, rfl, ⟨_, .of el5⟩, fun d nd => ?_⟩
      refine lc_list (K := K) (a := l) (xs := xs) (fun k H' => ∃ acc, Same H5 H' ∧ H' d = some (.lst acc) ∧ acc.length ≤ k ∧ (acc = [] → ∀ s ∈ sl.take k, ¬ (s.1 = first ∧ s.2.1 = second))) ⟨[], same_new nd, upd_same, by simp, fun _ s hs => by simp at hs⟩ (fun k H' _ p => let ⟨_, p1, _⟩ := p; .of (p1 _ _ el5)) (fun k x H' hx p => ?_) (fun H' p => ?_)
      · obtain ⟨acc, p1, p2, p3, p4⟩ := p
        obtain ⟨dd, hdd, htp⟩ := (ht5.up (Gr.same p1)).at hx
        rw [List.getElem?_map] at hdd
        obtain ⟨sk, hsk, rfl⟩ := Option.map_eq_some_iff.mp hdd
        obtain ⟨ad, ys, rfl, hsq, hys⟩ := htp.tup_of
        obtain ⟨v0, w0, rfl, t0, hys⟩ : ∃ v0 w0, ys = v0 :: w0 ∧ Tp K H' v0 (.str sk.1) ∧ TpAll K H' w0 [.str sk.2.1, .int sk.2.2] := by
          cases hys with
          | cons h1 h2 => exact ⟨_, _, rfl, h1, h2⟩
        obtain ⟨v1, w1, rfl, t1, hys⟩ : ∃ v1 w1, w0 = v1 :: w1 ∧ Tp K H' v1 (.str sk.2.1) ∧ TpAll K H' w1 [.int sk.2.2] := by
          cases hys with
          | cons h1 h2 => exact ⟨_, _, rfl, h1, h2⟩
        cases t0.str_of
        cases t1.str_of
        refine ⟨rfl, aAnd (a := decide (V.str sk.1 = V.str first)) (b := decide (V.str sk.2.1 = V.str second)) (fun Q q => ?_) (fun _ Q q => ?_) _ ?_⟩
        · exact ⟨_, rfl, ad, _, 0, _, rfl, rfl, hsq, atI_nat (j := 0) rfl, _, rfl, rfl, _, rfl, q⟩
        · exact ⟨_, rfl, ad, _, 1, _, rfl, rfl, hsq, atI_nat (j := 1) rfl, _, rfl, rfl, _, rfl, q⟩
        refine ite2 (fun e => ?_) (fun e => ?_)
        · refine ⟨_, rfl, acc, p2, small1000 (by have := (List.getElem?_eq_some_iff.mp hsk).1; omega), acc ++ [_], smut p1 nd, upd_same, by rw [List.length_append]; simpa using p3, fun z => ?_⟩
          simp at z
        · refine ⟨acc, p1, p2, by omega, fun z s hs => ?_⟩
          rw [take_next hsk] at hs
          rcases List.mem_append.mp hs with h | h
          · exact p4 z s h
          · rw [List.mem_singleton.mp h]
            rintro ⟨z1, z2⟩
            apply e
            rw [z1, z2, decide_eq_true rfl, decide_eq_true rfl]
            rfl
      · obtain ⟨acc, p1, p2, p3, p4⟩ := p
        have lxs : xs.length = sl.length := by rw [ht.len, List.length_map]
        refine ⟨d, _, rfl, .inl (.of p2), rfl, _, rfl, ite2 (fun e => ?_) (fun e => stay H' _ p1)⟩
        have z : acc = [] := by
          have z1 : ((acc.length : Nat) : Int) = 0 := V.int.inj (of_decide_eq_true e)
          exact List.eq_nil_of_length_eq_zero (by omega)
        have hno := p4 z
        rw [lxs, List.take_length] at hno
        refine ⟨.ref l, rfl, .inl ⟨rfl, _, .of (p1 _ _ el5)⟩, _, rfl, _, rfl, _, rfl, by show 3 ≤ sizeLine; decide, fun t nt => ?_⟩
        have s6 := p1.trans (same_new (o := .tup [.str first, .str second, .int rs]) nt)
        have et : (upd H' t (.tup [.str first, .str second, .int rs])) t = some (.tup [.str first, .str second, .int rs]) := upd_same
        generalize upd H' t (.tup [.str first, .str second, .int rs]) = H6 at s6 et
        have el6 := s6 _ _ el5
        have nlH : H l = none := nl
        refine ⟨l, _, _, rfl, rfl, el6, small1000 (by omega), ?_⟩
        refine ⟨_, _, _, _, _, xs ++ [.ref t], sl ++ [(first, second, rs)], rfl, smut (s3.trans (s4.trans s6)) nlH, upd_same, ?_, by rw [List.length_append]; simpa using hlen, ?_, fun s hs => ?_⟩
        · rw [List.map_append]
          refine ((ht5.up (Gr.same s6)).app (.one (.tup (.of et) ?_))).up (Gr.lst el6)
          exact .cons (.str _) (.cons (.str _) (.cons (.int _) .nil))
        · rw [List.map_append, List.nodup_append]
          refine ⟨hnd, List.pairwise_singleton _ _, fun x hx y hy => ?_⟩
          obtain ⟨s, hs, rfl⟩ := List.mem_map.mp hx
          rw [List.mem_singleton.mp hy]
          intro z
          exact hno s hs (by injection z with z1 z2; exact ⟨z1, z2⟩)
        · rcases List.mem_append.mp hs with h | h
          · exact hne s h
          · rw [List.mem_singleton.mp h]
            exact ⟨hfs, hf8⟩
    · obtain ⟨y5, y6, y7, y8, y9, xs, sl, rfl, s3, el, ht, hlen, hnd, hne⟩ := h3
      refine ⟨.ref l, rfl, ?_⟩
      dsimp only [tNil]
      refine sort_data (K := K) (enc := slD) (.of el) ht (fun b _ b' _ => rfl) (fun b _ => ⟨_, _, rfl⟩) (fun b _ => by simp [PyData.depth, PyData.depthAll]) fun ys p hys np => ?_
      refine ⟨p, ys, rfl, .inl ⟨.of upd_same, fun t nt => ?_⟩⟩
      have g1 := (same_new (o := .lst ys) np).trans (same_new (o := .tup ys) nt)
      have hp := List.mergeSort_perm sl (PySem.W.dataLe false slD)
      refine q _ _ _ ⟨(hp.map _).nodup_iff.mpr hnd, fun s hs => (hne s (hp.mem_iff.mp hs)).1, by rw [hp.length_eq]; omega, fun s hs => (hne s (hp.mem_iff.mp hs)).2⟩ (s3.trans g1) (.tup (.of upd_same) (hys.up (Gr.same g1)))
end
end K78
set_option Elab.async false
set_option linter.all false
set_option maxRecDepth 100000
set_option maxHeartbeats 4000000
namespace KB
open PySem PySem.Spec PyProof.Rows L2
theorem Tp.strs_of {K : PySem.W.Frag} {H : Hp} {v : V} {zs : List Str} (h : Tp K H v (.tuple (zs.map PyData.str))) : ∃ a, v = .ref a ∧ SqT K H a (zs.map V.str) := by
  obtain ⟨a, xs, rfl, hs, hx⟩ := h.tup_of
  rw [hx.strs_of] at hs
  exact ⟨a, rfl, hs⟩
theorem TpAll.atF {K : PySem.W.Frag} {H : Hp} {β : Type} {enc : β → PyData} {xs : List V} {bs : List β} (h : TpAll K H xs (bs.map enc)) {i : Nat} {v : V} (e : xs[i]? = some v) : ∃ b, bs[i]? = some b ∧ Tp K H v (enc b) := by
  obtain ⟨d, hd, ht⟩ := h.at e
  rw [List.getElem?_map] at hd
  obtain ⟨b, hb, rfl⟩ := Option.map_eq_some_iff.mp hd
  exact ⟨b, hb, ht⟩
end KB
namespace K78
open PySem PySem.Spec PyProof.Rows L2 KB
structure PricesOk (ups : List (List Str)) (pr : List (Str × Int)) : Prop where
  nd : (pr.map (·.1)).Nodup
  all : ∀ u ∈ ups, ∀ z ∈ u, z ∈ pr.map (·.1)
  few : pr.length ≤ 1240
  len : ∀ p ∈ pr, 1 ≤ p.1.length ∧ p.1.length ≤ 8
section
variable {P : Program} {w : World} {K : PySem.W.Frag} {mg : Str → Option Value} {base : Heap}
def spPrices (K : PySem.W.Frag) : Sp := fun vs H Q _ => ∃ (nb pl up : Addr) (ns : List Int) (us : List V) (ups : List (List Str)), vs = [.ref nb, .ref pl, .ref up] ∧ Nb K H nb pl ns ∧ H up = some (.lst us) ∧ TpAll K H us (ups.map strsD) ∧ UpsOk ups ∧
  ∀ (p : Addr) (o : Obj) (xs : List V) (pr : List (Str × Int)) (H' : Hp), PricesOk ups pr → Same H H' → H p = none → H' p = some (.frz o (.tup xs)) → o.cls = .type "tuple" → o.dict = none → TpAll K H' xs (pr.map prD) → Q (.ref p) H'
theorem c_l_prices (D : Dn K mg "_law_prices" s_l_prices) (B : Bl mg) (C : Ca2 P w K mg base) : Cal P w K mg base 2 "_law_prices" (spPrices K) := by
  refine cal_of D sc_l_prices (fun vs H Q E h => ?_) (fun _ _ _ _ _ _ us hl => match us, hl with | [_, _, _], _ => rfl) (fun f cdv A outer s H vs Q E hr h => ?_)
  · obtain ⟨nb, pl, up, ns, us, ups, rfl, _⟩ := h
    rfl
  · obtain ⟨nb, pl, up, ns, us, ups, rfl, hN, hup, htu, hok, q⟩ := h
    refine ⟨_, (pss_cons (ps_set (i := 3) sc_l_prices.nd rfl (.inl rfl) (pe_c C.l_pick hr (by decide) rfl (pa_cons (pv 0) (pa_cons (pv 1) (pa_cons pe_int pa_nil)))))
      (pss_cons (ps_set (i := 4) sc_l_prices.nd rfl (.inl rfl) (pe_lst pa_nil))
      (pss_cons (ps_for PassesOwn.never rfl (pi_list (pv 2)) (pg_name (i := 5) sc_l_prices.nd rfl (.inl rfl)) 
        (pss_one (ps_for PassesOwn.never rfl (pi_tup (pv 5)) (pg_name (i := 6) sc_l_prices.nd rfl (.inl rfl)) 
          (pss_one (ps_if (pt_cmpR op_notIn_seq (pv 6) (pv 4) rfl) 
            (pss_one (ps_expr (pe_bm PySem.F.plainAttrs_list PySem.F.slot_list_append PySem.F.type_list_append mt_append (pv 4) (pa_cons (pv 6) pa_nil)))) pss_nil)))))
      (pss_cons (ps_set (i := 7) sc_l_prices.nd rfl (.inl rfl) (pe_lst pa_nil))
      (pss_cons (ps_for PassesOwn.never rfl (pi_list (pe_callB (cr_sortD hr.units) (by rfl) B.sorted bt_sorted (pa_cons (pv 4) pa_nil))) (pg_name (i := 6) sc_l_prices.nd rfl (.inl rfl)) 
        (pss_cons (ps_set (i := 8) sc_l_prices.nd rfl (.inl rfl) (pe_op op_add pe_int (pe_c C.l_pick hr (by decide) rfl (pa_cons (pv 0) (pa_cons (pv 1) (pa_cons pe_int pa_nil))))))
        (pss_one (ps_expr (pe_bm PySem.F.plainAttrs_list PySem.F.slot_list_append PySem.F.type_list_append mt_append (pv 7) (pa_cons (pe_tup (pa_cons (pv 6) (pa_cons (pe_ix ix_list (pe_lst (pa_cons (pv 8) (pa_cons pe_int (pa_cons (pe_op op_add pe_int (pe_op op_mod (pv 8) pe_int)) (pa_cons (pe_op op_sub pe_int (pe_op op_mod (pv 8) pe_int)) pa_nil))))) (pv 3) (fun _ _ => rfl)) pa_nil))) pa_nil))))))
      (pss_one (ps_ret (pe_callTy call_tupFz (by rfl) B.tuple bt_tuple (pa_cons (pv 7) pa_nil))))))))), ?_⟩
    refine ⟨_, rfl, _, rfl, nb, pl, ns, 4, rfl, hN.s, hN.ne, hN.at_, by decide, fun hb hb0 hb1 => ?_⟩
    refine ⟨by show 0 ≤ sizeLine; decide, fun l nl => ?_⟩
    have lus : us.length = ups.length := by rw [htu.len, List.length_map]
    have s0 := same_new (o := .lst []) nl
    refine ⟨_, rfl, up, rfl, ⟨_, .of (s0 _ _ hup)⟩, ?_⟩
    refine for_list (K := K) (a := up) (xs := us) (fun i σ H3 => ∃ y5 y6 ss, σ = [some (.ref nb), some (.ref pl), some (.ref up), some (.int hb), some (.ref l), y5, y6, none, none] ∧ Same H H3 ∧ H3 l = some (.lst (ss.map V.str)) ∧ ss.Nodup ∧ (∀ z ∈ ss, 1 ≤ z.length ∧ z.length ≤ 8) ∧ (∀ u ∈ ups.take i, ∀ z ∈ u, z ∈ ss) ∧ ss.length ≤ 31 * i)
      ⟨_, _, [], rfl, s0, upd_same, List.nodup_nil, fun z hz => absurd hz List.not_mem_nil, fun u hu => by simp at hu, by simp⟩ (fun i σ H3 _ h3 => let ⟨_, _, _, _, s3, _⟩ := h3; .of (s3 _ _ hup)) (fun i x σ H3 hx h3 => ?_) (fun σ H3 h3 => ?_)
    · obtain ⟨y5, y6, ss, rfl, s3, el, hnd, hzl, hin, hlen⟩ := h3
      obtain ⟨u, hu, htp⟩ := (htu.up (Gr.same s3)).atF hx
      obtain ⟨a, rfl, hsq⟩ := htp.strs_of
      have hi := (List.getElem?_eq_some_iff.mp hu).1
      have hu31 := hok.small u (List.mem_of_getElem? hu)
      have h40 := hok.most
      refine ⟨_, rfl, a, rfl, ⟨_, hsq⟩, ?_⟩
      refine for_tup (K := K) (a := a) (xs := u.map V.str) (fun j σ H4 => ∃ y6 ss, σ = [some (.ref nb), some (.ref pl), some (.ref up), some (.int hb), some (.ref l), some (.ref a), y6, none, none] ∧ Same H H4 ∧ SqT K H4 a (u.map V.str) ∧ H4 l = some (.lst (ss.map V.str)) ∧ ss.Nodup ∧ (∀ z ∈ ss, 1 ≤ z.length ∧ z.length ≤ 8) ∧ (∀ u ∈ ups.take i, ∀ z ∈ u, z ∈ ss) ∧ (∀ z ∈ u.take j, z ∈ ss) ∧ ss.length ≤ 31 * i + j)
        ⟨_, ss, rfl, s3, hsq, el, hnd, hzl, hin, fun z hz => by simp at hz, by simpa using hlen⟩ (fun j σ H4 _ h4 => let ⟨_, _, _, _, h, _⟩ := h4; h) (fun j x σ H4 hx h4 => ?_) (fun σ H4 h4 => ?_)
      · obtain ⟨y6, ss, rfl, s4, hsq4, el4, hnd, hzl, hin, hin2, hlen⟩ := h4
        obtain ⟨z, hz, rfl, hj⟩ := map_at_inv hx
        refine ⟨_, rfl, _, rfl, l, _, rfl, .inl (.of el4), rfl, flat_strs ss, _, rfl, ?_⟩
        show (if (!inV (.str z) (ss.map V.str)) = true then _ else _)
        rw [inV_strs]
        refine ite2 (fun e => ?_) (fun e => ?_)
        · have hni : z ∉ ss := by simpa using e
          refine ⟨_, rfl, .inl ⟨rfl, _, .of el4⟩, _, rfl, l, _, _, rfl, rfl, el4, by rw [List.length_map]; exact small100k (by omega), ?_⟩
          refine ⟨_, ss ++ [z], rfl, smut s4 nl, (Gr.lst el4).t hsq4, by rw [upd_same, List.map_append]; rfl, ?_, fun y hy => ?_, fun u hu y hy => List.mem_append_left _ (hin u hu y hy), fun y hy => ?_, by rw [List.length_append]; simp only [List.length_singleton]; omega⟩
          · rw [List.nodup_append]
            exact ⟨hnd, List.pairwise_singleton _ _, fun x hx y hy => by rw [List.mem_singleton.mp hy]; exact fun e => hni (e ▸ hx)⟩
          · rcases List.mem_append.mp hy with h | h
            · exact hzl y h
            · rw [List.mem_singleton.mp h]
              exact hok.len u (List.mem_of_getElem? hu) z (List.mem_of_getElem? hz)
          · rw [take_next hz] at hy
            rcases List.mem_append.mp hy with h | h
            · exact List.mem_append_left _ (hin2 y h)
            · exact List.mem_append_right _ h
        · have hni : z ∈ ss := by simpa using e
          refine ⟨_, ss, rfl, s4, hsq4, el4, hnd, hzl, hin, fun y hy => ?_, by omega⟩
          rw [take_next hz] at hy
          rcases List.mem_append.mp hy with h | h
          · exact hin2 y h
          · rw [List.mem_singleton.mp h]
            exact hni
      · obtain ⟨y6, ss, rfl, s4, _, el4, hnd, hzl, hin, hin2, hlen⟩ := h4
        rw [List.length_map] at hin2 hlen
        rw [List.take_length] at hin2
        refine ⟨_, _, ss, rfl, s4, el4, hnd, hzl, fun v hv y hy => ?_, by omega⟩
        rw [take_next hu] at hv
        rcases List.mem_append.mp hv with h | h
        · exact hin v h y hy
        · rw [List.mem_singleton.mp h] at hy
          exact hin2 y hy
    · obtain ⟨y5, y6, ss, rfl, s3, el, hnd, hzl, hin, hlen⟩ := h3
      rw [lus] at hin hlen
      rw [List.take_length] at hin
      have h40 := hok.most
      refine ⟨by show 0 ≤ sizeLine; decide, fun p np => ?_⟩
      have nlp : l ≠ p := ne_of_none el np
      have npH : H p = none := s3.free np
      have s4 := s3.trans (same_new (o := .lst []) np)
      refine ⟨_, rfl, ?_⟩
      have el' : (upd H3 p (.lst [])) l = some (.lst (ss.map V.str)) := by rw [upd_ne nlp]; exact el
      dsimp -proj only [tNil]
      refine sort_read (K := K) (.of el') fun so nso => ?_
      have s5 := s4.trans (same_new (o := .lst ((ss.mergeSort leS).map V.str)) nso)
      have hperm := List.mergeSort_perm ss leS
      generalize ss.mergeSort leS = zs at hperm s5 ⊢
      have nps : p ≠ so := ne_of_none upd_same nso
      have nsoH : H so = none := s4.free nso
      refine ⟨so, rfl, ⟨_, .of upd_same⟩, ?_⟩
      refine for_list (K := K) (a := so) (xs := zs.map V.str) (fun i σ H3 => ∃ y6 y8 xs pr, σ = [some (.ref nb), some (.ref pl), some (.ref up), some (.int hb), some (.ref l), y5, y6, some (.ref p), y8] ∧ Same H H3 ∧ H3 so = some (.lst (zs.map V.str)) ∧ H3 p = some (.lst xs) ∧ TpAll K H3 xs (pr.map prD) ∧ pr.map (·.1) = zs.take i)
        ⟨_, _, [], [], rfl, s5, upd_same, by rw [upd_ne nps, upd_same], .nil, rfl⟩ (fun i σ H3 _ h3 => let ⟨_, _, _, _, _, _, e, _⟩ := h3; .of e) (fun i x σ H3 hx h3 => ?_) (fun σ H3 h3 => ?_)
      · obtain ⟨y6, y8, xs, pr, rfl, s6, eso, ep, htp, hpr⟩ := h3
        obtain ⟨z, hz, rfl, hi⟩ := map_at_inv hx
        have hN6 := hN.up s6
        have lpr : pr.length = i := by
          have e := congrArg List.length hpr
          rw [List.length_map, List.length_take] at e
          omega
        have lxs : xs.length = i := by rw [htp.len, List.length_map, lpr]
        have lzs : zs.length ≤ 1240 := by rw [hperm.length_eq]; omega
        refine ⟨_, rfl, _, rfl, nb, pl, ns, 10000, rfl, hN6.s, hN6.ne, hN6.at_, by decide, fun v v0 v1 => ⟨_, _, rfl, rfl, ?_⟩⟩
        refine ⟨_, rfl, .inl ⟨rfl, _, .of ep⟩, _, rfl, ?_⟩
        refine ⟨_, rfl, _, rfl, _, _, rfl, rfl, by show (0 : Int) < 2; decide, _, _, rfl, rfl, _, rfl, _, _, rfl, rfl, by show (0 : Int) < 3; decide, _, _, rfl, rfl, by show 4 ≤ sizeLine; decide, fun m nm => ?_⟩
        generalize hL : ([V.int (1 + v), V.int 7, V.int (1 + (1 + v) % 2), V.int (10000 - (1 + v) % 3)] : List V) = L
        have hL2 : L = ([1 + v, 7, 1 + (1 + v) % 2, 10000 - (1 + v) % 3] : List Int).map V.int := hL.symm
        have hj : hb.toNat < ([1 + v, 7, 1 + (1 + v) % 2, 10000 - (1 + v) % 3] : List Int).length := by show hb.toNat < 4; omega
        have hat := map_at V.int (List.getElem?_eq_getElem hj)
        generalize ([1 + v, 7, 1 + (1 + v) % 2, 10000 - (1 + v) % 3] : List Int)[hb.toNat] = x at hat
        rw [← hL2] at hat
        refine ⟨_, rfl, m, L, _, _, rfl, rfl, .of upd_same, at_of (toNat_eq hb0) hat, ?_⟩
        refine ⟨by show 2 ≤ sizeLine; decide, fun t nt => ?_⟩
        have g1 := (same_new (o := .lst L) nm).trans (same_new (o := .tup [.str z, .int x]) nt)
        have et : (upd (upd H3 m (.lst L)) t (.tup [.str z, .int x])) t = some (.tup [.str z, .int x]) := upd_same
        generalize upd (upd H3 m (.lst L)) t (.tup [.str z, .int x]) = H7 at g1 et
        have ep7 := g1 _ _ ep
        refine ⟨p, _, _, rfl, rfl, ep7, small100k (by omega), ?_⟩
        refine ⟨_, _, xs ++ [.ref t], pr ++ [(z, x)], rfl, smut (s6.trans g1) npH, by rw [upd_ne nps.symm]; exact g1 _ _ eso, upd_same, ?_, by rw [List.map_append, hpr, take_next hz]; rfl⟩
        rw [List.map_append]
        exact ((htp.up (Gr.same g1)).app (.one (.tup (.of et) (.cons (.str _) (.cons (.int _) .nil))))).up (Gr.lst ep7)
      · obtain ⟨y6, y8, xs, pr, rfl, s6, eso, ep, htp, hpr⟩ := h3
        rw [List.length_map, List.take_length] at hpr
        refine ⟨_, rfl, p, _, rfl, .of ep, fun t o nt oc od => ?_⟩
        have g1 := same_new (o := .frz o (.tup xs)) nt
        refine q t o xs pr _ ⟨?_, fun u hu z hz => ?_, ?_, fun p hp => ?_⟩ (s6.trans g1) (s6.free nt) upd_same oc od (htp.up (Gr.same g1))
        · rw [hpr]
          exact hperm.nodup_iff.mpr hnd
        · rw [hpr]
          exact hperm.mem_iff.mpr (hin u hu z hz)
        · have e : pr.length = zs.length := by rw [← hpr, List.length_map]
          rw [e, hperm.length_eq]
          omega
        · have hz : p.1 ∈ zs := by rw [← hpr]; exact List.mem_map_of_mem hp
          exact hzl _ (hperm.mem_iff.mp hz)
end
end K78
set_option Elab.async false
set_option linter.all false
set_option maxRecDepth 100000
set_option maxHeartbeats 4000000
namespace KB
open PySem PySem.Spec PyProof.Rows L2
theorem ex_ifP {P : V → Prop} {t : TT} {ta tb : TE} {σ : L2.St} {H : Hp} {b : Bool} {Q : VK} (h : Ans t σ H b) (h1 : b = true → ∀ Q : VK, (∀ v, P v → Q v H) → ta σ H Q) (h2 : b = false → ∀ Q : VK, (∀ v, P v → Q v H) → tb σ H Q) (k : ∀ v, P v → Q v H) : tIf t ta tb σ H Q :=
  ex_if h (fun e => h1 e Q k) (fun e => h2 e Q k)
theorem gName_i {i : Nat} {v : V} {σ : L2.St} {H : Hp} {k : L2.St → Hp → Prop} (h : k (σ.set i (some v)) H) : gName i v σ H k := h
theorem nx_i {n : L2.St → Hp → Prop} {r : VK} {b c : L2.St → Hp → Prop} {σ : L2.St} {H : Hp} (h : n σ H) : ({ nx := n, rt := r, bk := b, ct := c } : Ends).nx σ H := h
theorem tSeq_i {t u : TS} {D : Ends} {σ : L2.St} {H : Hp} (h : t { D with nx := u D } σ H) : tSeq t u D σ H := h
theorem tFor_i {wi : TI} {g : TG} {tb : TS} {D : Ends} {σ : L2.St} {H : Hp} (h : wi σ H fun J H1 => ∃ W : Nat → Nat → L2.St → Hp → Prop, (∃ m, W 0 m σ H1) ∧ ∀ i m σ H, W i m σ H →
  (J.stop i H ∧ D.nx σ H) ∨ (J.go i H ∧ ∃ N : L2.St → Hp → Prop, (∀ σ' H', N σ' H' → ∃ m', m' < m ∧ W (i + 1) m' σ' H') ∧ ∀ x H', J.yld i H x H' → g x σ H' fun σ2 H2 => tb { D with nx := N, ct := N, bk := D.nx } σ2 H2)) : tFor wi g tb D σ H := h
theorem iRng1_i {ta : TA} {σ : L2.St} {H : Hp} {R : It → Hp → Prop} (h : ta σ H fun vs H1 => ∃ j : Int, vs = [.int j] ∧ -(2 ^ 62) ≤ j ∧ j < 2 ^ 62 ∧ R (Itr 0 j.toNat) H1) : iRng1 ta σ H R := h
theorem tCons_i {ta : TE} {tr : TA} {σ : L2.St} {H : Hp} {Q : List V → Hp → Prop} (h : ta σ H fun x H1 => tr σ H1 fun xs H2 => Q (x :: xs) H2) : tCons ta tr σ H Q := h
theorem flat_ints (zs : List Int) : (zs.map V.int).all flatV = true := by
  rw [List.all_map, List.all_eq_true]
  intro x _
  rfl
abbrev qI (z : Int) : V × PyData := (V.int z, PyData.int z)
open PySem.W in
theorem sort_ints {K : PySem.W.Frag} {H : Hp} {a : Addr} {zs : List Int} {Q : VK} (h : SqL K H a (zs.map V.int)) (q : ∀ (ys : List Int) p, ys.Perm zs → H p = none → Q (.ref p) (upd H p (.lst (ys.map V.int)))) : rSortD K [.ref a] H Q := by
  have e1 : (zs.map qI).map (·.1) = zs.map V.int := by rw [List.map_map]; rfl
  have e2 : (zs.map qI).map (·.2) = zs.map PyData.int := by rw [List.map_map]; rfl
  have eS : (zs.map qI).mergeSort (dataLe false Prod.snd) = (zs.mergeSort (fun a b => dataLe false Prod.snd (qI a) (qI b))).map qI := (List.map_mergeSort (f := qI) fun _ _ _ _ => rfl).symm
  refine ⟨a, zs.map qI, rfl, by rw [e1]; exact h, fun x hx => ?_, fun d hd e he => ?_, .inr fun d hd => ?_, fun x hx => ?_, fun p hp => ?_⟩
  · obtain ⟨z, _, rfl⟩ := List.mem_map.mp hx
    exact .int z
  · rw [e2] at hd he
    obtain ⟨z, _, rfl⟩ := List.mem_map.mp hd
    obtain ⟨y, _, rfl⟩ := List.mem_map.mp he
    rfl
  · rw [e2] at hd
    obtain ⟨z, _, rfl⟩ := List.mem_map.mp hd
    exact ⟨fun z => (by cases z), fun xs z => (by cases z)⟩
  · obtain ⟨z, _, rfl⟩ := List.mem_map.mp hx
    exact Nat.zero_le _
  · have q' := q _ p (List.mergeSort_perm zs (fun a b => dataLe false Prod.snd (qI a) (qI b))) hp
    rw [eS, List.map_map]
    exact q'
end KB
namespace K78
open PySem PySem.Spec PyProof.Rows L2 KB
structure Ca3 (P : Program) (w : World) (K : PySem.W.Frag) (mg : Str → Option Value) (base : Heap) : Prop extends Ca2 P w K mg base where
  l_names : Cal P w K mg base 3 "_law_names" (spNames K)
abbrev dlD (d : Int × Int) : PyData := .tuple [.int d.1, .int d.2]
abbrev stD (s : Str × Int × Int) : PyData := .tuple [.str s.1, .int s.2.1, .int s.2.2]
/-- a term: its three names, its four numbers -/
structure Tm where
  a : Str
  b : Str
  c : Str
  i : Int
  j : Int
  k : Int
  l : Int
abbrev tmD (t : Tm) : PyData := .tuple [.str t.a, .str t.b, .str t.c, .int t.i, .int t.j, .int t.k, .int t.l]
/-- the plan: dial, fold, stations, channels, terms -/
abbrev planD (d : Int × Int) (fo : Int) (st : List (Str × Int × Int)) (ch : List Int) (te : List Tm) : PyData := .tuple [dlD d, .int fo, .tuple (st.map stD), .tuple (ch.map PyData.int), .tuple (te.map tmD)]
structure PlanOk (d : Int × Int) (fo : Int) (st : List (Str × Int × Int)) (ch : List Int) (te : List Tm) : Prop where
  n0 : 0 ≤ d.1
  st : st.length ≤ 4
  ch : ch.length ≤ 3
  te : te.length ≤ 5
section
variable {P : Program} {w : World} {K : PySem.W.Frag} {mg : Str → Option Value} {base : Heap}
def spPlan (K : PySem.W.Frag) : Sp := fun vs H Q _ => ∃ (nb pl ah : Addr) (ns : List Int) (zs : List Str) (bt : Int), vs = [.ref nb, .ref pl, .ref ah, .int bt] ∧ Nb K H nb pl ns ∧ H ah = some (.lst (zs.map V.str)) ∧ zs.length ≤ 200 ∧ 1 ≤ bt ∧ bt ≤ 40 ∧
  ∀ (r : V) (d : Int × Int) (fo : Int) (st : List (Str × Int × Int)) (ch : List Int) (te : List Tm) (H' : Hp), PlanOk d fo st ch te → Same H H' → Tp K H' r (planD d fo st ch te) → Q r H'
theorem c_l_plan (D : Dn K mg "_law_plan" s_l_plan) (B : Bl mg) (C : Ca3 P w K mg base) : Cal P w K mg base 4 "_law_plan" (spPlan K) := by
  refine cal_of D sc_l_plan (fun vs H Q E h => ?_) (fun _ _ _ _ _ _ us hl => match us, hl with | [_, _, _, _], _ => rfl) (fun f cdv A outer s H0 vs Q E hr h => ?_)
  · obtain ⟨nb, pl, ah, ns, zs, bt, rfl, _⟩ := h
    rfl
  · obtain ⟨nb, pl, ah, ns, zs, bt, rfl, hN, hah, lzs, bt1, bt40, q⟩ := h
    refine ⟨_, (pss_cons (ps_set (i := 4) sc_l_plan.nd rfl (.inl rfl) (pe_lst (pa_cons (pe_tup (pa_cons pe_int (pa_cons pe_int pa_nil))) (pa_cons (pe_tup (pa_cons pe_int (pa_cons pe_int pa_nil))) (pa_cons (pe_tup (pa_cons pe_int (pa_cons pe_int pa_nil))) (pa_cons (pe_tup (pa_cons pe_int (pa_cons pe_int pa_nil))) (pa_cons (pe_tup (pa_cons pe_int (pa_cons pe_int pa_nil))) (pa_cons (pe_tup (pa_cons pe_int (pa_cons pe_int pa_nil))) (pa_cons (pe_tup (pa_cons pe_int (pa_cons (pe_un un_neg pe_int) pa_nil))) (pa_cons (pe_tup (pa_cons pe_int (pa_cons pe_int pa_nil))) (pa_cons (pe_tup (pa_cons pe_int (pa_cons pe_int pa_nil))) (pa_cons (pe_tup (pa_cons pe_int (pa_cons pe_int pa_nil))) pa_nil))))))))))))
      (pss_cons (ps_set (i := 5) sc_l_plan.nd rfl (.inl rfl) (pe_ix ix_list (pv 4) (pe_c C.l_pick hr (by decide) rfl (pa_cons (pv 0) (pa_cons (pv 1) (pa_cons pe_int pa_nil)))) (fun _ _ => rfl)))
      (pss_cons (ps_set (i := 6) sc_l_plan.nd rfl (.inl rfl) (pe_ix ix_list (pe_lst (pa_cons pe_int (pa_cons pe_int (pa_cons pe_int (pa_cons pe_int (pa_cons pe_int (pa_cons pe_int pa_nil))))))) (pe_c C.l_pick hr (by decide) rfl (pa_cons (pv 0) (pa_cons (pv 1) (pa_cons pe_int pa_nil)))) (fun _ _ => rfl)))
      (pss_cons (ps_set (i := 7) sc_l_plan.nd rfl (.inl rfl) (pe_ifExp (pt_cmpR op_eq (pe_ix ix_tup (pv 5) pe_int (fun _ _ => rfl)) pe_int (nomark _)) pe_int pe_int))
      (pss_cons (ps_set (i := 8) sc_l_plan.nd rfl (.inl rfl) (pe_ix ix_list (pe_lst (pa_cons pe_int (pa_cons pe_int (pa_cons pe_int (pa_cons pe_int (pa_cons pe_int (pa_cons pe_int (pa_cons pe_int (pa_cons pe_int pa_nil))))))))) (pe_c C.l_pick hr (by decide) rfl (pa_cons (pv 0) (pa_cons (pv 1) (pa_cons pe_int pa_nil)))) (fun _ _ => rfl)))
      (Evl.pss_cut (ps_if (PW.pt (pw_or (pt_cmpR op_gt (pe_op op_mul (pe_op op_fdiv (pe_op op_mul (pv 8) (pe_op op_sub (pv 8) pe_int)) pe_int) (pe_callB (call_min2 rfl) (by rfl) B.min bt_min (pa_cons (pv 3) (pa_cons pe_int pa_nil)))) (pv 7) (nomark _)) (pw_or1 (pt_cmpR op_gt (pe_op op_mul (pe_op op_fdiv (pe_op op_mul (pv 8) (pe_op op_sub (pv 8) pe_int)) pe_int) (pv 3)) pe_int (nomark _))))) 
        (pss_one (ps_set (i := 8) sc_l_plan.nd rfl (.inl rfl) pe_int)) pss_nil)
      (pss_cons (ps_set (i := 9) sc_l_plan.nd rfl (.inl rfl) (pe_lst pa_nil))
      (pss_cons (ps_for PassesOwn.never rfl (pi_list (pe_callB (cr_sortD hr.units) (by rfl) B.sorted bt_sorted (pa_cons (pe_c C.l_names hr (by decide) rfl (pa_cons (pv 0) (pa_cons (pv 1) (pa_cons (pv 8) (pa_cons (pv 2) pa_nil))))) pa_nil))) (pg_name (i := 10) sc_l_plan.nd rfl (.inl rfl)) 
        (pss_one (ps_expr (pe_bm PySem.F.plainAttrs_list PySem.F.slot_list_append PySem.F.type_list_append mt_append (pv 9) (pa_cons (pe_tup (pa_cons (pv 10) (pa_cons (pe_op op_sub (pe_c C.l_pick hr (by decide) rfl (pa_cons (pv 0) (pa_cons (pv 1) (pa_cons pe_int pa_nil)))) pe_int) (pa_cons (pe_op op_sub (pe_c C.l_pick hr (by decide) rfl (pa_cons (pv 0) (pa_cons (pv 1) (pa_cons pe_int pa_nil)))) pe_int) pa_nil)))) pa_nil)))))
      (pss_cons (ps_set (i := 11) sc_l_plan.nd rfl (.inl rfl) (pe_callB (call_max2 rfl) (by rfl) B.max bt_max (pa_cons pe_int (pa_cons (pe_op op_fdiv (pe_op op_mul (pv 8) (pe_op op_sub (pv 8) pe_int)) pe_int) pa_nil))))
      (pss_cons (ps_set (i := 12) sc_l_plan.nd rfl (.inl rfl) (pe_callB (call_min3 rfl) (by rfl) B.min bt_min (pa_cons pe_int (pa_cons (pe_op op_fdiv (pv 7) (pe_op op_mul (pv 11) (pe_callB (call_min2 rfl) (by rfl) B.min bt_min (pa_cons (pv 3) (pa_cons pe_int pa_nil))))) (pa_cons (pe_op op_fdiv pe_int (pe_op op_mul (pv 11) (pv 3))) pa_nil)))))
      (Evl.pss_cut (ps_set (i := 13) sc_l_plan.nd rfl (.inl rfl) (pe_lst pa_nil))
      (Evl.pss_cut (ps_for PassesOwn.never rfl (pi_range1 (by rfl) B.range (pa_cons (pe_op op_add pe_int (pe_c C.l_pick hr (by decide) rfl (pa_cons (pv 0) (pa_cons (pv 1) (pa_cons (pe_callB (call_max2 rfl) (by rfl) B.max bt_max (pa_cons pe_int (pa_cons (pv 12) pa_nil))) pa_nil))))) pa_nil)) (pg_name (i := 14) sc_l_plan.nd rfl (.inl rfl)) 
        (pss_cons (ps_set (i := 15) sc_l_plan.nd rfl (.inl rfl) (pe_op op_add pe_int (pe_c C.l_pick hr (by decide) rfl (pa_cons (pv 0) (pa_cons (pv 1) (pa_cons (pe_ifExp (pt_cmpR op_eq (pe_ix ix_tup (pv 5) pe_int (fun _ _ => rfl)) pe_int (nomark _)) pe_int pe_int) pa_nil))))))
        (pss_one (ps_if (pt_cmpR op_notIn_seq (pv 15) (pv 13) rfl) 
          (pss_one (ps_expr (pe_bm PySem.F.plainAttrs_list PySem.F.slot_list_append PySem.F.type_list_append mt_append (pv 13) (pa_cons (pv 15) pa_nil)))) pss_nil))))
      (pss_cons (ps_set (i := 16) sc_l_plan.nd rfl (.inl rfl) (pe_c C.l_names hr (by decide) rfl (pa_cons (pv 0) (pa_cons (pv 1) (pa_cons pe_int (pa_cons (pe_lst pa_nil) pa_nil))))))
      (pss_cons (ps_set (i := 17) sc_l_plan.nd rfl (.inl rfl) (pe_lst pa_nil))
      (pss_cons (ps_for PassesOwn.never rfl (pi_range1 (by rfl) B.range (pa_cons (pe_ifExp (PW.pt (pw_or (pt_cmpR op_eq (pv 8) pe_int (nomark _)) (pw_or1 (PW.pt (pw_and (pt_cmpR op_eq (pe_ix ix_tup (pv 5) pe_int (fun _ _ => rfl)) pe_int (nomark _)) (pw_and1 (pt_cmpR op_gt (pv 3) pe_int (nomark _)))))))) pe_int (pe_c C.l_pick hr (by decide) rfl (pa_cons (pv 0) (pa_cons (pv 1) (pa_cons pe_int pa_nil))))) pa_nil)) (pg_name (i := 14) sc_l_plan.nd rfl (.inl rfl)) 
        (pss_cons (ps_set (i := 18) sc_l_plan.nd rfl (.inl rfl) (pe_c C.l_pick hr (by decide) rfl (pa_cons (pv 0) (pa_cons (pv 1) (pa_cons (pv 3) pa_nil)))))
        (pss_cons (ps_set (i := 19) sc_l_plan.nd rfl (.inl rfl) (pe_op op_add pe_int (pe_c C.l_pick hr (by decide) rfl (pa_cons (pv 0) (pa_cons (pv 1) (pa_cons pe_int pa_nil))))))
        (pss_cons (ps_set (i := 20) sc_l_plan.nd rfl (.inl rfl) (pe_ix ix_list (pe_lst (pa_cons pe_str (pa_cons pe_str (pa_cons pe_str (pa_cons pe_str pa_nil))))) (pe_c C.l_pick hr (by decide) rfl (pa_cons (pv 0) (pa_cons (pv 1) (pa_cons pe_int pa_nil)))) (fun _ _ => rfl)))
        (pss_cons (ps_set (i := 21) sc_l_plan.nd rfl (.inl rfl) (pe_ix ix_tup (pe_ix ix_list (pv 9) (pe_c C.l_pick hr (by decide) rfl (pa_cons (pv 0) (pa_cons (pv 1) (pa_cons (pv 8) pa_nil)))) (fun _ _ => rfl)) pe_int (fun _ _ => rfl)))
        (pss_cons (ps_set (i := 22) sc_l_plan.nd rfl (.inl rfl) (pe_op op_add (pv 18) (pe_c C.l_pick hr (by decide) rfl (pa_cons (pv 0) (pa_cons (pv 1) (pa_cons (pe_op op_sub (pv 3) (pv 18)) pa_nil))))))
        (pss_cons (ps_set (i := 23) sc_l_plan.nd rfl (.inl rfl) (pe_tup (pa_cons (pe_ix ix_list (pv 16) (pe_op op_mod (pv 14) pe_int) (fun _ _ => rfl)) (pa_cons (pv 21) (pa_cons (pv 20) (pa_cons (pv 18) (pa_cons (pv 22) (pa_cons (pv 19) (pa_cons (pe_callB (call_min2 rfl) (by rfl) B.min bt_min (pa_cons pe_int (pa_cons (pe_op op_add (pv 19) (pe_c C.l_pick hr (by decide) rfl (pa_cons (pv 0) (pa_cons (pv 1) (pa_cons pe_int pa_nil))))) pa_nil))) pa_nil)))))))))
        (pss_one (ps_if (pt_cmpR (op_notInP hr.units) (pv 23) (pv 17) rfl) 
          (pss_one (ps_expr (pe_bm PySem.F.plainAttrs_list PySem.F.slot_list_append PySem.F.type_list_append mt_append (pv 17) (pa_cons (pv 23) pa_nil)))) pss_nil)))))))))
      (pss_one (ps_ret (pe_tup (pa_cons (pv 5) (pa_cons (pv 6) (pa_cons (pe_callTy call_tuple_of (by rfl) B.tuple bt_tuple (pa_cons (pv 9) pa_nil)) (pa_cons (pe_callTy call_tuple_of (by rfl) B.tuple bt_tuple (pa_cons (pe_callB (cr_sortD hr.units) (by rfl) B.sorted bt_sorted (pa_cons (pv 13) pa_nil)) pa_nil)) (pa_cons (pe_callTy call_tuple_of (by rfl) B.tuple bt_tuple (pa_cons (pe_callB (cr_sortD hr.units) (by rfl) B.sorted bt_sorted (pa_cons (pv 17) pa_nil)) pa_nil)) pa_nil))))))))))))))))))))))), ?_⟩
    have s0 := Same.refl H0
    refine ⟨by show 2 ≤ sizeLine; decide, fun p1 n1 => ?_⟩
    have g1 := same_new (o := .tup [.int 12, .int (11)]) n1
    have t1 : Tp K (upd H0 p1 (.tup [.int 12, .int (11)])) (.ref p1) (dlD (12, 11)) := .tup (.of upd_same) (.cons (.int _) (.cons (.int _) .nil))
    generalize upd H0 p1 (.tup [.int 12, .int (11)]) = H1 at g1 t1
    have s1 := s0.trans g1
    refine ⟨by show 2 ≤ sizeLine; decide, fun p2 n2 => ?_⟩
    have g2 := same_new (o := .tup [.int 2, .int (1)]) n2
    have t2 : Tp K (upd H1 p2 (.tup [.int 2, .int (1)])) (.ref p2) (dlD (2, 1)) := .tup (.of upd_same) (.cons (.int _) (.cons (.int _) .nil))
    generalize upd H1 p2 (.tup [.int 2, .int (1)]) = H2 at g2 t2
    have s2 := s1.trans g2
    refine ⟨by show 2 ≤ sizeLine; decide, fun p3 n3 => ?_⟩
    have g3 := same_new (o := .tup [.int 3, .int (2)]) n3
    have t3 : Tp K (upd H2 p3 (.tup [.int 3, .int (2)])) (.ref p3) (dlD (3, 2)) := .tup (.of upd_same) (.cons (.int _) (.cons (.int _) .nil))
    generalize upd H2 p3 (.tup [.int 3, .int (2)]) = H3 at g3 t3
    have s3 := s2.trans g3
    refine ⟨by show 2 ≤ sizeLine; decide, fun p4 n4 => ?_⟩
    have g4 := same_new (o := .tup [.int 8, .int (3)]) n4
    have t4 : Tp K (upd H3 p4 (.tup [.int 8, .int (3)])) (.ref p4) (dlD (8, 3)) := .tup (.of upd_same) (.cons (.int _) (.cons (.int _) .nil))
    generalize upd H3 p4 (.tup [.int 8, .int (3)]) = H4 at g4 t4
    have s4 := s3.trans g4
    refine ⟨by show 2 ≤ sizeLine; decide, fun p5 n5 => ?_⟩
    have g5 := same_new (o := .tup [.int 15, .int (4)]) n5
    have t5 : Tp K (upd H4 p5 (.tup [.int 15, .int (4)])) (.ref p5) (dlD (15, 4)) := .tup (.of upd_same) (.cons (.int _) (.cons (.int _) .nil))
    generalize upd H4 p5 (.tup [.int 15, .int (4)]) = H5 at g5 t5
    have s5 := s4.trans g5
    refine ⟨by show 2 ≤ sizeLine; decide, fun p6 n6 => ?_⟩
    have g6 := same_new (o := .tup [.int 0, .int (1)]) n6
    have t6 : Tp K (upd H5 p6 (.tup [.int 0, .int (1)])) (.ref p6) (dlD (0, 1)) := .tup (.of upd_same) (.cons (.int _) (.cons (.int _) .nil))
    generalize upd H5 p6 (.tup [.int 0, .int (1)]) = H6 at g6 t6
    have s6 := s5.trans g6
    refine ⟨1, rfl, by show 2 ≤ sizeLine; decide, fun p7 n7 => ?_⟩
    have g7 := same_new (o := .tup [.int 0, .int (-1)]) n7
    have t7 : Tp K (upd H6 p7 (.tup [.int 0, .int (-1)])) (.ref p7) (dlD (0, -1)) := .tup (.of upd_same) (.cons (.int _) (.cons (.int _) .nil))
    generalize upd H6 p7 (.tup [.int 0, .int (-1)]) = H7 at g7 t7
    have s7 := s6.trans g7
    refine ⟨by show 2 ≤ sizeLine; decide, fun p8 n8 => ?_⟩
    have g8 := same_new (o := .tup [.int 10000, .int (9999)]) n8
    have t8 : Tp K (upd H7 p8 (.tup [.int 10000, .int (9999)])) (.ref p8) (dlD (10000, 9999)) := .tup (.of upd_same) (.cons (.int _) (.cons (.int _) .nil))
    generalize upd H7 p8 (.tup [.int 10000, .int (9999)]) = H8 at g8 t8
    have s8 := s7.trans g8
    refine ⟨by show 2 ≤ sizeLine; decide, fun p9 n9 => ?_⟩
    have g9 := same_new (o := .tup [.int 24, .int (5)]) n9
    have t9 : Tp K (upd H8 p9 (.tup [.int 24, .int (5)])) (.ref p9) (dlD (24, 5)) := .tup (.of upd_same) (.cons (.int _) (.cons (.int _) .nil))
    generalize upd H8 p9 (.tup [.int 24, .int (5)]) = H9 at g9 t9
    have s9 := s8.trans g9
    refine ⟨by show 2 ≤ sizeLine; decide, fun p10 n10 => ?_⟩
    have g10 := same_new (o := .tup [.int 9, .int (8)]) n10
    have t10 : Tp K (upd H9 p10 (.tup [.int 9, .int (8)])) (.ref p10) (dlD (9, 8)) := .tup (.of upd_same) (.cons (.int _) (.cons (.int _) .nil))
    generalize upd H9 p10 (.tup [.int 9, .int (8)]) = H10 at g10 t10
    have s10 := s9.trans g10
    refine ⟨by show 10 ≤ sizeLine; decide, fun dls ndls => ?_⟩
    have g11 := same_new (o := .lst [.ref p1, .ref p2, .ref p3, .ref p4, .ref p5, .ref p6, .ref p7, .ref p8, .ref p9, .ref p10]) ndls
    have e11 := upd_same (H := H10) (a := dls) (o := .lst [.ref p1, .ref p2, .ref p3, .ref p4, .ref p5, .ref p6, .ref p7, .ref p8, .ref p9, .ref p10])
    have t11 : TpAll K (upd H10 dls (.lst [.ref p1, .ref p2, .ref p3, .ref p4, .ref p5, .ref p6, .ref p7, .ref p8, .ref p9, .ref p10])) [.ref p1, .ref p2, .ref p3, .ref p4, .ref p5, .ref p6, .ref p7, .ref p8, .ref p9, .ref p10] (([(12, 11), (2, 1), (3, 2), (8, 3), (15, 4), (0, 1), (0, -1), (10000, 9999), (24, 5), (9, 8)] : List (Int × Int)).map dlD) := TpAll.up (.cons (((((((((t1.up (Gr.same g2)).up (Gr.same g3)).up (Gr.same g4)).up (Gr.same g5)).up (Gr.same g6)).up (Gr.same g7)).up (Gr.same g8)).up (Gr.same g9)).up (Gr.same g10)) (.cons ((((((((t2.up (Gr.same g3)).up (Gr.same g4)).up (Gr.same g5)).up (Gr.same g6)).up (Gr.same g7)).up (Gr.same g8)).up (Gr.same g9)).up (Gr.same g10)) (.cons (((((((t3.up (Gr.same g4)).up (Gr.same g5)).up (Gr.same g6)).up (Gr.same g7)).up (Gr.same g8)).up (Gr.same g9)).up (Gr.same g10)) (.cons ((((((t4.up (Gr.same g5)).up (Gr.same g6)).up (Gr.same g7)).up (Gr.same g8)).up (Gr.same g9)).up (Gr.same g10)) (.cons (((((t5.up (Gr.same g6)).up (Gr.same g7)).up (Gr.same g8)).up (Gr.same g9)).up (Gr.same g10)) (.cons ((((t6.up (Gr.same g7)).up (Gr.same g8)).up (Gr.same g9)).up (Gr.same g10)) (.cons (((t7.up (Gr.same g8)).up (Gr.same g9)).up (Gr.same g10)) (.cons ((t8.up (Gr.same g9)).up (Gr.same g10)) (.cons (t9.up (Gr.same g10)) (.cons t10 .nil)))))))))) (Gr.same g11)
    have m11 : ∀ d ∈ ([(12, 11), (2, 1), (3, 2), (8, 3), (15, 4), (0, 1), (0, -1), (10000, 9999), (24, 5), (9, 8)] : List (Int × Int)), 0 ≤ d.1 := by decide
    have l11 : ([(12, 11), (2, 1), (3, 2), (8, 3), (15, 4), (0, 1), (0, -1), (10000, 9999), (24, 5), (9, 8)] : List (Int × Int)).length = 10 := rfl
    generalize ([(12, 11), (2, 1), (3, 2), (8, 3), (15, 4), (0, 1), (0, -1), (10000, 9999), (24, 5), (9, 8)] : List (Int × Int)) = dl at t11 m11 l11
    have l12 : ([.ref p1, .ref p2, .ref p3, .ref p4, .ref p5, .ref p6, .ref p7, .ref p8, .ref p9, .ref p10] : List V).length = 10 := rfl
    generalize ([.ref p1, .ref p2, .ref p3, .ref p4, .ref p5, .ref p6, .ref p7, .ref p8, .ref p9, .ref p10] : List V) = rl at g11 e11 t11 l12 ⊢
    generalize upd H10 dls (.lst rl) = Ha at g11 e11 t11
    have sa := s10.trans g11
    have hNa := hN.up sa
    -- dial
    refine ⟨_, rfl, _, rfl, _, rfl, nb, pl, ns, 10, rfl, hNa.s, hNa.ne, hNa.at_, by decide, fun v v0 v1 => ?_⟩
    have hv : v.toNat < rl.length := by omega
    obtain ⟨dd, hdd, tdd⟩ := t11.atF (List.getElem?_eq_getElem hv)
    have dd0 := m11 dd (List.mem_of_getElem? hdd)
    refine ⟨dls, rl, _, _, rfl, rfl, .of e11, at_of (toNat_eq v0) (List.getElem?_eq_getElem hv), ?_⟩
    obtain ⟨dp, dxs, edp, sdp, tdp⟩ := tdd.tup_of
    rw [edp]
    have hdx : dxs = [.int dd.1, .int dd.2] := TpAll.ints_of (zs := [dd.1, dd.2]) tdp
    subst hdx
    -- fold
    refine ⟨by show 6 ≤ sizeLine; decide, fun m1 nm1 => ?_⟩
    have gb : Same Ha (upd Ha m1 (.lst [.int 0, .int 0, .int 2, .int 3, .int 6, .int 24])) := same_new nm1
    have eb : (upd Ha m1 (.lst [.int 0, .int 0, .int 2, .int 3, .int 6, .int 24])) m1 = some (.lst (([0, 0, 2, 3, 6, 24] : List Int).map V.int)) := upd_same
    generalize upd Ha m1 (.lst [.int 0, .int 0, .int 2, .int 3, .int 6, .int 24]) = Hb at gb eb
    have sb := sa.trans gb
    have hNb := hN.up sb
    refine ⟨_, rfl, _, rfl, nb, pl, ns, 6, rfl, hNb.s, hNb.ne, hNb.at_, by decide, fun c c0 c1 => ?_⟩
    have hc : c.toNat < ([0, 0, 2, 3, 6, 24] : List Int).length := by show c.toNat < 6; omega
    refine ⟨m1, _, _, _, rfl, rfl, .of eb, at_of (toNat_eq c0) (map_at V.int (List.getElem?_eq_getElem hc)), ?_⟩
    generalize ([0, 0, 2, 3, 6, 24] : List Int)[c.toNat] = fo
    have sqb : SqT K Hb dp [.int dd.1, .int dd.2] := (Gr.same gb).t sdp
    -- pairs
    dsimp only [gName]
    refine ex_ifP (P := fun v => ∃ n : Int, v = .int n ∧ 0 ≤ n ∧ n ≤ 28) (b := decide (V.int dd.1 = V.int 0)) (fun Q q => ?_) (fun _ Q q => ?_) (fun _ Q q => ?_) (fun v hv => ?_)
    rotate_left
    · exact q _ ⟨7, rfl, by decide, by decide⟩
    · exact q _ ⟨28, rfl, by decide, by decide⟩
    rotate_left
    · exact ⟨_, rfl, dp, _, 0, _, rfl, rfl, sqb, atI_nat (j := 0) rfl, rfl, _, rfl, q⟩
    obtain ⟨prs, rfl, pr0, pr28⟩ := hv
    -- many
    refine ⟨by show 8 ≤ sizeLine; decide, fun m2 nm2 => ?_⟩
    have gc : Same Hb (upd Hb m2 (.lst [.int 0, .int 1, .int 2, .int 3, .int 3, .int 4, .int 2, .int 3])) := same_new nm2
    have ec : (upd Hb m2 (.lst [.int 0, .int 1, .int 2, .int 3, .int 3, .int 4, .int 2, .int 3])) m2 = some (.lst (([0, 1, 2, 3, 3, 4, 2, 3] : List Int).map V.int)) := upd_same
    generalize upd Hb m2 (.lst [.int 0, .int 1, .int 2, .int 3, .int 3, .int 4, .int 2, .int 3]) = Hc at gc ec
    have sc := sb.trans gc
    have hNc := hN.up sc
    refine ⟨_, rfl, _, rfl, nb, pl, ns, 8, rfl, hNc.s, hNc.ne, hNc.at_, by decide, fun m m0 m1' => ?_⟩
    have hm : m.toNat < ([0, 1, 2, 3, 3, 4, 2, 3] : List Int).length := by show m.toNat < 8; omega
    have hmem := List.getElem_mem hm
    have hmax : ∀ x ∈ ([0, 1, 2, 3, 3, 4, 2, 3] : List Int), 0 ≤ x ∧ x ≤ 4 := by decide
    obtain ⟨mm0, mm4⟩ := hmax _ hmem
    refine ⟨m2, _, _, _, rfl, rfl, .of ec, at_of (toNat_eq m0) (map_at V.int (List.getElem?_eq_getElem hm)), ?_⟩
    generalize ([0, 1, 2, 3, 3, 4, 2, 3] : List Int)[m.toNat] = mn at mm0 mm4
    have sqc : SqT K Hc dp [.int dd.1, .int dd.2] := (Gr.same gc).t sqb
    -- many at most so many
    refine ⟨fun σ' H' => ∃ mn : Int, σ' = [some (.ref nb), some (.ref pl), some (.ref ah), some (.int bt), some (.ref dls), some (.ref dp), some (.int fo), some (.int prs), some (.int mn), none, none, none, none, none, none, none, none, none, none, none, none, none, none, none] ∧ H' = Hc ∧ 0 ≤ mn ∧ mn ≤ 4, ?_, ?_⟩
    · have tri : 0 ≤ mn * (mn - 1) ∧ mn * (mn - 1) ≤ 12 := by
        have : mn = 0 ∨ mn = 1 ∨ mn = 2 ∨ mn = 3 ∨ mn = 4 := by omega
        rcases this with h | h | h | h | h <;> subst h <;> decide
      have bmn : (if (7 : Int) < bt then (7 : Int) else bt) ≤ 40 := by split <;> omega
      generalize hx : mn * (mn - 1) = x at tri
      refine st_if (b := decide (prs < mn * (mn - 1) / 2 * (if (7 : Int) < bt then (7 : Int) else bt)) || decide ((117 : Int) < mn * (mn - 1) / 2 * bt)) (aOr (fun Q q => ?_) (fun _ Q q => ?_)) (fun _ => ⟨2, rfl, rfl, by decide, by decide⟩) (fun _ => ⟨mn, rfl, rfl, mm0, mm4⟩)
      · exact ⟨_, rfl, _, rfl, _, _, rfl, rfl, _, _, rfl, rfl, .inl ⟨by omega, by omega⟩, _, _, rfl, rfl, ⟨by decide, by decide⟩, _, rfl, _, _, rfl, _, _, rfl, rfl, .inr ⟨by split <;> omega, by omega⟩, _, rfl, _, _, rfl, rfl, _, rfl, q⟩
      · exact ⟨_, rfl, _, rfl, _, _, rfl, rfl, _, _, rfl, rfl, .inl ⟨by omega, by omega⟩, _, _, rfl, rfl, ⟨by decide, by decide⟩, _, rfl, _, _, rfl, rfl, .inr ⟨by omega, by omega⟩, _, _, rfl, rfl, _, rfl, q⟩
    clear mm0 mm4 mn
    rintro σ' H' ⟨mn, rfl, rfl, mm0, mm4⟩
    -- stations
    refine ⟨by show 0 ≤ sizeLine; decide, fun l nl => ?_⟩
    have nlH : H0 l = none := sc.free nl
    have sd := sc.trans (same_new (o := .lst []) nl)
    have el : (upd H' l (.lst [])) l = some (.lst []) := upd_same
    have sqd : SqT K (upd H' l (.lst [])) dp [.int dd.1, .int dd.2] := (Gr.new nl).t sqc
    generalize upd H' l (.lst []) = Hd at sd el sqd
    have hNd := hN.up sd
    refine ⟨_, rfl, _, rfl, _, rfl, _, rfl, nb, pl, ah, ns, zs, mn, rfl, hNd, sd _ _ hah, lzs, mm0, by omega, fun p ys He lys _ _ se np ep => ?_⟩
    have nlp : l ≠ p := ne_of_none el np
    have gd := Gr.same se
    have s5 := sd.trans se
    have el5 := se _ _ el
    dsimp -proj only [tNil]
    refine sort_read (K := K) (.of ep) fun so nso => ?_
    have s6 := s5.trans (same_new (o := .lst ((ys.mergeSort leS).map V.str)) nso)
    have el6 : (upd He so (.lst ((ys.mergeSort leS).map V.str))) l = some (.lst []) := same_new nso _ _ el5
    have eso : (upd He so (.lst ((ys.mergeSort leS).map V.str))) so = some (.lst ((ys.mergeSort leS).map V.str)) := upd_same
    have sq6 := (Gr.new (o := .lst ((ys.mergeSort leS).map V.str)) nso).t (gd.t sqd)
    generalize upd He so (.lst ((ys.mergeSort leS).map V.str)) = Hf at s6 el6 eso sq6
    have hperm := (List.mergeSort_perm ys leS).length_eq
    generalize ys.mergeSort leS = zs2 at hperm eso ⊢
    have nsl : so ≠ l := fun z => by
      rw [z] at nso
      exact absurd nso (by rw [el5]; simp)
    refine ⟨so, rfl, ⟨_, .of eso⟩, ?_⟩
    refine for_list (K := K) (a := so) (xs := zs2.map V.str) (fun i σ H3 => ∃ y10 xs, ∃ st : List (Str × Int × Int), σ = [some (.ref nb), some (.ref pl), some (.ref ah), some (.int bt), some (.ref dls), some (.ref dp), some (.int fo), some (.int prs), some (.int mn), some (.ref l), y10, none, none, none, none, none, none, none, none, none, none, none, none, none] ∧ Same H0 H3 ∧ H3 so = some (.lst (zs2.map V.str)) ∧ SqT K H3 dp [.int dd.1, .int dd.2] ∧ H3 l = some (.lst xs) ∧ TpAll K H3 xs (st.map stD) ∧ st.length = i)
      ⟨_, [], [], rfl, s6, eso, sq6, el6, .nil, rfl⟩ (fun i σ H3 _ h3 => let ⟨_, _, _, _, _, e, _⟩ := h3; .of e) (fun i x σ H3 hx h3 => ?_) (fun σ H3 h3 => ?_)
    · obtain ⟨y10, xs, st, rfl, s7, eso7, sq7, el7, ht, hlen⟩ := h3
      obtain ⟨z, hz, rfl, hi⟩ := map_at_inv hx
      have hN7 := hN.up s7
      refine ⟨_, rfl, .inl ⟨rfl, _, .of el7⟩, _, rfl, _, rfl, _, rfl, nb, pl, ns, 23, rfl, hN7.s, hN7.ne, hN7.at_, by decide, fun a a0 a1 => ?_⟩
      refine ⟨_, _, rfl, rfl, _, rfl, _, rfl, nb, pl, ns, 23, rfl, hN7.s, hN7.ne, hN7.at_, by decide, fun b b0 b1 => ?_⟩
      refine ⟨_, _, rfl, rfl, by show 3 ≤ sizeLine; decide, fun t nt => ?_⟩
      have g := same_new (o := .tup [.str z, .int (a - 11), .int (b - 11)]) nt
      have et : (upd H3 t (.tup [.str z, .int (a - 11), .int (b - 11)])) t = some (.tup [.str z, .int (a - 11), .int (b - 11)]) := upd_same
      generalize upd H3 t (.tup [.str z, .int (a - 11), .int (b - 11)]) = H8 at g et
      have el8 := g _ _ el7
      have lxs : xs.length = i := by rw [ht.len, List.length_map, hlen]
      refine ⟨l, _, _, rfl, rfl, el8, small1000 (by omega), ?_⟩
      refine ⟨_, xs ++ [.ref t], st ++ [(z, a - 11, b - 11)], rfl, smut (s7.trans g) nlH, by rw [upd_ne nsl]; exact g _ _ eso7, (Gr.lst el8).t ((Gr.same g).t sq7), upd_same, ?_, by rw [List.length_append, hlen]; rfl⟩
      rw [List.map_append]
      exact ((ht.up (Gr.same g)).app (.one (.tup (.of et) (.cons (.str _) (.cons (.int _) (.cons (.int _) .nil)))))).up (Gr.lst el8)
    obtain ⟨y10, xs, st, rfl, s7, eso7, sq7, el7, ht, hlen⟩ := h3
    rw [List.length_map, hperm, lys] at hlen
    have tri : 0 ≤ mn * (mn - 1) ∧ mn * (mn - 1) ≤ 12 := by
      have : mn = 0 ∨ mn = 1 ∨ mn = 2 ∨ mn = 3 ∨ mn = 4 := by omega
      rcases this with h | h | h | h | h <;> subst h <;> decide
    -- rows, most
    refine ⟨_, rfl, _, rfl, _, _, rfl, rfl, _, _, rfl, rfl, .inl ⟨by omega, by omega⟩, _, _, rfl, rfl, ⟨by decide, by decide⟩, _, _, rfl, ?_⟩
    generalize hrw : (if mn * (mn - 1) / 2 > (1 : Int) then mn * (mn - 1) / 2 else (1 : Int)) = rw'
    have rw1 : 1 ≤ rw' ∧ rw' ≤ 6 := by
      rw [← hrw]
      split <;> omega
    have mulB : ∀ b : Int, 1 ≤ b → b ≤ 40 → 0 < rw' * b ∧ rw' * b < 1000 := fun b b1 b2 => by
      have : rw' = 1 ∨ rw' = 2 ∨ rw' = 3 ∨ rw' = 4 ∨ rw' = 5 ∨ rw' = 6 := by omega
      rcases this with h | h | h | h | h | h <;> rw [h] <;> omega
    have hb7 : 1 ≤ (if (7 : Int) < bt then (7 : Int) else bt) ∧ (if (7 : Int) < bt then (7 : Int) else bt) ≤ 40 := by split <;> omega
    obtain ⟨m1a, m1b⟩ := mulB _ hb7.1 hb7.2
    obtain ⟨m2a, m2b⟩ := mulB _ bt1 bt40
    refine ⟨_, rfl, _, rfl, _, rfl, _, _, rfl, _, _, rfl, rfl, .inl ⟨by omega, by omega⟩, _, _, rfl, rfl, ⟨m1a, by omega⟩, _, rfl, _, rfl, _, _, rfl, rfl, .inl ⟨by omega, by omega⟩, _, _, rfl, rfl, ⟨m2a, by omega⟩, _, _, _, rfl, ?_⟩
    generalize hmo : min (3 : Int) _ = most
    have mo3 : most ≤ 3 := by omega
    clear hmo
    -- channels
    have stl : (st.length : Int) = mn := by omega
    have st4 : st.length ≤ 4 := by omega
    refine ⟨fun σ' H' => ∃ l2 : Addr, σ' = [some (.ref nb), some (.ref pl), some (.ref ah), some (.int bt), some (.ref dls), some (.ref dp), some (.int fo), some (.int prs), some (.int mn), some (.ref l), y10, some (.int rw'), some (.int most), some (.ref l2), none, none, none, none, none, none, none, none, none, none] ∧ Same H0 H' ∧ SqT K H' dp [.int dd.1, .int dd.2] ∧ H' l = some (.lst xs) ∧ TpAll K H' xs (st.map stD) ∧ H' l2 = some (.lst []) ∧ H0 l2 = none ∧ l ≠ l2, ?_, ?_⟩
    · refine ⟨by show 0 ≤ sizeLine; decide, fun l2 nl2 => ?_⟩
      have g := same_new (o := .lst []) nl2
      exact ⟨l2, rfl, s7.trans g, (Gr.same g).t sq7, g _ _ el7, ht.up (Gr.same g), upd_same, s7.free nl2, ne_of_none el7 nl2⟩
    clear ht el7 sq7 eso7 s7
    rintro σ' H8 ⟨l2, rfl, s8, sq8, el8, ht, el2, nl2H, nll⟩
    refine ⟨fun σ' H' => ∃ y14 y15, ∃ ch : List Int, σ' = [some (.ref nb), some (.ref pl), some (.ref ah), some (.int bt), some (.ref dls), some (.ref dp), some (.int fo), some (.int prs), some (.int mn), some (.ref l), y10, some (.int rw'), some (.int most), some (.ref l2), y14, y15, none, none, none, none, none, none, none, none] ∧ Same H0 H' ∧ SqT K H' dp [.int dd.1, .int dd.2] ∧ H' l = some (.lst xs) ∧ TpAll K H' xs (st.map stD) ∧ H' l2 = some (.lst (ch.map V.int)) ∧ ch.length ≤ 3, ?_, ?_⟩
    · have hN8 := hN.up s8
      have mx : (0 : Int) < (if most > (1 : Int) then most else (1 : Int)) ∧ (if most > (1 : Int) then most else (1 : Int)) ≤ 3 := by split <;> omega
      refine ⟨_, rfl, _, rfl, _, rfl, _, _, rfl, nb, pl, ns, _, rfl, hN8.s, hN8.ne, hN8.at_, mx.1, fun a a0 a1 => ⟨_, _, rfl, rfl, ?_⟩⟩
      refine ⟨_, rfl, by omega, by omega, ?_⟩
      refine for_range (n := (1 + a).toNat) (fun i σ H3 => ∃ y14 y15, ∃ ch : List Int, σ = [some (.ref nb), some (.ref pl), some (.ref ah), some (.int bt), some (.ref dls), some (.ref dp), some (.int fo), some (.int prs), some (.int mn), some (.ref l), y10, some (.int rw'), some (.int most), some (.ref l2), y14, y15, none, none, none, none, none, none, none, none] ∧ Same H0 H3 ∧ SqT K H3 dp [.int dd.1, .int dd.2] ∧ H3 l = some (.lst xs) ∧ TpAll K H3 xs (st.map stD) ∧ H3 l2 = some (.lst (ch.map V.int)) ∧ ch.length ≤ i)
        ⟨_, _, [], rfl, s8, sq8, el8, ht, el2, by simp⟩ (fun i σ H3 hi h3 => ?_) (fun σ H3 h3 => ?_)
      · obtain ⟨y14, y15, ch, rfl, s9, sq9, el9, ht9, el2', hlen⟩ := h3
        have hN9 := hN.up s9
        refine ⟨_, rfl, _, rfl, ?_⟩
        refine ex_ifP (P := fun v => ∃ n : Int, v = .int n ∧ 0 < n) (b := decide (V.int dd.1 = V.int 0)) (fun Q q => ?_) (fun _ Q q => ?_) (fun _ Q q => ?_) (fun v hv => ?_)
        · exact ⟨_, rfl, dp, _, 0, _, rfl, rfl, sq9, atI_nat (j := 0) rfl, rfl, _, rfl, q⟩
        · exact q _ ⟨12, rfl, by decide⟩
        · exact q _ ⟨100, rfl, by decide⟩
        obtain ⟨cn, rfl, cn0⟩ := hv
        refine ⟨nb, pl, ns, cn, rfl, hN9.s, hN9.ne, hN9.at_, cn0, fun b b0 b1 => ⟨_, _, rfl, rfl, ?_⟩⟩
        refine ⟨_, rfl, _, rfl, l2, _, rfl, .inl (.of el2'), rfl, flat_ints ch, _, rfl, ite2 (fun e => ?_) (fun e => ?_)⟩
        · refine ⟨_, rfl, .inl ⟨rfl, _, .of el2'⟩, _, rfl, l2, _, _, rfl, rfl, el2', by rw [List.length_map]; exact small100k (by omega), ?_⟩
          exact ⟨_, _, ch ++ [1 + b], rfl, smut s9 nl2H, (Gr.lst el2').t sq9, by rw [upd_ne nll]; exact el9, ht9.up (Gr.lst el2'), by rw [upd_same, List.map_append]; rfl, by rw [List.length_append]; simp only [List.length_singleton]; omega⟩
        · exact ⟨_, _, ch, rfl, s9, sq9, el9, ht9, el2', by omega⟩
      · obtain ⟨y14, y15, ch, rfl, s9, sq9, el9, ht9, el2', hlen⟩ := h3
        exact ⟨_, _, ch, rfl, s9, sq9, el9, ht9, el2', by omega⟩
    clear ht el8 sq8 s8 el2
    rintro σ' H8 ⟨y14, y15, ch, rfl, s8, sq8, el8, ht, el2, hch⟩
    -- gains
    have hN8 := hN.up s8
    refine ⟨_, rfl, _, rfl, by show 0 ≤ sizeLine; decide, fun em nem => ?_⟩
    have g9 := same_new (o := .lst []) nem
    have e9 : (upd H8 em (.lst [])) em = some (.lst (([] : List Str).map V.str)) := upd_same
    generalize upd H8 em (.lst []) = H9 at g9 e9
    refine ⟨nb, pl, em, ns, [], 3, rfl, hN8.up g9, e9, by decide, by decide, by decide, fun ga gs H10 lgs _ _ s10 nga ega => ?_⟩
    have g10 := g9.trans s10
    refine ⟨by show 0 ≤ sizeLine; decide, fun te nte => ?_⟩
    have nteH : H0 te = none := s8.free (g10.free nte)
    have g11 := g10.trans (same_new (o := .lst []) nte)
    have ega1 : (upd H10 te (.lst [])) ga = some (.lst (gs.map V.str)) := same_new nte _ _ ega
    have ete : (upd H10 te (.lst [])) te = some (.lst []) := upd_same
    have ngt : ga ≠ te := ne_of_none ega nte
    have nlt : l ≠ te := ne_of_none (g10 _ _ el8) nte
    have nl2t : l2 ≠ te := ne_of_none (g10 _ _ el2) nte
    generalize upd H10 te (.lst []) = H11 at g11 ega1 ete
    have s11 := s8.trans g11
    have hN11 := hN.up s11
    have sq11 := (Gr.same g11).t sq8
    have lgs3 : gs.length = 3 := lgs
    refine gName_i ?_
    refine nx_i ?_
    refine tSeq_i ?_
    refine tFor_i ?_
    refine iRng1_i ?_
    refine tCons_i ?_
    refine ex_ifP (P := fun v => ∃ n : Int, v = .int n ∧ 0 ≤ n ∧ n ≤ 5 ∧ (n = 0 ∨ 0 < mn)) (b := decide (V.int mn = V.int 0) || (decide (V.int dd.1 = V.int 0) && decide ((7 : Int) < bt))) (aOr (fun Q q => ?_) (fun e => aAnd (fun Q q => ?_) (fun _ Q q => ?_))) (fun _ Q q => ?_) (fun e Q q => ?_) (fun v hv => ?_)
    · exact ⟨_, rfl, rfl, _, rfl, q⟩
    · exact ⟨_, rfl, dp, _, 0, _, rfl, rfl, sq11, atI_nat (j := 0) rfl, rfl, _, rfl, q⟩
    · exact ⟨_, rfl, _, _, rfl, rfl, _, rfl, q⟩
    · exact q _ ⟨0, rfl, by decide, by decide, .inl rfl⟩
    · refine ⟨_, rfl, _, rfl, nb, pl, ns, 6, rfl, hN11.s, hN11.ne, hN11.at_, by decide, fun v v0 v1 => q _ ⟨v, rfl, v0, by omega, .inr ?_⟩⟩
      have : mn ≠ 0 := fun z => by
        rw [z] at e
        simp at e
      omega
    obtain ⟨nt, rfl, nt0, nt5, ntm⟩ := hv
    refine ⟨nt, rfl, by omega, by omega, ?_⟩
    refine for_range (n := nt.toNat) (fun i σ H3 => ∃ y14 y18 y19 y20 y21 y22 y23 xt, ∃ ts : List Tm, σ = [some (.ref nb), some (.ref pl), some (.ref ah), some (.int bt), some (.ref dls), some (.ref dp), some (.int fo), some (.int prs), some (.int mn), some (.ref l), y10, some (.int rw'), some (.int most), some (.ref l2), y14, y15, some (.ref ga), some (.ref te), y18, y19, y20, y21, y22, y23] ∧ Same H0 H3 ∧ SqT K H3 dp [.int dd.1, .int dd.2] ∧ H3 l = some (.lst xs) ∧ TpAll K H3 xs (st.map stD) ∧ H3 l2 = some (.lst (ch.map V.int)) ∧ H3 ga = some (.lst (gs.map V.str)) ∧ H3 te = some (.lst xt) ∧ TpAll K H3 xt (ts.map tmD) ∧ ts.length ≤ i)
      ⟨_, _, _, _, _, _, _, [], [], rfl, s11, sq11, g11 _ _ el8, ht.up (Gr.same g11), g11 _ _ el2, ega1, ete, .nil, by simp⟩ (fun i σ H3 hi h3 => ?_) (fun σ H3 h3 => ?_)
    · obtain ⟨y14, y18, y19, y20, y21, y22, y23, xt, ts, rfl, s12, sq12, el12, ht12, el212, ega12, ete12, htt, hlen⟩ := h3
      have hmn : 0 < mn := by
        rcases ntm with z | z
        · omega
        · exact z
      have hN12 := hN.up s12
      refine ⟨_, rfl, _, rfl, _, rfl, nb, pl, ns, bt, rfl, hN12.s, hN12.ne, hN12.at_, by omega, fun ea ea0 ea1 => ?_⟩
      refine ⟨_, rfl, _, rfl, nb, pl, ns, 100, rfl, hN12.s, hN12.ne, hN12.at_, by decide, fun lo lo0 lo1 => ⟨_, _, rfl, rfl, ?_⟩⟩
      refine ⟨by show 4 ≤ sizeLine; decide, fun m4 nm4 => ?_⟩
      have g13 : Same H3 (upd H3 m4 (.lst [.str "flat", .str "slope", .str "rate", .str "drift"])) := same_new nm4
      have e13 : (upd H3 m4 (.lst [.str "flat", .str "slope", .str "rate", .str "drift"])) m4 = some (.lst ((["flat", "slope", "rate", "drift"] : List Str).map V.str)) := upd_same
      generalize upd H3 m4 (.lst [.str "flat", .str "slope", .str "rate", .str "drift"]) = H13 at g13 e13
      have s13 := s12.trans g13
      have hN13 := hN.up s13
      have el13 := g13 _ _ el12
      have ht13 := ht12.up (Gr.same g13)
      refine ⟨_, rfl, _, rfl, nb, pl, ns, 4, rfl, hN13.s, hN13.ne, hN13.at_, by decide, fun kd kd0 kd1 => ?_⟩
      have hkd : kd.toNat < (["flat", "slope", "rate", "drift"] : List Str).length := by show kd.toNat < 4; omega
      refine ⟨m4, _, _, _, rfl, rfl, .of e13, at_of (toNat_eq kd0) (map_at V.str (List.getElem?_eq_getElem hkd)), ?_⟩
      generalize (["flat", "slope", "rate", "drift"] : List Str)[kd.toNat] = kind
      -- station
      refine ⟨_, rfl, _, rfl, _, rfl, _, rfl, nb, pl, ns, mn, rfl, hN13.s, hN13.ne, hN13.at_, hmn, fun sn sn0 sn1 => ?_⟩
      have lxs : xs.length = st.length := by rw [ht13.len, List.length_map]
      have hsn : sn.toNat < xs.length := by omega
      obtain ⟨sst, _, tst⟩ := ht13.atF (List.getElem?_eq_getElem hsn)
      refine ⟨l, xs, _, _, rfl, rfl, .of el13, at_of (toNat_eq sn0) (List.getElem?_eq_getElem hsn), ?_⟩
      obtain ⟨sta, sxs, esa, ssq, stt⟩ := tst.tup_of
      rw [esa]
      obtain ⟨w0, ws, rfl, tw0⟩ : ∃ w0 ws, sxs = w0 :: ws ∧ Tp K H13 w0 (.str sst.1) := by
        cases stt with
        | cons h1 h2 => exact ⟨_, _, rfl, h1⟩
      cases tw0.str_of
      refine ⟨sta, _, 0, _, rfl, rfl, ssq, atI_nat (j := 0) rfl, ?_⟩
      -- late
      refine ⟨_, rfl, _, rfl, _, rfl, _, rfl, _, rfl, _, _, rfl, rfl, nb, pl, ns, bt - ea, rfl, hN13.s, hN13.ne, hN13.at_, by omega, fun la la0 la1 => ⟨_, _, rfl, rfl, ?_⟩⟩
      -- term
      have ega13 := g13 _ _ ega12
      have hg : i % 3 < gs.length := by rw [lgs3]; exact Nat.mod_lt _ (by decide)
      refine ⟨_, rfl, _, rfl, _, _, rfl, rfl, by show (0 : Int) < 3; decide, ga, _, _, _, rfl, rfl, .of ega13, at_of (j := i % 3) (by omega) (map_at V.str (List.getElem?_eq_getElem hg)), ?_⟩
      generalize gs[i % 3] = gn
      refine ⟨_, rfl, _, rfl, _, rfl, _, rfl, _, rfl, _, rfl, _, rfl, _, rfl, nb, pl, ns, 100, rfl, hN13.s, hN13.ne, hN13.at_, by decide, fun up up0 up1 => ⟨_, _, rfl, rfl, _, _, rfl, by show 7 ≤ sizeLine; decide, fun t nt' => ?_⟩⟩
      have et : (upd H13 t (.tup [.str gn, .str sst.1, .str kind, .int ea, .int (ea + la), .int (1 + lo), .int (if 1 + lo + up < 100 then 1 + lo + up else 100)])) t = some (.tup [.str gn, .str sst.1, .str kind, .int ea, .int (ea + la), .int (1 + lo), .int (if 1 + lo + up < 100 then 1 + lo + up else 100)]) := upd_same
      have g14 : Same H13 (upd H13 t (.tup [.str gn, .str sst.1, .str kind, .int ea, .int (ea + la), .int (1 + lo), .int (if 1 + lo + up < 100 then 1 + lo + up else 100)])) := same_new nt'
      generalize upd H13 t (.tup [.str gn, .str sst.1, .str kind, .int ea, .int (ea + la), .int (1 + lo), .int (if 1 + lo + up < 100 then 1 + lo + up else 100)]) = H14 at g14 et
      generalize (if 1 + lo + up < 100 then 1 + lo + up else 100) = hi' at et
      have g34 := g13.trans g14
      have s14 := s12.trans g34
      have ete14 := g34 _ _ ete12
      have htt14 := htt.up (Gr.same g34)
      have tt : Tp K H14 (.ref t) (tmD ⟨gn, sst.1, kind, ea, ea + la, 1 + lo, hi'⟩) := .tup (.of et) (.cons (.str _) (.cons (.str _) (.cons (.str _) (.cons (.int _) (.cons (.int _) (.cons (.int _) (.cons (.int _) .nil)))))))
      refine ⟨_, rfl, _, rfl, tmD ⟨gn, sst.1, kind, ea, ea + la, 1 + lo, hi'⟩, ts.map tmD, tt.dp, .lst (.of ete14) htt14.dp, Tp.plain' _ _ tt, TpAll.plain' _ _ htt14, by simp [PyData.depth, PyData.depthAll], ?_⟩
      refine ⟨_, rfl, ite2 (fun _ => ?_) (fun _ => ?_)⟩
      · refine ⟨_, rfl, .inl ⟨rfl, _, .of ete14⟩, _, rfl, te, _, _, rfl, rfl, ete14, by rw [htt14.len, List.length_map]; exact small100k (by omega), ?_⟩
        refine ⟨_, _, _, _, _, _, _, xt ++ [.ref t], ts ++ [⟨gn, sst.1, kind, ea, ea + la, 1 + lo, hi'⟩], rfl, smut s14 nteH, (Gr.lst ete14).t ((Gr.same g34).t sq12), by rw [upd_ne nlt]; exact g34 _ _ el12, (ht12.up (Gr.same g34)).up (Gr.lst ete14), by rw [upd_ne nl2t]; exact g34 _ _ el212, by rw [upd_ne ngt]; exact g34 _ _ ega12, upd_same, ?_, by rw [List.length_append]; simp only [List.length_singleton]; omega⟩
        rw [List.map_append]
        exact (htt14.app (.one tt)).up (Gr.lst ete14)
      · exact ⟨_, _, _, _, _, _, _, xt, ts, rfl, s14, (Gr.same g34).t sq12, g34 _ _ el12, ht12.up (Gr.same g34), g34 _ _ el212, g34 _ _ ega12, ete14, htt14, by omega⟩
    · obtain ⟨y14, y18, y19, y20, y21, y22, y23, xt, ts, rfl, s12, sq12, el12, ht12, el212, ega12, ete12, htt, hlen⟩ := h3
      refine ⟨_, rfl, _, rfl, _, rfl, l, xs, rfl, .inl ⟨.of el12, fun r3 nr3 => ?_⟩⟩
      have k1 := same_new (o := .tup xs) nr3
      have er3 : Tp K (upd H3 r3 (.tup xs)) (.ref r3) (.tuple (st.map stD)) := .tup (.of upd_same) (ht12.up (Gr.same k1))
      generalize upd H3 r3 (.tup xs) = H15 at k1 er3
      refine ⟨_, rfl, ?_⟩
      dsimp -proj only [tNil]
      refine sort_ints (K := K) (.of (k1 _ _ el212)) fun ys2 so2 hp2 nso2 => ?_
      have k2 := same_new (o := .lst (ys2.map V.int)) nso2
      refine ⟨so2, _, rfl, .inl ⟨.of upd_same, fun r4 nr4 => ?_⟩⟩
      have k3 := k2.trans (same_new (o := .tup (ys2.map V.int)) nr4)
      have er4 : Tp K (upd (upd H15 so2 (.lst (ys2.map V.int))) r4 (.tup (ys2.map V.int))) (.ref r4) (.tuple (ys2.map PyData.int)) := .tup (.of upd_same) (.ints _)
      generalize upd (upd H15 so2 (.lst (ys2.map V.int))) r4 (.tup (ys2.map V.int)) = H16 at k3 er4
      refine ⟨_, rfl, ?_⟩
      dsimp -proj only [tNil]
      have k13 := k1.trans k3
      refine sort_data (K := K) (enc := tmD) (.of (k13 _ _ ete12)) (htt.up (Gr.same k13)) (fun b _ b' _ => rfl) (fun b _ => ⟨_, _, rfl⟩) (fun b _ => by simp [PyData.depth, PyData.depthAll]) fun yt so3 hyt nso3 => ?_
      have k4 := same_new (o := .lst yt) nso3
      have hpt := (List.mergeSort_perm ts (PySem.W.dataLe false tmD)).length_eq
      generalize ts.mergeSort (PySem.W.dataLe false tmD) = ts2 at hyt hpt
      refine ⟨so3, yt, rfl, .inl ⟨.of upd_same, fun r5 nr5 => ?_⟩⟩
      have k5 := k4.trans (same_new (o := .tup yt) nr5)
      have er5 : Tp K (upd (upd H16 so3 (.lst yt)) r5 (.tup yt)) (.ref r5) (.tuple (ts2.map tmD)) := .tup (.of upd_same) (hyt.up (Gr.same k5))
      generalize upd (upd H16 so3 (.lst yt)) r5 (.tup yt) = H17 at k5 er5
      refine ⟨by show 5 ≤ sizeLine; decide, fun r6 nr6 => ?_⟩
      have k6 := same_new (o := .tup [.ref dp, .int fo, .ref r3, .ref r4, .ref r5]) nr6
      have e3 := (er3.up (Gr.same k3)).up (Gr.same (k5.trans k6))
      have e4 := er4.up (Gr.same (k5.trans k6))
      have e5 := er5.up (Gr.same k6)
      have k16 := k13.trans (k5.trans k6)
      refine q _ dd fo st ys2 ts2 _ ⟨dd0, st4, by have := hp2.length_eq; omega, by omega⟩ (s12.trans k16) (.tup (.of upd_same) ?_)
      exact .cons (.tup ((Gr.same k16).t sq12) (.cons (.int _) (.cons (.int _) .nil))) (.cons (.int _) (.cons e3 (.cons e4 (.cons e5 .nil))))
end
end K78
set_option Elab.async false
set_option linter.all false
set_option maxRecDepth 100000
set_option maxHeartbeats 4000000
namespace K78
open PySem PySem.Spec PyProof.Rows L2 KB
/-- an unknown: a patch's sky, a gain -/
inductive Un where
  | sky (p : Str) (a b : Int)
  | gain (g : Str)
abbrev unD : Un → PyData
  | .sky p a b => .tuple [.str "sky", .str p, .tuple [.int a, .int b]]
  | .gain g => .tuple [.str "gain", .str g]
abbrev puD (q : Un × Int) : PyData := .tuple [unD q.1, .int q.2]
abbrev fcD (f : List (Un × Int) × Int) : PyData := .tuple [.str "told", .tuple (f.1.map puD), .int f.2]
theorem unD_depth (u : Un) : (unD u).depth ≤ 20 := by
  cases u <;> simp [unD, PyData.depth, PyData.depthAll]
theorem unD_alike (u v : Un) : PySem.W.alike (unD u) (unD v) = true := by
  cases u <;> cases v <;> rfl
structure Ca4 (P : Program) (w : World) (K : PySem.W.Frag) (mg : Str → Option Value) (base : Heap) : Prop extends Ca3 P w K mg base where
  l_lead : Cal P w K mg base 1 "_law_lead" (spLead K)
section
variable {P : Program} {w : World} {K : PySem.W.Frag} {mg : Str → Option Value} {base : Heap}
def spFacts (K : PySem.W.Frag) : Sp := fun vs H Q _ => ∃ (nb pl pa : Addr) (ns : List Int) (ps : List Str) (plv : V) (d : Int × Int) (fo : Int) (st : List (Str × Int × Int)) (ch : List Int) (te : List Tm), vs = [.ref nb, .ref pl, plv, .ref pa] ∧ Nb K H nb pl ns ∧ H pa = some (.lst (ps.map V.str)) ∧ 1 ≤ ps.length ∧ ps.length ≤ 200 ∧ Tp K H plv (planD d fo st ch te) ∧ PlanOk d fo st ch te ∧
  ∀ (r : V) (fs : List (List (Un × Int) × Int)) (H' : Hp), fs.length ≤ 3 → (∀ f ∈ fs, f.1.length ≤ 2) → Same H H' → Tp K H' r (.tuple (fs.map fcD)) → Q r H'
theorem c_l_facts (D : Dn K mg "_law_facts" s_l_facts) (B : Bl mg) (C : Ca4 P w K mg base) : Cal P w K mg base 2 "_law_facts" (spFacts K) := by
  refine cal_of D sc_l_facts (fun vs H Q E h => ?_) (fun _ _ _ _ _ _ us hl => match us, hl with | [_, _, _, _], _ => rfl) (fun f cdv A outer s H vs Q E hr h => ?_)
  · obtain ⟨nb, pl, pa, ns, ps, plv, d, fo, st, ch, te, rfl, _⟩ := h
    rfl
  · obtain ⟨nb, pl, pa, ns, ps, plv, d, fo, st, ch, te, rfl, hN, hpa, hp1, hp2, hpl, hok, q⟩ := h
    refine ⟨_, (pss_cons (ps_set (i := 4) sc_l_facts.nd rfl (.inl rfl) (pe_lst pa_nil))
      (pss_cons (ps_set (i := 5) sc_l_facts.nd rfl (.inl rfl) (pe_ix ix_tup (pe_ix ix_tup (pv 2) pe_int (fun _ _ => rfl)) pe_int (fun _ _ => rfl)))
      (pss_cons (ps_for PassesOwn.never rfl (pi_range1 (by rfl) B.range (pa_cons (pe_c C.l_pick hr (by decide) rfl (pa_cons (pv 0) (pa_cons (pv 1) (pa_cons pe_int pa_nil)))) pa_nil)) (pg_name (i := 6) sc_l_facts.nd rfl (.inl rfl)) 
        (pss_cons (ps_set (i := 7) sc_l_facts.nd rfl (.inl rfl) (pe_lst pa_nil))
        (pss_cons (ps_for PassesOwn.never rfl (pi_range1 (by rfl) B.range (pa_cons (pe_op op_add pe_int (pe_c C.l_pick hr (by decide) rfl (pa_cons (pv 0) (pa_cons (pv 1) (pa_cons pe_int pa_nil))))) pa_nil)) (pg_name (i := 8) sc_l_facts.nd rfl (.inl rfl)) 
          (pss_cons (ps_set (i := 9) sc_l_facts.nd rfl (.inl rfl) (pe_op op_sub (pe_c C.l_pick hr (by decide) rfl (pa_cons (pv 0) (pa_cons (pv 1) (pa_cons pe_int pa_nil)))) pe_int))
          (pss_cons (ps_set (i := 10) sc_l_facts.nd rfl (.inl rfl) (pe_c C.l_lead hr (by decide) rfl (pa_cons (pe_ix ix_tup (pv 2) pe_int (fun _ _ => rfl)) (pa_cons (pv 9) (pa_cons (pe_op op_sub (pe_c C.l_pick hr (by decide) rfl (pa_cons (pv 0) (pa_cons (pv 1) (pa_cons pe_int pa_nil)))) pe_int) pa_nil)))))
          (pss_cons (ps_set (i := 11) sc_l_facts.nd rfl (.inr rfl) (pe_tup (pa_cons pe_str (pa_cons (pe_ix ix_list (pv 3) (pe_op op_mod (pe_c C.l_pick hr (by decide) rfl (pa_cons (pv 0) (pa_cons (pv 1) (pa_cons pe_int pa_nil)))) (pe_callB call_len_seq (by rfl) B.len bt_len (pa_cons (pv 3) pa_nil))) (fun _ _ => rfl)) (pa_cons (pv 10) pa_nil)))))
          (Evl.pss_cut (ps_if (PW.pt (pw_and (pt_cmpR op_gt (pe_callB call_len_seq (by rfl) B.len bt_len (pa_cons (pe_ix ix_tup (pv 2) pe_int (fun _ _ => rfl)) pa_nil)) pe_int (nomark _)) (pw_and1 (pt_cmpR op_eq (pe_c C.l_pick hr (by decide) rfl (pa_cons (pv 0) (pa_cons (pv 1) (pa_cons pe_int pa_nil)))) pe_int (nomark _))))) 
            (pss_one (ps_set (i := 11) sc_l_facts.nd rfl (.inr rfl) (pe_tup (pa_cons pe_str (pa_cons (pe_ix ix_tup (pe_ix ix_tup (pe_ix ix_tup (pv 2) pe_int (fun _ _ => rfl)) (pe_c C.l_pick hr (by decide) rfl (pa_cons (pv 0) (pa_cons (pv 1) (pa_cons (pe_callB call_len_seq (by rfl) B.len bt_len (pa_cons (pe_ix ix_tup (pv 2) pe_int (fun _ _ => rfl)) pa_nil)) pa_nil)))) (fun _ _ => rfl)) pe_int (fun _ _ => rfl)) pa_nil))))) pss_nil)
          (pss_cons (ps_set (i := 12) sc_l_facts.nd rfl (.inl rfl) (pe_op op_add pe_int (pe_c C.l_pick hr (by decide) rfl (pa_cons (pv 0) (pa_cons (pv 1) (pa_cons (pe_ifExp (pt_cmpR op_eq (pv 5) pe_int (nomark _)) pe_int pe_int) pa_nil))))))
          (Evl.pss_cut (ps_if (pt_cmpR op_eq (pe_c C.l_pick hr (by decide) rfl (pa_cons (pv 0) (pa_cons (pv 1) (pa_cons pe_int pa_nil)))) pe_int (nomark _)) 
            (pss_one (ps_set (i := 12) sc_l_facts.nd rfl (.inl rfl) (pe_un un_neg (pv 12)))) pss_nil)
          (pss_one (ps_if (pt_cmpR op_eq (pe_callB call_len_seq (by rfl) B.len bt_len (pa_cons (pe_lc (own := [("pair", 14)]) (by rfl) sc_l_facts.nd (pi_list (pv 7)) (blkOk_by (N := n_l_facts) (sc := defScope s_l_facts) (by decide +kernel)) (fun _ _ _ _ _ => (pg_name (i := 14) sc_l_facts.nd rfl (.inl rfl))) (fun _ _ _ _ _ => (pts_one (pt_cmpR (eqPK K rfl hr.units) (pe_ix (ix_tupK K rfl) (pv 14) pe_int (fun _ _ => rfl)) (pv 11) (nomark _)))) (fun _ _ _ _ _ => (pv 14))) pa_nil)) pe_int (nomark _)) 
            (pss_one (ps_expr (pe_bm PySem.F.plainAttrs_list PySem.F.slot_list_append PySem.F.type_list_append mt_append (pv 7) (pa_cons (pe_tup (pa_cons (pv 11) (pa_cons (pv 12) pa_nil))) pa_nil)))) pss_nil)))))))))
        (pss_cons (ps_set (i := 13) sc_l_facts.nd rfl (.inl rfl) (pe_op op_sub (pe_c C.l_pick hr (by decide) rfl (pa_cons (pv 0) (pa_cons (pv 1) (pa_cons pe_int pa_nil)))) pe_int))
        (Evl.pss_cut (ps_if (pt_cmpR op_gt (pv 5) pe_int (nomark _)) 
          (pss_one (ps_set (i := 13) sc_l_facts.nd rfl (.inl rfl) (pe_op op_mod (pe_callTy call_int1 (by rfl) B.int bt_int (pa_cons (pv 13) pa_nil)) (pv 5)))) pss_nil)
        (pss_one (ps_expr (pe_bm PySem.F.plainAttrs_list PySem.F.slot_list_append PySem.F.type_list_append mt_append (pv 4) (pa_cons (pe_tup (pa_cons pe_str (pa_cons (pe_callTy call_tuple_of (by rfl) B.tuple bt_tuple (pa_cons (pe_callB (cr_sortD hr.units) (by rfl) B.sorted bt_sorted (pa_cons (pv 7) pa_nil)) pa_nil)) (pa_cons (pv 13) pa_nil)))) pa_nil)))))))))
      (pss_one (ps_ret (pe_callTy call_tuple_of (by rfl) B.tuple bt_tuple (pa_cons (pv 4) pa_nil))))))), ?_⟩
    obtain ⟨pla, pxs, rfl, psq, ptp⟩ := hpl.tup_of
    obtain ⟨v0, v2, v3, v4, rfl, tv0, tv4⟩ : ∃ v0 v2 v3 v4, pxs = [v0, .int fo, v2, v3, v4] ∧ Tp K H v0 (dlD d) ∧ Tp K H v4 (.tuple (te.map tmD)) := by
      cases ptp with
      | cons h1 h2 => cases h2 with
        | cons h3 h4 => cases h4 with
          | cons h5 h6 => cases h6 with
            | cons h7 h8 => cases h8 with
              | cons h9 h10 =>
                cases h10
                cases h3.int_of
                exact ⟨_, _, _, _, rfl, h1, h9⟩
    obtain ⟨da, dxs, rfl, dsq, dtp⟩ := tv0.tup_of
    have hdx : dxs = [.int d.1, .int d.2] := TpAll.ints_of (zs := [d.1, d.2]) dtp
    subst hdx
    obtain ⟨ta, txs, rfl, tsq, ttp⟩ := tv4.tup_of
    have ltx : txs.length = te.length := by rw [ttp.len, List.length_map]
    refine ⟨by show 0 ≤ sizeLine; decide, fun l nl => ?_⟩
    have s0 := same_new (o := .lst []) nl
    have el0 : (upd H l (.lst [])) l = some (.lst []) := upd_same
    generalize upd H l (.lst []) = H0 at s0 el0
    have hN0 := hN.up s0
    have d0 := hok.n0
    refine ⟨_, rfl, pla, _, 0, _, rfl, rfl, (Gr.same s0).t psq, atI_nat (j := 0) rfl, da, _, 0, _, rfl, rfl, (Gr.same s0).t dsq, atI_nat (j := 0) rfl, ?_⟩
    refine ⟨_, rfl, _, rfl, nb, pl, ns, 4, rfl, hN0.s, hN0.ne, hN0.at_, by decide, fun n n0 n1 => ⟨_, rfl, by omega, by omega, ?_⟩⟩
    refine for_range (n := n.toNat) (fun i σ H3 => ∃ y6 y7 y8 y9 y10 y11 y12 y13 y14 fx, ∃ fs : List (List (Un × Int) × Int), σ = [some (.ref nb), some (.ref pl), some (.ref pla), some (.ref pa), some (.ref l), some (.int d.1), y6, y7, y8, y9, y10, y11, y12, y13, y14] ∧ Same H H3 ∧ H3 l = some (.lst fx) ∧ TpAll K H3 fx (fs.map fcD) ∧ fs.length ≤ i ∧ ∀ f ∈ fs, f.1.length ≤ 2)
      ⟨_, _, _, _, _, _, _, _, _, [], [], rfl, s0, el0, .nil, by simp, fun f hf => by cases hf⟩ (fun i σ H3 hi h3 => ?_) (fun σ H3 h3 => ?_)
    · obtain ⟨y6, y7, y8, y9, y10, y11, y12, y13, y14, fx, fs, rfl, s3, el3, tf3, hlen, hf2⟩ := h3
      refine ⟨by show 0 ≤ sizeLine; decide, fun p2 np2 => ?_⟩
      have np2H : H p2 = none := s3.free np2
      have nlp : l ≠ p2 := ne_of_none el3 np2
      have s4 := s3.trans (same_new (o := .lst []) np2)
      have el4 : (upd H3 p2 (.lst [])) l = some (.lst fx) := same_new np2 _ _ el3
      have ep4 : (upd H3 p2 (.lst [])) p2 = some (.lst []) := upd_same
      have tf4 := tf3.up (Gr.new (o := .lst []) np2)
      generalize upd H3 p2 (.lst []) = H4 at s4 el4 ep4 tf4
      have hN4 := hN.up s4
      refine ⟨_, rfl, _, rfl, nb, pl, ns, 2, rfl, hN4.s, hN4.ne, hN4.at_, by decide, fun a a0 a1 => ⟨_, _, rfl, rfl, ?_⟩⟩
      refine ⟨_, rfl, by omega, by omega, ?_⟩
      refine for_range (n := (1 + a).toNat) (fun j σ H5 => ∃ y8 y9 y10 y11 y12 y14 px, ∃ prs : List (Un × Int), σ = [some (.ref nb), some (.ref pl), some (.ref pla), some (.ref pa), some (.ref l), some (.int d.1), some (.int (0 + (i : Int))), some (.ref p2), y8, y9, y10, y11, y12, y13, y14] ∧ Same H H5 ∧ H5 l = some (.lst fx) ∧ TpAll K H5 fx (fs.map fcD) ∧ H5 p2 = some (.lst px) ∧ TpAll K H5 px (prs.map puD) ∧ prs.length ≤ j)
        ⟨_, _, _, _, _, _, [], [], rfl, s4, el4, tf4, ep4, .nil, by simp⟩ (fun j σ H5 hj h5 => ?_) (fun σ H5 h5 => ?_)
      · obtain ⟨y8, y9, y10, y11, y12, y14, px, prs, rfl, s5, el5, tf5, ep5, tp5, hprs⟩ := h5
        have hN5 := hN.up s5
        have hpa5 := s5 _ _ hpa
        have psq5 := (Gr.same s5).t psq
        refine ⟨_, rfl, _, rfl, nb, pl, ns, 11, rfl, hN5.s, hN5.ne, hN5.at_, by decide, fun b b0 b1 => ⟨_, _, rfl, rfl, ?_⟩⟩
        refine ⟨_, rfl, pla, _, 1, _, rfl, rfl, psq5, atI_nat (j := 1) rfl, ?_⟩
        refine ⟨_, rfl, _, rfl, _, rfl, nb, pl, ns, 11, rfl, hN5.s, hN5.ne, hN5.at_, by decide, fun c c0 c1 => ⟨_, _, rfl, rfl, ?_⟩⟩
        refine ⟨_, _, _, rfl, fun lv la lb H6 s56 tl6 => ?_⟩
        have s6 := s5.trans s56
        have g6 := Gr.same s56
        have hpa6 := s6 _ _ hpa
        have hN6 := hN.up s6
        refine ⟨_, rfl, _, rfl, _, rfl, nb, pl, ns, 3, rfl, hN6.s, hN6.ne, hN6.at_, by decide, fun e e0 e1 => ?_⟩
        have lps : (0 : Int) < (((ps.map V.str).length : Nat) : Int) := by rw [List.length_map]; omega
        have he : (e % (((ps.map V.str).length : Nat) : Int)).toNat < ps.length := by
          have h1 := Int.emod_nonneg e (Int.ne_of_gt lps)
          have h2 := Int.emod_lt_of_pos e lps
          rw [List.length_map] at h1 h2 ⊢
          omega
        refine ⟨_, rfl, pa, _, rfl, .inl (.of hpa6), _, _, rfl, rfl, lps, pa, _, _, _, rfl, rfl, .of hpa6, at_of (toNat_eq (Int.emod_nonneg e (Int.ne_of_gt lps))) (map_at V.str (List.getElem?_eq_getElem he)), ?_⟩
        generalize ps[(e % (((ps.map V.str).length : Nat) : Int)).toNat] = pn
        refine ⟨_, rfl, by show 3 ≤ sizeLine; decide, fun au nau => ?_⟩
        have g7 := same_new (o := .tup [.str "sky", .str pn, lv]) nau
        have tu7 : Tp K (upd H6 au (.tup [.str "sky", .str pn, lv])) (.ref au) (unD (.sky pn la lb)) := .tup (.of upd_same) (.cons (.str _) (.cons (.str _) (.cons (tl6.up (Gr.same g7)) .nil)))
        generalize upd H6 au (.tup [.str "sky", .str pn, lv]) = H7 at g7 tu7
        have s57 := s56.trans g7
        have s7 := s6.trans g7
        have hN7 := hN.up s7
        have psq7 := (Gr.same s7).t psq
        have tsq7 := (Gr.same s7).t tsq
        have ttp7 := ttp.up (Gr.same s7)
        refine ⟨fun σ' H' => ∃ (au : Addr) (u : Un), σ' = [some (.ref nb), some (.ref pl), some (.ref pla), some (.ref pa), some (.ref l), some (.int d.1), some (.int (0 + (i : Int))), some (.ref p2), some (.int (0 + (j : Int))), some (.int (b - 5)), some lv, some (.ref au), y12, y13, y14] ∧ Same H5 H' ∧ Tp K H' (.ref au) (unD u), ?_, ?_⟩
        · refine ⟨_, rfl, pla, _, 4, _, rfl, rfl, psq7, atI_nat (j := 4) rfl, ta, _, rfl, .inr tsq7, _, _, rfl, rfl, _, rfl, ite2 (fun h => ?_) (fun _ => iteF ⟨au, .sky pn la lb, rfl, s57, tu7⟩)⟩
          have htx : 0 < ((txs.length : Nat) : Int) := of_decide_eq_true h
          refine ⟨_, rfl, _, rfl, nb, pl, ns, 3, rfl, hN7.s, hN7.ne, hN7.at_, by decide, fun _ _ _ => ⟨rfl, _, rfl, ite2 (fun _ => ?_) (fun _ => ⟨au, .sky pn la lb, rfl, s57, tu7⟩)⟩⟩
          refine ⟨_, rfl, pla, _, 4, _, rfl, rfl, psq7, atI_nat (j := 4) rfl, _, rfl, _, rfl, _, rfl, pla, _, 4, _, rfl, rfl, psq7, atI_nat (j := 4) rfl, ta, _, rfl, .inr tsq7, nb, pl, ns, _, rfl, hN7.s, hN7.ne, hN7.at_, htx, fun g g0 g1 => ?_⟩
          have hg : g.toNat < txs.length := by omega
          obtain ⟨tm, _, ttm⟩ := ttp7.atF (List.getElem?_eq_getElem hg)
          refine ⟨ta, txs, _, _, rfl, rfl, tsq7, at_of (toNat_eq g0) (List.getElem?_eq_getElem hg), ?_⟩
          obtain ⟨tad, tys, eta, etsq, ettp⟩ := ttm.tup_of
          rw [eta]
          obtain ⟨w0, ws, rfl, tw0⟩ : ∃ w0 ws, tys = w0 :: ws ∧ Tp K H7 w0 (.str tm.a) := by
            cases ettp with
            | cons h1 h2 => exact ⟨_, _, rfl, h1⟩
          cases tw0.str_of
          refine ⟨tad, _, 0, _, rfl, rfl, etsq, atI_nat (j := 0) rfl, by show 2 ≤ sizeLine; decide, fun a2 na2 => ?_⟩
          have g8 := same_new (o := .tup [.str "gain", .str tm.a]) na2
          exact ⟨a2, .gain tm.a, rfl, s57.trans g8, .tup (.of upd_same) (.cons (.str _) (.cons (.str _) .nil))⟩
        rintro σ' H8 ⟨au, u, rfl, s58, tu8⟩
        have s8 := s5.trans s58
        have hN8 := hN.up s8
        have el8 := s58 _ _ el5
        have ep8 := s58 _ _ ep5
        have tf8 := tf5.up (Gr.same s58)
        have tp8 := tp5.up (Gr.same s58)
        -- factor
        refine ⟨_, rfl, _, rfl, ?_⟩
        refine ex_ifP (P := fun v => ∃ n : Int, v = .int n ∧ 0 < n) (b := decide (V.int d.1 = V.int 0)) (fun Q q => ?_) (fun _ Q q => ?_) (fun _ Q q => ?_) (fun v hv => ?_)
        · exact ⟨_, rfl, rfl, _, rfl, q⟩
        · exact q _ ⟨40, rfl, by decide⟩
        · exact q _ ⟨10000, rfl, by decide⟩
        obtain ⟨cn, rfl, cn0⟩ := hv
        refine ⟨nb, pl, ns, cn, rfl, hN8.s, hN8.ne, hN8.at_, cn0, fun k k0 k1 => ⟨_, _, rfl, rfl, ?_⟩⟩
        refine ⟨fun σ' H' => ∃ fa : Int, σ' = [some (.ref nb), some (.ref pl), some (.ref pla), some (.ref pa), some (.ref l), some (.int d.1), some (.int (0 + (i : Int))), some (.ref p2), some (.int (0 + (j : Int))), some (.int (b - 5)), some lv, some (.ref au), some (.int fa), y13, y14] ∧ H' = H8, ?_, ?_⟩
        · refine ⟨_, rfl, _, rfl, nb, pl, ns, 2, rfl, hN8.s, hN8.ne, hN8.at_, by decide, fun _ _ _ => ⟨rfl, _, rfl, ite2 (fun _ => ?_) (fun _ => ⟨_, rfl, rfl⟩)⟩⟩
          exact ⟨_, rfl, _, rfl, _, rfl, rfl⟩
        rintro σ' H' ⟨fa, rfl, rfl⟩
        -- once only
        refine ⟨_, rfl, p2, rfl, ⟨_, .of ep8⟩, fun d' nd => ?_⟩
        refine lc_list (K := K) (a := p2) (xs := px) (fun k H9 => ∃ acc, Same H' H9 ∧ H9 d' = some (.lst acc) ∧ acc.length ≤ k) ⟨[], same_new nd, upd_same, by simp⟩ (fun k H9 _ p => let ⟨_, p1, _⟩ := p; .of (p1 _ _ ep8)) (fun k x H9 hx p => ?_) (fun H9 p => ?_)
        · obtain ⟨acc, p1, p2', p3⟩ := p
          obtain ⟨pr, hpr, htp⟩ := (tp8.up (Gr.same p1)).atF hx
          obtain ⟨ad, ys, rfl, hsq, hys⟩ := htp.tup_of
          obtain ⟨w0, ws, rfl, tw0⟩ : ∃ w0 ws, ys = w0 :: ws ∧ Tp K H9 w0 (unD pr.1) := by
            cases hys with
            | cons h1 h2 => exact ⟨_, _, rfl, h1⟩
          have tu9 := tu8.up (Gr.same p1)
          have hk := (List.getElem?_eq_some_iff.mp hpr).1
          refine ⟨rfl, _, rfl, ad, _, 0, _, rfl, rfl, hsq, atI_nat (j := 0) rfl, _, rfl, unD pr.1, unD u, tw0.dp, tu9.dp, Tp.plain' _ _ tw0, Tp.plain' _ _ tu9, Nat.le_trans (unD_depth _) (by decide), ?_⟩
          refine ⟨_, rfl, ite2 (fun e => ?_) (fun e => ?_)⟩
          · exact ⟨_, rfl, acc, p2', small1000 (by omega), acc ++ [_], smut p1 nd, upd_same, by rw [List.length_append]; simpa using p3⟩
          · exact ⟨acc, p1, p2', by omega⟩
        · obtain ⟨acc, p1, p2', p3⟩ := p
          have lpx : px.length = prs.length := by rw [tp8.len, List.length_map]
          refine ⟨d', _, rfl, .inl (.of p2'), rfl, _, rfl, ite2 (fun e => ?_) (fun e => ?_)⟩
          · refine ⟨.ref p2, rfl, .inl ⟨rfl, _, .of (p1 _ _ ep8)⟩, _, rfl, _, rfl, by show 2 ≤ sizeLine; decide, fun t nt => ?_⟩
            have g10 := p1.trans (same_new (o := .tup [.ref au, .int fa]) nt)
            have et : (upd H9 t (.tup [.ref au, .int fa])) t = some (.tup [.ref au, .int fa]) := upd_same
            generalize upd H9 t (.tup [.ref au, .int fa]) = H10 at g10 et
            have ep10 := g10 _ _ ep8
            refine ⟨p2, _, _, rfl, rfl, ep10, small1000 (by omega), ?_⟩
            refine ⟨_, _, _, _, _, _, px ++ [.ref t], prs ++ [(u, fa)], rfl, smut (s8.trans g10) np2H, by rw [upd_ne nlp]; exact g10 _ _ el8, (tf8.up (Gr.same g10)).up (Gr.lst ep10), upd_same, ?_, by rw [List.length_append]; simpa using hprs⟩
            rw [List.map_append]
            exact ((tp8.up (Gr.same g10)).app (.one (.tup (.of et) (.cons (tu8.up (Gr.same g10)) (.cons (.int _) .nil))))).up (Gr.lst ep10)
          · exact ⟨_, _, _, _, _, _, px, prs, rfl, s8.trans p1, p1 _ _ el8, tf8.up (Gr.same p1), p1 _ _ ep8, tp8.up (Gr.same p1), by omega⟩
      · obtain ⟨y8, y9, y10, y11, y12, y14, px, prs, rfl, s5, el5, tf5, ep5, tp5, hprs⟩ := h5
        have hN5 := hN.up s5
        refine ⟨_, rfl, _, rfl, nb, pl, ns, 1000, rfl, hN5.s, hN5.ne, hN5.at_, by decide, fun b b0 b1 => ⟨_, _, rfl, rfl, ?_⟩⟩
        refine ⟨fun σ' H' => ∃ mk : Int, σ' = [some (.ref nb), some (.ref pl), some (.ref pla), some (.ref pa), some (.ref l), some (.int d.1), some (.int (0 + (i : Int))), some (.ref p2), y8, y9, y10, y11, y12, some (.int mk), y14] ∧ H' = H5, ?_, ?_⟩
        · refine ⟨_, rfl, _, _, rfl, rfl, _, rfl, ite2 (fun e => ?_) (fun _ => ⟨_, rfl, rfl⟩)⟩
          have e' : 0 < d.1 := of_decide_eq_true e
          exact ⟨_, rfl, .inl ⟨_, rfl, _, rfl, _, _, rfl, rfl, e', _, rfl, rfl⟩⟩
        rintro σ' H' ⟨mk, rfl, rfl⟩
        refine ⟨_, rfl, .inl ⟨rfl, _, .of el5⟩, _, rfl, ?_⟩
        dsimp -proj only [tNil]
        refine sort_data (K := K) (enc := puD) (.of ep5) tp5 (fun x _ y _ => ?_) (fun x _ => ⟨_, _, rfl⟩) (fun x _ => ?_) fun ys so hys nso => ?_
        · show (PySem.W.alike (unD x.1) (unD y.1) && (true && true)) = true
          rw [unD_alike]
          rfl
        · have := unD_depth x.1
          simp only [puD, PyData.depth, PyData.depthAll]
          omega
        have g6 := same_new (o := .lst ys) nso
        have hpt := (List.mergeSort_perm prs (PySem.W.dataLe false puD)).length_eq
        generalize prs.mergeSort (PySem.W.dataLe false puD) = prs2 at hys hpt
        refine ⟨so, ys, rfl, .inl ⟨.of upd_same, fun t nt => ?_⟩⟩
        have g7 := g6.trans (same_new (o := .tup ys) nt)
        have tt : Tp K (upd (upd H' so (.lst ys)) t (.tup ys)) (.ref t) (.tuple (prs2.map puD)) := .tup (.of upd_same) (hys.up (Gr.same g7))
        generalize upd (upd H' so (.lst ys)) t (.tup ys) = H8 at g7 tt
        refine ⟨_, rfl, by show 3 ≤ sizeLine; decide, fun r nr => ?_⟩
        have g8 := same_new (o := .tup [.str "told", .ref t, .int mk]) nr
        have tr : Tp K (upd H8 r (.tup [.str "told", .ref t, .int mk])) (.ref r) (fcD (prs2, mk)) := .tup (.of upd_same) (.cons (.str _) (.cons (tt.up (Gr.same g8)) (.cons (.int _) .nil)))
        generalize upd H8 r (.tup [.str "told", .ref t, .int mk]) = H9 at g8 tr
        have g9 := g7.trans g8
        have el9 := g9 _ _ el5
        have lfx : fx.length = fs.length := by rw [tf5.len, List.length_map]
        refine ⟨l, _, _, rfl, rfl, el9, small1000 (by omega), ?_⟩
        refine ⟨_, _, _, _, _, _, _, _, _, fx ++ [.ref r], fs ++ [(prs2, mk)], rfl, smut (s5.trans g9) nl, upd_same, ?_, by rw [List.length_append]; simpa using hlen, fun f hf => ?_⟩
        · rw [List.map_append]
          exact ((tf5.up (Gr.same g9)).app (.one tr)).up (Gr.lst el9)
        · rcases List.mem_append.mp hf with h | h
          · exact hf2 f h
          · rw [List.mem_singleton.mp h]
            show prs2.length ≤ 2
            omega
    · obtain ⟨y6, y7, y8, y9, y10, y11, y12, y13, y14, fx, fs, rfl, s3, el3, tf3, hlen, hf2⟩ := h3
      refine ⟨_, rfl, l, fx, rfl, .inl ⟨.of el3, fun t nt => ?_⟩⟩
      have g := same_new (o := .tup fx) nt
      exact q _ fs _ (by omega) hf2 (s3.trans g) (.tup (.of upd_same) (tf3.up (Gr.same g)))
end
end K78
set_option Elab.async false
set_option linter.all false
set_option maxRecDepth 100000
set_option maxHeartbeats 4000000
namespace K78
open PySem PySem.Spec PyProof.Rows L2 KB
abbrev Mx := Int × Int × Int × Int
abbrev mxD (m : Mx) : PyData := .tuple [.int m.1, .int m.2.1, .int m.2.2.1, .int m.2.2.2]
/-- a night -/
structure Nt where
  d : Int × Int
  fo : Int
  st : List (Str × Int × Int)
  ms : List Mx
  ch : List Int
  te : List Tm
  ups : List (List Str)
  sl : List (Str × Str × Int)
  pr : List (Str × Int)
  fs : List (List (Un × Int) × Int)
structure NtOk (n : Nt) : Prop where
  pl : PlanOk n.d n.fo n.st n.ch n.te
  ms : n.ms.length = n.ups.length
  ups : UpsOk n.ups
  sl : SlewsOk n.sl
  pr : PricesOk n.ups n.pr
  fs : n.fs.length ≤ 3
  fs2 : ∀ f ∈ n.fs, f.1.length ≤ 2
/-- the night's object: its ten parts -/
structure NtAt (K : PySem.W.Frag) (H : Hp) (r : Addr) (n : Nt) : Prop where
  ex : ∃ (a0 a2 a3 a4 a5 a6 a7 a8 a9 : Addr), SqT K H r [.ref a0, .int n.fo, .ref a2, .ref a3, .ref a4, .ref a5, .ref a6, .ref a7, .ref a8, .ref a9] ∧
    Tp K H (.ref a0) (dlD n.d) ∧ Tp K H (.ref a2) (.tuple (n.st.map stD)) ∧ Tp K H (.ref a3) (.tuple (n.ms.map mxD)) ∧ Tp K H (.ref a4) (.tuple (n.ch.map PyData.int)) ∧ Tp K H (.ref a5) (.tuple (n.te.map tmD)) ∧
    Tp K H (.ref a6) (.tuple (n.ups.map strsD)) ∧ Tp K H (.ref a7) (.tuple (n.sl.map slD)) ∧ (∃ o xs, H a8 = some (.frz o (.tup xs)) ∧ o.cls = .type "tuple" ∧ o.dict = none ∧ TpAll K H xs (n.pr.map prD)) ∧ Tp K H (.ref a9) (.tuple (n.fs.map fcD))
structure Ca5 (P : Program) (w : World) (K : PySem.W.Frag) (mg : Str → Option Value) (base : Heap) : Prop extends Ca4 P w K mg base where
  l_sizes : Cal P w K mg base 2 "_law_sizes" (spSizes K)
  l_ups : Cal P w K mg base 2 "_law_ups" (spUps K)
  l_plan : Cal P w K mg base 4 "_law_plan" (spPlan K)
  l_slews : Cal P w K mg base 2 "_law_slews" (spSlews K)
  l_prices : Cal P w K mg base 2 "_law_prices" (spPrices K)
  l_facts : Cal P w K mg base 2 "_law_facts" (spFacts K)
section
variable {P : Program} {w : World} {K : PySem.W.Frag} {mg : Str → Option Value} {base : Heap}
def spNight (K : PySem.W.Frag) : Sp := fun vs H Q _ => ∃ (nb pl : Addr) (ns : List Int), vs = [.ref nb, .ref pl] ∧ H nb = some (.lst (ns.map V.int)) ∧ ns ≠ [] ∧ H pl = some (AtO pl) ∧
  ∀ (r : Addr) (n : Nt) (H' : Hp), NtOk n → Same H H' → NtAt K H' r n → Q (.ref r) H'
theorem c_l_night (D : Dn K mg "_law_night" s_l_night) (B : Bl mg) (C : Ca5 P w K mg base) : Cal P w K mg base 5 "_law_night" (spNight K) := by
  refine cal_of D sc_l_night (fun vs H Q E h => ?_) (fun _ _ _ _ _ _ us hl => match us, hl with | [_, _], _ => rfl) (fun f cdv A outer s H vs Q E hr h => ?_)
  · obtain ⟨nb, pl, ns, rfl, _⟩ := h
    rfl
  · obtain ⟨nb, pl, ns, rfl, hnb, hne, hat, q⟩ := h
    refine ⟨_, (pss_cons (ps_set (i := 2) sc_l_night.nd rfl (.inl rfl) (pe_c C.l_sizes hr (by decide) rfl (pa_cons (pv 0) (pa_cons (pv 1) pa_nil))))
      (pss_cons (ps_set (i := 3) sc_l_night.nd rfl (.inl rfl) (pe_c C.l_names hr (by decide) rfl (pa_cons (pv 0) (pa_cons (pv 1) (pa_cons (pe_callB (call_max2 rfl) (by rfl) B.max bt_max (pa_cons pe_int (pa_cons (pe_op op_add pe_int (pe_callB (cr_max rfl) (by rfl) B.max bt_max (pa_cons (pv 2) pa_nil))) pa_nil))) (pa_cons (pe_lst pa_nil) pa_nil))))))
      (pss_cons (ps_set (i := 4) sc_l_night.nd rfl (.inl rfl) (pe_c C.l_ups hr (by decide) rfl (pa_cons (pv 0) (pa_cons (pv 1) (pa_cons (pv 2) (pa_cons (pv 3) pa_nil))))))
      (pss_cons (ps_set (i := 5) sc_l_night.nd rfl (.inl rfl) (pe_c C.l_plan hr (by decide) rfl (pa_cons (pv 0) (pa_cons (pv 1) (pa_cons (pe_slice sl_list (pv 3) po_none (po_some (pe_c C.l_pick hr (by decide) rfl (pa_cons (pv 0) (pa_cons (pv 1) (pa_cons pe_int pa_nil)))))) (pa_cons (pe_callB call_len_seq (by rfl) B.len bt_len (pa_cons (pv 4) pa_nil)) pa_nil))))))
      (pss_cons (ps_set (i := 6) sc_l_night.nd rfl (.inl rfl) (pe_lst pa_nil))
      (pss_cons (ps_for PassesOwn.never rfl (pi_range1 (by rfl) B.range (pa_cons (pe_callB call_len_seq (by rfl) B.len bt_len (pa_cons (pv 4) pa_nil)) pa_nil)) (pg_name (i := 7) sc_l_night.nd rfl (.inl rfl)) 
        (pss_cons (ps_set (i := 8) sc_l_night.nd rfl (.inl rfl) (pe_tup (pa_cons pe_int (pa_cons pe_int (pa_cons pe_int (pa_cons pe_int pa_nil))))))
        (Evl.pss_cut (ps_if (pt_cmpR op_eq (pe_c C.l_pick hr (by decide) rfl (pa_cons (pv 0) (pa_cons (pv 1) (pa_cons pe_int pa_nil)))) pe_int (nomark _)) 
          (pss_one (ps_set (i := 8) sc_l_night.nd rfl (.inl rfl) (pe_callTy call_tuple_of (by rfl) B.tuple bt_tuple (pa_cons (pe_lc (own := [("place", 12)]) (by rfl) sc_l_night.nd (pi_range1 (by rfl) B.range (pa_cons pe_int pa_nil)) (blkOk_by (N := n_l_night) (sc := defScope s_l_night) (by decide +kernel)) (fun _ _ _ _ _ => (pg_name (i := 12) sc_l_night.nd rfl (.inl rfl))) (fun _ _ _ _ _ => pts_nil) (fun _ _ _ _ _ => (pe_op op_sub (pe_c C.l_pick hr (by decide) rfl (pa_cons (pv 0) (pa_cons (pv 1) (pa_cons pe_int pa_nil)))) pe_int))) pa_nil)))) pss_nil)
        (pss_one (ps_expr (pe_bm PySem.F.plainAttrs_list PySem.F.slot_list_append PySem.F.type_list_append mt_append (pv 6) (pa_cons (pv 8) pa_nil)))))))
      (pss_cons (ps_set (i := 9) sc_l_night.nd rfl (.inl rfl) (pe_c C.l_slews hr (by decide) rfl (pa_cons (pv 0) (pa_cons (pv 1) (pa_cons (pv 3) pa_nil)))))
      (pss_cons (ps_set (i := 10) sc_l_night.nd rfl (.inl rfl) (pe_c C.l_prices hr (by decide) rfl (pa_cons (pv 0) (pa_cons (pv 1) (pa_cons (pv 4) pa_nil)))))
      (pss_cons (ps_set (i := 11) sc_l_night.nd rfl (.inl rfl) (pe_c C.l_facts hr (by decide) rfl (pa_cons (pv 0) (pa_cons (pv 1) (pa_cons (pv 5) (pa_cons (pv 3) pa_nil))))))
      (pss_one (ps_ret (pe_tup (pa_cons (pe_ix ix_tup (pv 5) pe_int (fun _ _ => rfl)) (pa_cons (pe_ix ix_tup (pv 5) pe_int (fun _ _ => rfl)) (pa_cons (pe_ix ix_tup (pv 5) pe_int (fun _ _ => rfl)) (pa_cons (pe_callTy call_tuple_of (by rfl) B.tuple bt_tuple (pa_cons (pv 6) pa_nil)) (pa_cons (pe_ix ix_tup (pv 5) pe_int (fun _ _ => rfl)) (pa_cons (pe_ix ix_tup (pv 5) pe_int (fun _ _ => rfl)) (pa_cons (pe_callTy call_tuple_of (by rfl) B.tuple bt_tuple (pa_cons (pv 4) pa_nil)) (pa_cons (pv 9) (pa_cons (pv 10) (pa_cons (pv 11) pa_nil)))))))))))))))))))))), ?_⟩
    have hN : Nb K H nb pl ns := ⟨.of hnb, hne, hat⟩
    refine ⟨_, rfl, _, rfl, nb, pl, ns, rfl, hN, fun sz ss H1 sok s1 nsz esz => ?_⟩
    have nbz : nb ≠ sz := ne_of_none hnb nsz
    -- the names
    refine ⟨_, rfl, _, rfl, _, rfl, sz, ss.map (fun n : Nat => (n : Int)), rfl, by rw [List.map_map]; exact .of esz, by rw [List.length_map]; exact sok.one, fun mx hmx hmx2 => ⟨_, _, rfl, rfl, _, _, rfl, ?_⟩⟩
    obtain ⟨m', hm', rfl⟩ := List.mem_map.mp hmx
    have hm31 := sok.small m' hm'
    refine ⟨by show 0 ≤ sizeLine; decide, fun em nem => ?_⟩
    have g1 := same_new (o := .lst []) nem
    have e1 : (upd H1 em (.lst [])) em = some (.lst (([] : List Str).map V.str)) := upd_same
    generalize upd H1 em (.lst []) = H2 at g1 e1
    have s2 := s1.trans g1
    refine ⟨nb, pl, em, ns, [], _, rfl, hN.up s2, e1, by decide, by split <;> omega, by split <;> omega, fun pa ps H3 lps npsd lpl s23 npa epa => ?_⟩
    have lps1 : 5 ≤ ps.length ∧ ps.length ≤ 200 := by
      split at lps <;> omega
    have s3 := s2.trans s23
    have esz3 : H3 sz = some (.lst (ss.map nV)) := s23 _ _ (g1 _ _ esz)
    have paz : pa ≠ sz := fun z => by
      rw [z] at npa
      exact absurd npa (by rw [g1 _ _ esz]; simp)
    have hN3 := hN.up s3
    -- ups
    refine ⟨_, rfl, _, rfl, _, rfl, _, rfl, nb, pl, sz, pa, ns, ss, ps, rfl, hN3, nbz, esz3, sok, epa, paz, by omega, lps1.2, npsd, lpl, fun n hn => ?_, fun up us ups H4 uok sB nup eup tup => ?_⟩
    · have := hmx2 _ (List.mem_map_of_mem hn)
      split at lps <;> omega
    have s4 : Same H H4 := fun b o e => sB b o (ne_of_none e nsz) (s3 b o e)
    have epa4 : H4 pa = some (.lst (ps.map V.str)) := sB _ _ paz epa
    have hN4 := hN.up s4
    have lus : us.length = ups.length := by rw [tup.len, List.length_map]
    -- plan
    refine ⟨_, rfl, _, rfl, _, rfl, _, rfl, _, rfl, nb, pl, ns, 2, rfl, hN4.s, hN4.ne, hN4.at_, by decide, fun a a0 a1 => ⟨a, rfl, pa, _, rfl, .of epa4, fun ah nah => ?_⟩⟩
    obtain ⟨zs, ezs, lzs, _⟩ := cut_map V.str ps none (some a)
    rw [ezs]
    have g5 := same_new (o := .lst (zs.map V.str)) nah
    have eah : (upd H4 ah (.lst (zs.map V.str))) ah = some (.lst (zs.map V.str)) := upd_same
    generalize upd H4 ah (.lst (zs.map V.str)) = H5 at g5 eah
    have s5 := s4.trans g5
    have hN5 := hN.up s5
    have uone := uok.one
    have umost := uok.most
    refine ⟨_, rfl, up, _, rfl, .inl (.of (g5 _ _ eup)), nb, pl, ah, ns, zs, _, rfl, hN5, eah, by omega, by omega, by omega, fun plv d fo st ch te H6 pok s56 tpl => ?_⟩
    have s6 := s5.trans s56
    have g46 := g5.trans s56
    -- matrices
    refine ⟨by show 0 ≤ sizeLine; decide, fun ml nml => ?_⟩
    have nmlH : H ml = none := s6.free nml
    have g7 := g46.trans (same_new (o := .lst []) nml)
    have gp7 : Same H6 (upd H6 ml (.lst [])) := same_new nml
    have eml : (upd H6 ml (.lst [])) ml = some (.lst []) := upd_same
    have nmu : up ≠ ml := ne_of_none (g46 _ _ eup) nml
    have nmp : pa ≠ ml := ne_of_none (g46 _ _ epa4) nml
    generalize upd H6 ml (.lst []) = H7 at g7 gp7 eml
    have tpl7 := tpl.up (Gr.same gp7)
    refine ⟨_, rfl, up, _, rfl, .inl (.of (g7 _ _ eup)), _, rfl, by omega, by omega, ?_⟩
    refine for_range (n := us.length) (fun i σ H8 => ∃ y7 y8 y12 mx, ∃ ms : List Mx, σ = [some (.ref nb), some (.ref pl), some (.ref sz), some (.ref pa), some (.ref up), some plv, some (.ref ml), y7, y8, none, none, none, y12] ∧ Same H H8 ∧ H8 pa = some (.lst (ps.map V.str)) ∧ H8 up = some (.lst us) ∧ TpAll K H8 us (ups.map strsD) ∧ Tp K H8 plv (planD d fo st ch te) ∧ H8 ml = some (.lst mx) ∧ TpAll K H8 mx (ms.map mxD) ∧ ms.length = i)
      ⟨_, _, _, [], [], rfl, s4.trans g7, g7 _ _ epa4, g7 _ _ eup, tup.up (Gr.same g7), tpl7, eml, .nil, rfl⟩ (fun i σ H8 hi h8 => ?_) (fun σ H8 h8 => ?_)
    · obtain ⟨y7, y8, y12, mx, ms, rfl, s8, epa8, eup8, tup8, tpl8, eml8, tms8, hms⟩ := h8
      refine ⟨by show 4 ≤ sizeLine; decide, fun m1 nm1 => ?_⟩
      have g9 := same_new (o := .tup [.int 1, .int 0, .int 0, .int 1]) nm1
      have tm9 : Tp K (upd H8 m1 (.tup [.int 1, .int 0, .int 0, .int 1])) (.ref m1) (mxD (1, 0, 0, 1)) := .tup (.of upd_same) (.cons (.int _) (.cons (.int _) (.cons (.int _) (.cons (.int _) .nil))))
      generalize upd H8 m1 (.tup [.int 1, .int 0, .int 0, .int 1]) = H9 at g9 tm9
      have s9 := s8.trans g9
      have hN9 := hN.up s9
      refine ⟨fun σ' H' => ∃ mv m y12, σ' = [some (.ref nb), some (.ref pl), some (.ref sz), some (.ref pa), some (.ref up), some plv, some (.ref ml), some (.int (0 + (i : Int))), some mv, none, none, none, y12] ∧ Same H9 H' ∧ Tp K H' mv (mxD m), ?_, ?_⟩
      · refine ⟨_, rfl, _, rfl, nb, pl, ns, 2, rfl, hN9.s, hN9.ne, hN9.at_, by decide, fun _ _ _ => ⟨rfl, _, rfl, ite2 (fun _ => ?_) (fun _ => ⟨_, _, _, rfl, Same.refl H9, tm9⟩)⟩⟩
        refine ⟨4, rfl, by decide, by decide, fun d' nd => ?_⟩
        refine lc_range (lo := 0) (n := (4 : Int).toNat) (fun k H' => ∃ zs : List Int, Same H9 H' ∧ H' d' = some (.lst (zs.map V.int)) ∧ zs.length = k) ⟨[], same_new nd, upd_same, rfl⟩ (fun k H' hk h => ?_) (fun H' h => ?_)
        · obtain ⟨zs, t1, t2, t3⟩ := h
          have hN' := hN9.up t1
          have hk4 : k < 4 := hk
          refine ⟨rfl, tYes_i ?_⟩
          refine ⟨_, rfl, _, rfl, nb, pl, ns, 9, rfl, hN'.s, hN'.ne, hN'.at_, by decide, fun v v0 v1 => ⟨_, _, rfl, rfl, ?_⟩⟩
          exact ⟨_, t2, by rw [List.length_map]; exact small1000 (by omega), zs ++ [_], smut t1 nd, by rw [upd_same, List.map_append]; rfl, by rw [List.length_append, t3]; rfl⟩
        · obtain ⟨zs, t1, t2, t3⟩ := h
          obtain ⟨z1, z2, z3, z4, rfl⟩ : ∃ a b c e, zs = [a, b, c, e] := match zs, t3 with | [a, b, c, e], _ => ⟨a, b, c, e, rfl⟩
          refine ⟨d', _, rfl, .inl ⟨.of t2, fun t nt => ?_⟩⟩
          exact ⟨_, (z1, z2, z3, z4), _, rfl, t1.trans (same_new nt), .tup (.of upd_same) (.ints [z1, z2, z3, z4])⟩
      rintro σ' H10 ⟨mv, m, y12, rfl, s10, tm10⟩
      have eml10 := s10 _ _ (g9 _ _ eml8)
      have g10 := g9.trans s10
      have lmx : mx.length = ms.length := by rw [tms8.len, List.length_map]
      refine ⟨_, rfl, .inl ⟨rfl, _, .of eml10⟩, _, rfl, ml, _, _, rfl, rfl, eml10, small1000 (by omega), ?_⟩
      refine ⟨_, _, _, mx ++ [mv], ms ++ [m], rfl, smut (s8.trans g10) nmlH, by rw [upd_ne nmp]; exact g10 _ _ epa8, by rw [upd_ne nmu]; exact g10 _ _ eup8, (tup8.up (Gr.same g10)).up (Gr.lst eml10), (tpl8.up (Gr.same g10)).up (Gr.lst eml10), upd_same, ?_, by rw [List.length_append, hms]; rfl⟩
      rw [List.map_append]
      exact ((tms8.up (Gr.same g10)).app (.one tm10)).up (Gr.lst eml10)
    obtain ⟨y7, y8, y12, mx, ms, rfl, s8, epa8, eup8, tup8, tpl8, eml8, tms8, hms⟩ := h8
    have hN8 := hN.up s8
    -- slews, prices, facts
    refine ⟨_, rfl, _, rfl, _, rfl, nb, pl, pa, ns, ps, rfl, hN8, epa8, by omega, fun y hy => (lpl y hy).2, fun slv sl H9 slok s89 tsl => ?_⟩
    have hN9 := hN8.up s89
    have eup9 := s89 _ _ eup8
    have tup9 := tup8.up (Gr.same s89)
    refine ⟨_, rfl, _, rfl, _, rfl, nb, pl, up, ns, us, ups, rfl, hN9, eup9, tup9, uok, fun pp o px pr H10 prok s910 npp epp oc od tpr => ?_⟩
    have hN10 := hN9.up s910
    have s810 := s89.trans s910
    refine ⟨_, rfl, _, rfl, _, rfl, _, rfl, nb, pl, pa, ns, ps, plv, d, fo, st, ch, te, rfl, hN10, s810 _ _ epa8, by omega, lps1.2, tpl8.up (Gr.same s810), pok, fun fv fs H11 lfs hfs s1011 tfs => ?_⟩
    have s811 := s810.trans s1011
    have g811 := Gr.same s811
    obtain ⟨pla, pxs, rfl, psq, ptp⟩ := (tpl8.up g811).tup_of
    obtain ⟨v0, v2, v3, v4, rfl, tv0, tv2, tv3, tv4⟩ : ∃ v0 v2 v3 v4, pxs = [v0, .int fo, v2, v3, v4] ∧ Tp K H11 v0 (dlD d) ∧ Tp K H11 v2 (.tuple (st.map stD)) ∧ Tp K H11 v3 (.tuple (ch.map PyData.int)) ∧ Tp K H11 v4 (.tuple (te.map tmD)) := by
      cases ptp with
      | cons h1 h2 => cases h2 with
        | cons h3 h4 => cases h4 with
          | cons h5 h6 => cases h6 with
            | cons h7 h8 => cases h8 with
              | cons h9 h10 =>
                cases h10
                cases h3.int_of
                exact ⟨_, _, _, _, rfl, h1, h5, h7, h9⟩
    obtain ⟨a0, _, rfl, _, _⟩ := id tv0.tup_of
    obtain ⟨a2, _, rfl, _, _⟩ := id tv2.tup_of
    obtain ⟨a4, _, rfl, _, _⟩ := id tv3.tup_of
    obtain ⟨a5, _, rfl, _, _⟩ := id tv4.tup_of
    obtain ⟨a7, _, rfl, _, _⟩ := id tsl.tup_of
    obtain ⟨a9, _, rfl, _, _⟩ := id tfs.tup_of
    refine ⟨_, rfl, pla, _, 0, _, rfl, rfl, psq, atI_nat (j := 0) rfl, _, rfl, pla, _, 1, _, rfl, rfl, psq, atI_nat (j := 1) rfl, _, rfl, pla, _, 2, _, rfl, rfl, psq, atI_nat (j := 2) rfl, ?_⟩
    refine ⟨_, rfl, ml, mx, rfl, .inl ⟨.of (s811 _ _ eml8), fun a3 na3 => ?_⟩⟩
    have k1 := same_new (o := .tup mx) na3
    have ta3 : Tp K (upd H11 a3 (.tup mx)) (.ref a3) (.tuple (ms.map mxD)) := .tup (.of upd_same) ((tms8.up g811).up (Gr.same k1))
    generalize upd H11 a3 (.tup mx) = H12 at k1 ta3
    have psq12 := (Gr.same k1).t psq
    refine ⟨_, rfl, pla, _, 3, _, rfl, rfl, psq12, atI_nat (j := 3) rfl, _, rfl, pla, _, 4, _, rfl, rfl, psq12, atI_nat (j := 4) rfl, ?_⟩
    refine ⟨_, rfl, up, us, rfl, .inl ⟨.of (k1 _ _ (s811 _ _ eup8)), fun a6 na6 => ?_⟩⟩
    have k2 := k1.trans (same_new (o := .tup us) na6)
    have ta6 : Tp K (upd H12 a6 (.tup us)) (.ref a6) (.tuple (ups.map strsD)) := .tup (.of upd_same) ((tup8.up g811).up (Gr.same k2))
    have ta3' := ta3.up (Gr.new (o := .tup us) na6)
    generalize upd H12 a6 (.tup us) = H13 at k2 ta6 ta3'
    refine ⟨_, rfl, _, rfl, _, rfl, by show 10 ≤ sizeLine; decide, fun r nr => ?_⟩
    have k3 := same_new (o := .tup [.ref a0, .int fo, .ref a2, .ref a3, .ref a4, .ref a5, .ref a6, .ref a7, .ref pp, .ref a9]) nr
    have k23 := k2.trans k3
    have G := Gr.same k23
    have k1113 := s1011.trans k23
    refine q r ⟨d, fo, st, ms, ch, te, ups, sl, pr, fs⟩ _ ⟨pok, by show ms.length = ups.length; omega, uok, slok, prok, lfs, hfs⟩ (s8.trans (s811.trans k23)) ⟨a0, a2, a3, a4, a5, a6, a7, pp, a9, .of upd_same, tv0.up G, tv2.up G, ta3'.up (Gr.same k3), tv3.up G, tv4.up G, ta6.up (Gr.same k3), tsl.up (Gr.same (s910.trans k1113)), ⟨o, px, k1113 _ _ epp, oc, od, tpr.up (Gr.same k1113)⟩, tfs.up G⟩
end
end K78
set_option Elab.async false
set_option linter.all false
set_option maxRecDepth 100000
set_option maxHeartbeats 4000000
/-! the plain law: no program in sight -/
namespace K78
open PySem PySem.Spec PyProof.Rows L2 KB
/-- a beat more: each row gets each of the beat's choices -/
def stepC (rows : List (List Str)) (u : List Str) : List (List Str) := rows.flatMap fun r => (("" : Str) :: u).map fun n => r ++ [n]
def choicesOf (ups : List (List Str)) : List (List Str) := ups.foldl stepC [[]]
theorem stepC_len (rows : List (List Str)) (u : List Str) : (stepC rows u).length = rows.length * (1 + u.length) := by
  unfold stepC
  induction rows with
  | nil => simp
  | cons r rows ih =>
    rw [List.flatMap_cons, List.length_append, ih, List.length_map, List.length_cons, List.length_cons, Nat.succ_mul]
    omega
theorem foldC_len : ∀ (ups rows : List (List Str)), (ups.foldl stepC rows).length = rows.length * prods (ups.map List.length)
  | [], rows => by simp [prods]
  | u :: ups, rows => by
    rw [List.foldl_cons, foldC_len ups, stepC_len, List.map_cons]
    show _ = rows.length * ((1 + u.length) * prods _)
    rw [Nat.mul_assoc]
theorem choices_len (ups : List (List Str)) : (choicesOf ups).length = prods (ups.map List.length) := by
  rw [choicesOf, foldC_len]
  simp
theorem prods_pos : ∀ l : List Nat, 1 ≤ prods l
  | [] => Nat.le_refl 1
  | a :: l => Nat.le_trans (prods_pos l) (Nat.le_mul_of_pos_left _ (by omega))
theorem prods_take : ∀ (l : List Nat) (i : Nat), prods (l.take i) ≤ prods l
  | [], _ => by simp
  | a :: l, 0 => prods_pos _
  | a :: l, i + 1 => by
    rw [List.take_succ_cons]
    show (1 + a) * prods (l.take i) ≤ (1 + a) * prods l
    exact Nat.mul_le_mul_left _ (prods_take l i)
/-- a row that is a choice, beat by beat -/
inductive RowIn : List (List Str) → List Str → Prop
  | nil : RowIn [] []
  | cons {u : List Str} {us : List (List Str)} {z : Str} {r : List Str} : (z = "" ∨ z ∈ u) → RowIn us r → RowIn (u :: us) (z :: r)
theorem RowIn.len {us : List (List Str)} {r : List Str} (h : RowIn us r) : r.length = us.length := by
  induction h with
  | nil => rfl
  | cons _ _ ih => rw [List.length_cons, ih, List.length_cons]
theorem RowIn.snoc {us : List (List Str)} {r : List Str} (h : RowIn us r) {u : List Str} {z : Str} (hz : z = "" ∨ z ∈ u) : RowIn (us ++ [u]) (r ++ [z]) := by
  induction h with
  | nil => exact .cons hz .nil
  | cons h1 _ ih => exact .cons h1 ih
theorem RowIn.get {us : List (List Str)} {r : List Str} (h : RowIn us r) {i : Nat} {z : Str} {u : List Str} (hz : r[i]? = some z) (hu : us[i]? = some u) : z = "" ∨ z ∈ u := by
  induction h generalizing i with
  | nil => simp at hz
  | cons h1 _ ih =>
    cases i with
    | zero =>
      have e1 := Option.some.inj hz
      have e2 := Option.some.inj hu
      subst e1
      subst e2
      exact h1
    | succ i => exact ih hz hu
theorem foldC_in : ∀ (ups done rows : List (List Str)), (∀ r ∈ rows, RowIn done r) → ∀ r ∈ ups.foldl stepC rows, RowIn (done ++ ups) r
  | [], done, rows, h, r, hr => by
    rw [List.append_nil]
    exact h r hr
  | u :: ups, done, rows, h, r, hr => by
    rw [show done ++ u :: ups = (done ++ [u]) ++ ups by simp]
    refine foldC_in ups (done ++ [u]) (stepC rows u) (fun r' hr' => ?_) r hr
    obtain ⟨r0, hr0, h2⟩ := List.mem_flatMap.mp hr'
    obtain ⟨n, hn, rfl⟩ := List.mem_map.mp h2
    refine (h r0 hr0).snoc ?_
    rcases List.mem_cons.mp hn with e | e
    · exact .inl e
    · exact .inr e
theorem choices_in {ups : List (List Str)} {r : List Str} (h : r ∈ choicesOf ups) : RowIn ups r := by
  have := foldC_in ups [] [[]] (fun r hr => by
    rw [List.mem_singleton.mp hr]
    exact .nil) r h
  simpa using this
theorem foldC_zero : ∀ (ups rows : List (List Str)) (r : List Str), r ∈ rows → r ++ ups.map (fun _ => ("" : Str)) ∈ ups.foldl stepC rows
  | [], rows, r, h => by simpa using h
  | u :: ups, rows, r, h => by
    have h2 : r ++ [("" : Str)] ∈ stepC rows u := List.mem_flatMap.mpr ⟨r, h, List.mem_map.mpr ⟨"", List.mem_cons_self .., rfl⟩⟩
    have := foldC_zero ups (stepC rows u) (r ++ [("" : Str)]) h2
    rw [List.append_assoc] at this
    exact this
theorem choices_zero (ups : List (List Str)) : ups.map (fun _ => ("" : Str)) ∈ choicesOf ups := by
  exact foldC_zero ups [[]] [] (List.mem_singleton.mpr rfl)
/-! ### the rows ascend -/
def sLt (a b : Str) : Prop := a.cps.toList < b.cps.toList
theorem sLt_of {a b : Str} (h : leS a b = true) (n : a ≠ b) : sLt a b := by
  have h1 : a.cps.toList ≤ b.cps.toList := of_decide_eq_true h
  by_cases h2 : a.cps.toList < b.cps.toList
  · exact h2
  · exact absurd (PySem.W.str_of_cps (List.le_antisymm h1 (List.not_lt.mp h2))) n
theorem sLt_empty {b : Str} (h : 1 ≤ b.length) : sLt "" b := by
  unfold sLt
  have e : (("" : Str)).cps.toList = [] := rfl
  rw [e]
  have h2 : b.cps.toList.length = b.length := strLen b
  cases hb : b.cps.toList with
  | nil =>
    rw [hb] at h2
    simp at h2
    omega
  | cons x l => exact List.nil_lt_cons x l
def RLt (r r' : List Str) : Prop := ∃ p x y s t, r = p ++ x :: s ∧ r' = p ++ y :: t ∧ sLt x y
theorem RLt.snoc {r r' : List Str} (h : RLt r r') (x y : Str) : RLt (r ++ [x]) (r' ++ [y]) := by
  obtain ⟨p, a, b, s, t, rfl, rfl, h⟩ := h
  exact ⟨p, a, b, s ++ [x], t ++ [y], by simp, by simp, h⟩
theorem foldC_asc : ∀ (ups rows : List (List Str)), (∀ u ∈ ups, (("" : Str) :: u).Pairwise sLt) → rows.Pairwise RLt → (ups.foldl stepC rows).Pairwise RLt
  | [], rows, _, h => h
  | u :: ups, rows, hu, h => by
    refine foldC_asc ups (stepC rows u) (fun v hv => hu v (List.mem_cons_of_mem _ hv)) (List.pairwise_flatMap.mpr ⟨fun r _ => ?_, h.imp fun {a b} hab x hx y hy => ?_⟩)
    · exact List.Pairwise.map _ (fun x y h => ⟨r, x, y, [], [], rfl, rfl, h⟩) (hu u (List.mem_cons_self ..))
    · obtain ⟨m, _, rfl⟩ := List.mem_map.mp hx
      obtain ⟨n, _, rfl⟩ := List.mem_map.mp hy
      exact hab.snoc m n
def toksR (r : List Str) : List (Int ⊕ List Nat) := r.flatMap fun z => [Sum.inl 1, Sum.inr z.cps.toList]
theorem toks_strs : ∀ r : List Str, PySem.W.keyToksAll (r.map PyData.str) = toksR r ++ [Sum.inl 0]
  | [] => by
    rw [List.map_nil, PySem.W.keyToksAll]
    rfl
  | z :: r => by
    rw [List.map_cons, PySem.W.toks_all_cons, toks_strs r, PySem.W.keyToks]
    rfl
theorem RLt.le {r r' : List Str} (h : RLt r r') : PySem.W.dataLe false strsD r r' = true := by
  obtain ⟨p, x, y, s, t, rfl, rfl, h⟩ := h
  have key : ∀ q : List Str, PySem.W.keyToks (strsD q) = toksR q ++ [Sum.inl 0] := fun q => by
    unfold strsD
    rw [PySem.W.keyToks, toks_strs]
  have app : ∀ (p : List Str) (x : Str) (s : List Str), toksR (p ++ x :: s) ++ [Sum.inl 0] = toksR p ++ (Sum.inl 1 :: Sum.inr x.cps.toList :: (toksR s ++ [Sum.inl 0])) := fun p x s => by
    unfold toksR
    rw [List.flatMap_append, List.flatMap_cons]
    simp
  have e : PyProof.Rows.lexLt itemOrd (PySem.W.keyToks (strsD (p ++ x :: s))) (PySem.W.keyToks (strsD (p ++ y :: t))) = true := by
    rw [key, key, app, app, PySem.W.lex_pre]
    refine (lex_self (O := itemOrd) _ _ _).trans ?_
    exact lex_true.mpr (.inl (decide_eq_true h))
  have e2 : PyProof.Rows.lexLt itemOrd (PySem.W.keyToks (strsD (p ++ y :: t))) (PySem.W.keyToks (strsD (p ++ x :: s))) = false := by
    cases h2 : PyProof.Rows.lexLt itemOrd (PySem.W.keyToks (strsD (p ++ y :: t))) (PySem.W.keyToks (strsD (p ++ x :: s))) with
    | false => rfl
    | true =>
      have h3 := lex_trans (O := itemOrd) _ _ _ e h2
      rw [lex_irrefl (O := itemOrd)] at h3
      exact absurd h3 Bool.false_ne_true
  show (!PyProof.Rows.lexLt itemOrd (PySem.W.keyToks (strsD (p ++ y :: t))) (PySem.W.keyToks (strsD (p ++ x :: s)))) = true
  rw [e2]
  rfl
theorem ups_asc {ups : List (List Str)} (h : UpsOk ups) : ∀ u ∈ ups, (("" : Str) :: u).Pairwise sLt := fun u hu => by
  refine List.pairwise_cons.mpr ⟨fun z hz => sLt_empty (h.len u hu z hz).1, ?_⟩
  refine List.Pairwise.imp (fun {a b} (hab : leS a b = true ∧ a ≠ b) => sLt_of hab.1 hab.2) ((h.srt u hu).and (h.nd u hu))
theorem choices_sorted {ups : List (List Str)} (h : UpsOk ups) : (choicesOf ups).mergeSort (PySem.W.dataLe false strsD) = choicesOf ups := by
  refine List.mergeSort_of_pairwise ((foldC_asc ups [[]] (ups_asc h) (List.pairwise_singleton _ _)).imp fun {a b} h => h.le)
/-! ### gaps -/
/-- the law's way -/
def keepsA (sl : List (Str × Str × Int)) : Str → Int → List Str → Bool
  | _, _, [] => true
  | last, gap, z :: zs => if z = "" then keepsA sl last (gap + 1) zs else
    if last ≠ "" ∧ last ≠ z ∧ (sl.any fun s => decide (s.1 = last) && decide (s.2.1 = z) && decide (gap < s.2.2)) = true then false else keepsA sl z 0 zs
abbrev keeps (sl : List (Str × Str × Int)) (zs : List Str) : Bool := keepsA sl "" 0 zs
theorem keeps_zero (sl : List (Str × Str × Int)) : ∀ (n : Nat) (gap : Int), keepsA sl "" gap (List.replicate n "") = true
  | 0, _ => by rw [List.replicate_zero, keepsA]
  | n + 1, gap => by
    rw [List.replicate_succ, keepsA, if_pos rfl]
    exact keeps_zero sl n _
/-- what a price list gives to a name -/
def priceOf (pr : List (Str × Int)) (z : Str) : Int := (pr.filter fun p => decide (p.1 = z)).foldl (fun t p => t + p.2) 0
end K78
set_option Elab.async false
set_option linter.all false
set_option maxRecDepth 100000
set_option maxHeartbeats 4000000
namespace KB
open PySem PySem.Spec PyProof.Rows L2
/-- a row of texts and a row of texts -/
theorem cat_strs {K : PySem.W.Frag} {H : Hp} {a b : Addr} {r t : List Str} {Q : VK} (ha : SqT K H a (r.map V.str)) (hb : SqT K H b (t.map V.str)) (hl : r.length + t.length ≤ 1000) (q : ∀ c H', Same H H' → SqT K H' c ((r ++ t).map V.str) → Q (.ref c) H') : rCatA K (.ref a) (.ref b) H Q := by
  refine ⟨a, b, _, _, rfl, rfl, ha, hb, ?_, fun e => ?_, fun _ e => ?_, fun _ _ p np => ?_⟩
  · rw [List.length_map, List.length_map]
    exact Nat.le_trans hl (by decide)
  · have er : r = [] := List.map_eq_nil_iff.mp e
    subst er
    exact q b H (Same.refl H) hb
  · have et : t = [] := List.map_eq_nil_iff.mp e
    subst et
    refine q a H (Same.refl H) ?_
    rw [List.append_nil]
    exact ha
  · refine q p _ (same_new np) (.of ?_)
    rw [List.map_append]
    exact upd_same
theorem Tp.strs {K : PySem.W.Frag} {H : Hp} {a : Addr} {zs : List Str} (h : SqT K H a (zs.map V.str)) : Tp K H (.ref a) (.tuple (zs.map PyData.str)) := .tup h (.strs zs)
theorem decS {a b : Str} : decide (V.str a = V.str b) = decide (a = b) := by
  rw [Bool.eq_iff_iff]
  simp
end KB
namespace K78
open PySem PySem.Spec PyProof.Rows L2 KB
theorem stepC_snoc (rows : List (List Str)) (r u : List Str) : stepC (rows ++ [r]) u = stepC rows u ++ ((r ++ [("" : Str)]) :: u.map fun n => r ++ [n]) := by
  unfold stepC
  rw [List.flatMap_append]
  simp
theorem stepC_nil (u : List Str) : stepC [] u = [] := rfl
section
variable {P : Program} {w : World} {K : PySem.W.Frag} {mg : Str → Option Value} {base : Heap}
def spChoices (K : PySem.W.Frag) : Sp := fun vs H Q _ => ∃ (v : V) (ups : List (List Str)), vs = [v] ∧ Tp K H v (.tuple (ups.map strsD)) ∧ UpsOk ups ∧
  ∀ (p : Addr) (xs : List V) (H' : Hp), Same H H' → H p = none → H' p = some (.lst xs) → TpAll K H' xs ((choicesOf ups).map strsD) → Q (.ref p) H'
theorem c_l_choices (D : Dn K mg "_law_choices" s_l_choices) (B : Bl mg) : Cal P w K mg base 1 "_law_choices" (spChoices K) := by
  refine cal_of D sc_l_choices (fun vs H Q E h => ?_) (fun _ _ _ _ _ _ us hl => match us, hl with | [_], _ => rfl) (fun f cdv A outer s H vs Q E hr h => ?_)
  · obtain ⟨v, ups, rfl, _⟩ := h
    rfl
  · obtain ⟨v, ups, rfl, hv, hok, q⟩ := h
    obtain ⟨ua, us, rfl, hus, htu⟩ := hv.tup_of
    refine ⟨_, (pss_cons (ps_set (i := 1) sc_l_choices.nd rfl (.inl rfl) (pe_lst (pa_cons (pe_tup pa_nil) pa_nil)))
      (pss_cons (ps_for PassesOwn.never rfl (pi_tup (pv 0)) (pg_name (i := 2) sc_l_choices.nd rfl (.inl rfl)) 
        (pss_cons (ps_set (i := 3) sc_l_choices.nd rfl (.inl rfl) (pe_lst pa_nil))
        (pss_cons (ps_for PassesOwn.never rfl (pi_list (pv 1)) (pg_name (i := 4) sc_l_choices.nd rfl (.inl rfl)) 
          (pss_cons (ps_expr (pe_bm PySem.F.plainAttrs_list PySem.F.slot_list_append PySem.F.type_list_append mt_append (pv 3) (pa_cons (pe_op op_catA (pv 4) (pe_tup (pa_cons pe_str pa_nil))) pa_nil)))
          (pss_one (ps_for PassesOwn.never rfl (pi_tup (pv 2)) (pg_name (i := 5) sc_l_choices.nd rfl (.inl rfl)) 
            (pss_one (ps_expr (pe_bm PySem.F.plainAttrs_list PySem.F.slot_list_append PySem.F.type_list_append mt_append (pv 3) (pa_cons (pe_op op_catA (pv 4) (pe_tup (pa_cons (pv 5) pa_nil))) pa_nil))))))))
        (pss_one (ps_set (i := 1) sc_l_choices.nd rfl (.inl rfl) (pv 3))))))
      (pss_one (ps_ret (pe_callB (cr_sortD hr.units) (by rfl) B.sorted bt_sorted (pa_cons (pv 1) pa_nil)))))), ?_⟩
    refine ⟨by show 0 ≤ sizeLine; decide, fun e ne => ⟨by show 1 ≤ sizeLine; decide, fun p np => ?_⟩⟩
    have s0 := (same_new (o := .tup []) ne).trans (same_new (o := .lst [.ref e]) np)
    have te : Tp K (upd (upd H e (.tup [])) p (.lst [.ref e])) (.ref e) (strsD []) := Tp.up (.tup (.of upd_same) .nil) (Gr.new np)
    have ep : (upd (upd H e (.tup [])) p (.lst [.ref e])) p = some (.lst [.ref e]) := upd_same
    have npH : H p = none := (same_new (o := .tup []) ne).free np
    generalize upd (upd H e (.tup [])) p (.lst [.ref e]) = H0 at s0 te ep
    have lus : us.length = ups.length := by rw [htu.len, List.length_map]
    have hchk : ∀ i, ((ups.take i).foldl stepC [[]]).length ≤ 128 := fun i => by
      have h1 := choices_len (ups.take i)
      rw [choicesOf] at h1
      rw [h1, List.map_take]
      exact Nat.le_trans (prods_take _ _) hok.prod
    have h40 := hok.most
    refine ⟨_, rfl, ua, rfl, ⟨_, (Gr.same s0).t hus⟩, ?_⟩
    refine for_tup (K := K) (a := ua) (xs := us) (fun i σ H3 => ∃ la y2 y3 y4 y5 xs, σ = [some (.ref ua), some (.ref la), y2, y3, y4, y5] ∧ Same H H3 ∧ H3 la = some (.lst xs) ∧ H la = none ∧ TpAll K H3 xs (((ups.take i).foldl stepC [[]]).map strsD))
      ⟨p, _, _, _, _, [.ref e], rfl, s0, ep, npH, .one te⟩ (fun i σ H3 _ h3 => let ⟨_, _, _, _, _, _, _, h, _⟩ := h3; (Gr.same h).t hus) (fun i x σ H3 hx h3 => ?_) (fun σ H3 h3 => ?_)
    · obtain ⟨la, y2, y3, y4, y5, xs, rfl, s3, el, nl, ht⟩ := h3
      obtain ⟨u, hu, htp⟩ := (htu.up (Gr.same s3)).atF hx
      obtain ⟨na, rfl, hsq⟩ := htp.strs_of
      have hi := (List.getElem?_eq_some_iff.mp hu).1
      have hB : ((ups.take i).foldl stepC [[]]).length * (1 + u.length) ≤ 128 := by
        have := hchk (i + 1)
        rw [take_next hu, List.foldl_append, List.foldl_cons, List.foldl_nil, stepC_len] at this
        exact this
      have hrl : ∀ r ∈ (ups.take i).foldl stepC [[]], r.length ≤ 40 := fun r hr => by
        have h1 := (choices_in (ups := ups.take i) hr).len
        rw [List.length_take] at h1
        omega
      have hst : (ups.take (i + 1)).foldl stepC [[]] = stepC ((ups.take i).foldl stepC [[]]) u := by rw [take_next hu, List.foldl_append, List.foldl_cons, List.foldl_nil]
      rw [hst]
      generalize hR : (ups.take i).foldl stepC [[]] = R at ht hB hrl
      have lxs : xs.length = R.length := by rw [ht.len, List.length_map]
      refine ⟨by show 0 ≤ sizeLine; decide, fun lb nlb => ?_⟩
      have nlbH : H lb = none := s3.free nlb
      have nab : la ≠ lb := ne_of_none el nlb
      have s4 := same_new (o := .lst []) nlb
      have eb : (upd H3 lb (.lst [])) lb = some (.lst []) := upd_same
      generalize upd H3 lb (.lst []) = H4 at s4 eb
      refine ⟨_, rfl, la, rfl, ⟨_, .of (s4 _ _ el)⟩, ?_⟩
      refine for_list (K := K) (a := la) (xs := xs) (fun j σ H5 => ∃ y4 y5 ys, σ = [some (.ref ua), some (.ref la), some (.ref na), some (.ref lb), y4, y5] ∧ Same H H5 ∧ H5 la = some (.lst xs) ∧ TpAll K H5 xs (R.map strsD) ∧ SqT K H5 na (u.map V.str) ∧ H5 lb = some (.lst ys) ∧ TpAll K H5 ys ((stepC (R.take j) u).map strsD))
        ⟨_, _, [], rfl, s3.trans s4, s4 _ _ el, ht.up (Gr.same s4), (Gr.same s4).t hsq, eb, .nil⟩ (fun j σ H5 _ h5 => let ⟨_, _, _, _, _, h, _⟩ := h5; .of h) (fun j x σ H5 hx h5 => ?_) (fun σ H5 h5 => ?_)
      · obtain ⟨y4, y5, ys, rfl, s5, el5, ht5, hsq5, eb5, hty⟩ := h5
        obtain ⟨r, hr, htr⟩ := ht5.atF hx
        obtain ⟨ra, rfl, hra⟩ := htr.strs_of
        have hrl40 := hrl r (List.mem_of_getElem? hr)
        have hjR := (List.getElem?_eq_some_iff.mp hr).1
        have lys : ys.length = j * (1 + u.length) := by
          rw [hty.len, List.length_map, stepC_len, List.length_take, Nat.min_eq_left (by omega)]
        have hj1 : (j + 1) * (1 + u.length) ≤ 128 := Nat.le_trans (Nat.mul_le_mul_right _ hjR) hB
        rw [Nat.succ_mul] at hj1
        rw [take_next hr, stepC_snoc]
        -- the row with a rest
        refine ⟨_, rfl, .inl ⟨rfl, _, .of eb5⟩, _, rfl, by show 1 ≤ sizeLine; decide, fun t1 nt1 => ?_⟩
        have g6 := same_new (o := .tup [.str ""]) nt1
        have et1 : SqT K (upd H5 t1 (.tup [.str ""])) t1 (([""] : List Str).map V.str) := .of upd_same
        generalize upd H5 t1 (.tup [.str ""]) = H6 at g6 et1
        refine cat_strs ((Gr.same g6).t hra) et1 (by show r.length + 1 ≤ 1000; omega) fun c H7 g67 hc => ?_
        have g7 := g6.trans g67
        have eb7 := g7 _ _ eb5
        refine ⟨lb, _, _, rfl, rfl, eb7, small1000 (by omega), ?_⟩
        have hty7 : TpAll K (upd H7 lb (.lst (ys ++ [.ref c]))) (ys ++ [.ref c]) ((stepC (R.take j) u ++ [r ++ [("" : Str)]]).map strsD) := by
          rw [List.map_append]
          exact ((hty.up (Gr.same g7)).app (.one (Tp.strs hc))).up (Gr.lst eb7)
        have s7 : Same H (upd H7 lb (.lst (ys ++ [.ref c]))) := smut (s5.trans g7) nlbH
        have el7 : (upd H7 lb (.lst (ys ++ [.ref c]))) la = some (.lst xs) := by rw [upd_ne nab]; exact g7 _ _ el5
        have ht7 : TpAll K (upd H7 lb (.lst (ys ++ [.ref c]))) xs (R.map strsD) := (ht5.up (Gr.same g7)).up (Gr.lst eb7)
        have hsq7 : SqT K (upd H7 lb (.lst (ys ++ [.ref c]))) na (u.map V.str) := (Gr.lst eb7).t ((Gr.same g7).t hsq5)
        have hra7 : SqT K (upd H7 lb (.lst (ys ++ [.ref c]))) ra (r.map V.str) := (Gr.lst eb7).t ((Gr.same g7).t hra)
        have eb8 : (upd H7 lb (.lst (ys ++ [.ref c]))) lb = some (.lst (ys ++ [.ref c])) := upd_same
        generalize upd H7 lb (.lst (ys ++ [.ref c])) = H8 at hty7 s7 el7 ht7 hsq7 hra7 eb8
        generalize hY : ys ++ [.ref c] = Y at hty7 eb8
        refine ⟨_, rfl, na, rfl, ⟨_, hsq7⟩, ?_⟩
        refine for_tup (K := K) (a := na) (xs := u.map V.str) (fun k σ H9 => ∃ y5 zs, σ = [some (.ref ua), some (.ref la), some (.ref na), some (.ref lb), some (.ref ra), y5] ∧ Same H H9 ∧ H9 la = some (.lst xs) ∧ TpAll K H9 xs (R.map strsD) ∧ SqT K H9 na (u.map V.str) ∧ SqT K H9 ra (r.map V.str) ∧ H9 lb = some (.lst zs) ∧ TpAll K H9 zs ((stepC (R.take j) u ++ (r ++ [("" : Str)]) :: (u.take k).map fun n => r ++ [n]).map strsD))
          ⟨_, Y, rfl, s7, el7, ht7, hsq7, hra7, eb8, hty7⟩ (fun k σ H9 _ h9 => let ⟨_, _, _, _, _, _, h, _⟩ := h9; h) (fun k x σ H9 hx h9 => ?_) (fun σ H9 h9 => ?_)
        · obtain ⟨y5, zs, rfl, s9, el9, ht9, hsq9, hra9, eb9, htz⟩ := h9
          obtain ⟨n, hn, rfl, hk⟩ := map_at_inv hx
          have lzs : zs.length = j * (1 + u.length) + (1 + k) := by
            rw [htz.len, List.length_map, List.length_append, stepC_len, List.length_take, Nat.min_eq_left (by omega), List.length_cons, List.length_map, List.length_take, Nat.min_eq_left (by omega)]
            omega
          refine ⟨_, rfl, .inl ⟨rfl, _, .of eb9⟩, _, rfl, _, rfl, by show 1 ≤ sizeLine; decide, fun t1 nt1 => ?_⟩
          have g6 := same_new (o := .tup [.str n]) nt1
          have et1 : SqT K (upd H9 t1 (.tup [.str n])) t1 (([n] : List Str).map V.str) := .of upd_same
          generalize upd H9 t1 (.tup [.str n]) = H10 at g6 et1
          refine cat_strs ((Gr.same g6).t hra9) et1 (by show r.length + 1 ≤ 1000; omega) fun c H11 g67 hc => ?_
          have g7 := g6.trans g67
          have eb7 := g7 _ _ eb9
          refine ⟨lb, _, _, rfl, rfl, eb7, small1000 (by omega), ?_⟩
          refine ⟨_, zs ++ [.ref c], rfl, smut (s9.trans g7) nlbH, by rw [upd_ne nab]; exact g7 _ _ el9, (ht9.up (Gr.same g7)).up (Gr.lst eb7), (Gr.lst eb7).t ((Gr.same g7).t hsq9), (Gr.lst eb7).t ((Gr.same g7).t hra9), upd_same, ?_⟩
          rw [take_next hn, List.map_append (l₁ := u.take k)]
          have e : stepC (R.take j) u ++ (r ++ [("" : Str)]) :: ((u.take k).map (fun n => r ++ [n]) ++ [n].map fun n => r ++ [n]) = (stepC (R.take j) u ++ (r ++ [("" : Str)]) :: (u.take k).map fun n => r ++ [n]) ++ [r ++ [n]] := by simp
          rw [e, List.map_append]
          exact ((htz.up (Gr.same g7)).app (.one (Tp.strs hc))).up (Gr.lst eb7)
        · obtain ⟨y5, zs, rfl, s9, el9, ht9, hsq9, hra9, eb9, htz⟩ := h9
          rw [List.length_map, List.take_length] at htz
          exact ⟨_, _, zs, rfl, s9, el9, ht9, hsq9, eb9, htz⟩
      · obtain ⟨y4, y5, ys, rfl, s5, el5, ht5, hsq5, eb5, hty⟩ := h5
        rw [lxs, List.take_length] at hty
        exact ⟨_, rfl, lb, _, _, _, _, ys, rfl, s5, eb5, nlbH, hty⟩
    · obtain ⟨la, y2, y3, y4, y5, xs, rfl, s3, el, nl, ht⟩ := h3
      rw [lus, List.take_length] at ht
      refine ⟨_, rfl, ?_⟩
      dsimp -proj only [tNil]
      have hne : ∀ r ∈ choicesOf ups, ∃ x t, strsD r = .tuple (x :: t) := fun r hr => by
        have h1 := (choices_in hr).len
        have h2 := hok.one
        cases r with
        | nil => simp at h1; omega
        | cons z r => exact ⟨_, _, rfl⟩
      have hal : ∀ r t : List Str, PySem.W.alike (strsD r) (strsD t) = true := fun r t => by
        have go : ∀ r t : List Str, PySem.W.alikeAll (r.map PyData.str) (t.map PyData.str) = true := by
          intro r
          induction r with
          | nil => intro t; rw [List.map_nil, PySem.W.alikeAll]
          | cons z r ih =>
            intro t
            cases t with
            | nil => rfl
            | cons y t =>
              rw [List.map_cons, List.map_cons, PySem.W.alikeAll, ih t]
              rfl
        unfold strsD
        rw [PySem.W.alike]
        exact go r t
      have hdp : ∀ r : List Str, (strsD r).depth ≤ 50 := fun r => by
        have go : ∀ r : List Str, PyData.depthAll (r.map PyData.str) ≤ 1 := by
          intro r
          induction r with
          | nil => simp [PyData.depthAll]
          | cons z r ih =>
            simp only [List.map_cons, PyData.depthAll, PyData.depth]
            omega
        have := go r
        simp only [strsD, PyData.depth]
        omega
      refine sort_data (K := K) (enc := strsD) (.of el) ht (fun b _ b' _ => hal b b') hne (fun b _ => hdp b) fun ys p hys np => ?_
      have e2 := choices_sorted hok
      rw [choicesOf] at e2
      rw [e2] at hys
      have g := same_new (o := .lst ys) np
      exact q p ys _ (s3.trans g) (s3.free np) upd_same (hys.up (Gr.same g))
end
end K78
set_option Elab.async false
set_option linter.all false
set_option maxRecDepth 100000
set_option maxHeartbeats 4000000
namespace K78
open PySem PySem.Spec PyProof.Rows L2 KB
theorem tup3 {K : PySem.W.Frag} {H : Hp} {v : V} {a b c : PyData} (h : Tp K H v (.tuple [a, b, c])) : ∃ p x y z, v = .ref p ∧ SqT K H p [x, y, z] ∧ Tp K H x a ∧ Tp K H y b ∧ Tp K H z c := by
  obtain ⟨p, xs, rfl, hs, hx⟩ := h.tup_of
  cases hx with
  | cons h1 h2 => cases h2 with
    | cons h3 h4 => cases h4 with
      | cons h5 h6 =>
        cases h6
        exact ⟨p, _, _, _, rfl, hs, h1, h3, h5⟩
theorem tup2 {K : PySem.W.Frag} {H : Hp} {v : V} {a b : PyData} (h : Tp K H v (.tuple [a, b])) : ∃ p x y, v = .ref p ∧ SqT K H p [x, y] ∧ Tp K H x a ∧ Tp K H y b := by
  obtain ⟨p, xs, rfl, hs, hx⟩ := h.tup_of
  cases hx with
  | cons h1 h2 => cases h2 with
    | cons h3 h4 =>
      cases h4
      exact ⟨p, _, _, rfl, hs, h1, h3⟩
def hit (last : Str) (z : Str) (gap : Int) (s : Str × Str × Int) : Bool := decide (s.1 = last) && decide (s.2.1 = z) && decide (gap < s.2.2)
section
variable {P : Program} {w : World} {K : PySem.W.Frag} {mg : Str → Option Value} {base : Heap}
def spKeeps (K : PySem.W.Frag) : Sp := fun vs H Q _ => ∃ (c : Addr) (v : V) (zs : List Str) (sl : List (Str × Str × Int)), vs = [.ref c, v] ∧ SqT K H c (zs.map V.str) ∧ Tp K H v (.tuple (sl.map slD)) ∧ Q (.bl (keeps sl zs)) H
theorem c_l_keeps (D : Dn K mg "_law_keeps" s_l_keeps) (B : Bl mg) : Cal P w K mg base 1 "_law_keeps" (spKeeps K) := by
  refine cal_of D sc_l_keeps (fun vs H Q E h => ?_) (fun _ _ _ _ _ _ us hl => match us, hl with | [_, _], _ => rfl) (fun f cdv A outer s H vs Q E hr h => ?_)
  · obtain ⟨c, v, zs, sl, rfl, _⟩ := h
    rfl
  · obtain ⟨c, v, zs, sl, rfl, hc, hv, q⟩ := h
    obtain ⟨sa, sx, rfl, hsa, htp⟩ := hv.tup_of
    have lsx : sx.length = sl.length := by rw [htp.len, List.length_map]
    refine ⟨_, (pss_cons (ps_set (i := 2) sc_l_keeps.nd rfl (.inl rfl) pe_str)
      (pss_cons (ps_set (i := 3) sc_l_keeps.nd rfl (.inl rfl) pe_int)
      (pss_cons (ps_for PassesOwn.never rfl (pi_tup (pv 0)) (pg_name (i := 4) sc_l_keeps.nd rfl (.inl rfl)) 
        (pss_one (ps_if (pt_cmpR op_eq (pv 4) pe_str (nomark _)) 
          (pss_one (ps_set (i := 3) sc_l_keeps.nd rfl (.inl rfl) (pe_op op_add (pv 3) pe_int))) 
          (Evl.pss_cut (ps_if (PW.pt (pw_and (pt_cmpR op_ne (pv 2) pe_str (nomark _)) (pw_and1 (pt_cmpR op_ne (pv 2) (pv 4) (nomark _))))) 
            (pss_one (ps_for PassesOwn.never rfl (pi_tup (pv 1)) (pg_name (i := 5) sc_l_keeps.nd rfl (.inl rfl)) 
              (pss_one (ps_if (PW.pt (pw_and (pt_cmpR op_eq (pe_ix ix_tup (pv 5) pe_int (fun _ _ => rfl)) (pv 2) (nomark _)) (pw_and (pt_cmpR op_eq (pe_ix ix_tup (pv 5) pe_int (fun _ _ => rfl)) (pv 4) (nomark _)) (pw_and1 (pt_cmpR op_lt (pv 3) (pe_ix ix_tup (pv 5) pe_int (fun _ _ => rfl)) (nomark _)))))) 
                (pss_one (ps_ret pe_bl)) pss_nil)))) pss_nil)
          (pss_cons (ps_set (i := 2) sc_l_keeps.nd rfl (.inl rfl) (pv 4))
          (pss_one (ps_set (i := 3) sc_l_keeps.nd rfl (.inl rfl) pe_int)))))))
      (pss_one (ps_ret pe_bl))))), ?_⟩
    refine ⟨_, rfl, c, rfl, ⟨_, hc⟩, ?_⟩
    refine for_tup (K := K) (a := c) (xs := zs.map V.str) (fun i σ H3 => ∃ last gap y4 y5, σ = [some (.ref c), some (.ref sa), some (.str last), some (.int gap), y4, y5] ∧ H3 = H ∧ keepsA sl last gap (zs.drop i) = keeps sl zs)
      ⟨"", 0, _, _, rfl, rfl, rfl⟩ (fun i σ H3 _ h3 => let ⟨_, _, _, _, _, e, _⟩ := h3; e ▸ hc) (fun i x σ H3 hx h3 => ?_) (fun σ H3 h3 => ?_)
    · obtain ⟨last, gap, y4, y5, rfl, rfl, hk⟩ := h3
      obtain ⟨z, hz, rfl, hi⟩ := map_at_inv hx
      have hd : zs.drop i = z :: zs.drop (i + 1) := by
        rw [List.drop_eq_getElem_cons hi, (List.getElem?_eq_some_iff.mp hz).2]
      rw [hd, keepsA] at hk
      refine ⟨_, rfl, rfl, _, rfl, ite2 (fun e => ?_) (fun e => ?_)⟩
      · rw [decS] at e
        rw [if_pos (of_decide_eq_true e)] at hk
        exact ⟨_, rfl, _, _, rfl, rfl, last, gap + 1, _, _, rfl, rfl, hk⟩
      · rw [decS] at e
        have ez : z ≠ "" := fun h => e (decide_eq_true h)
        rw [if_neg ez] at hk
        refine ⟨fun σ' H' => ∃ y5, σ' = [some (.ref c), some (.ref sa), some (.str last), some (.int gap), some (.str z), y5] ∧ H' = H3 ∧ ¬ (last ≠ "" ∧ last ≠ z ∧ (sl.any (hit last z gap)) = true), ?_, ?_⟩
        · refine st_if (b := !decide (V.str last = V.str "") && !decide (V.str last = V.str z)) (aAnd (fun Q q => ⟨_, rfl, rfl, _, rfl, q⟩) (fun _ Q q => ⟨_, rfl, _, rfl, rfl, _, rfl, q⟩)) (fun hb => ?_) (fun hb => ⟨_, rfl, rfl, fun h => ?_⟩)
          · rw [decS, decS] at hb
            have hb1 : last ≠ "" ∧ last ≠ z := by simpa using hb
            refine ⟨_, rfl, sa, rfl, ⟨_, hsa⟩, ?_⟩
            refine for_tup (K := K) (a := sa) (xs := sx) (fun j σ H4 => ∃ y5, σ = [some (.ref c), some (.ref sa), some (.str last), some (.int gap), some (.str z), y5] ∧ H4 = H3 ∧ (sl.take j).any (hit last z gap) = false)
              ⟨_, rfl, rfl, rfl⟩ (fun j σ H4 _ h4 => let ⟨_, _, e, _⟩ := h4; e ▸ hsa) (fun j x σ H4 hx h4 => ?_) (fun σ H4 h4 => ?_)
            · obtain ⟨y5, rfl, rfl, ha⟩ := h4
              obtain ⟨sk, hsk, htk⟩ := htp.atF hx
              obtain ⟨ka, x0, x1, x2, rfl, hka, t0, t1, t2⟩ := tup3 htk
              cases t0.str_of
              cases t1.str_of
              cases t2.int_of
              refine st_if (b := decide (V.str sk.1 = V.str last) && (decide (V.str sk.2.1 = V.str z) && decide (gap < sk.2.2))) (aAnd (fun Q q => ?_) (fun _ => aAnd (fun Q q => ?_) (fun _ Q q => ?_))) (fun hb => ?_) (fun hb => ?_)
              · exact ⟨_, rfl, ka, _, 0, _, rfl, rfl, hka, atI_nat (j := 0) rfl, _, rfl, rfl, _, rfl, q⟩
              · exact ⟨_, rfl, ka, _, 1, _, rfl, rfl, hka, atI_nat (j := 1) rfl, _, rfl, rfl, _, rfl, q⟩
              · exact ⟨_, rfl, _, rfl, ka, _, 2, _, rfl, rfl, hka, atI_nat (j := 2) rfl, _, _, rfl, rfl, _, rfl, q⟩
              · rw [decS, decS] at hb
                have hany : sl.any (hit last z gap) = true := List.any_eq_true.mpr ⟨sk, List.mem_of_getElem? hsk, by
                  unfold hit
                  rw [Bool.and_assoc]
                  exact hb⟩
                rw [if_pos ⟨hb1.1, hb1.2, hany⟩] at hk
                show Q (.bl false) H4
                rw [hk]
                exact q
              · refine ⟨_, rfl, rfl, ?_⟩
                rw [decS, decS] at hb
                rw [take_next hsk, List.any_append, ha]
                simp only [List.any_cons, List.any_nil, Bool.or_false, Bool.false_or]
                unfold hit
                rw [Bool.and_assoc]
                exact hb
            · obtain ⟨y5, rfl, rfl, ha⟩ := h4
              rw [lsx, List.take_length] at ha
              refine ⟨_, rfl, rfl, fun h => ?_⟩
              rw [ha] at h
              exact absurd h.2.2 Bool.false_ne_true
          · rw [decS, decS] at hb
            obtain ⟨h1, h2, _⟩ := h
            simp [h1, h2] at hb
        rintro σ' H' ⟨y5, rfl, rfl, hn⟩
        have hk2 : keepsA sl z 0 (zs.drop (i + 1)) = keeps sl zs := by
          rw [← hk]
          exact (if_neg hn).symm
        exact ⟨_, rfl, z, 0, _, _, rfl, rfl, hk2⟩
    · obtain ⟨last, gap, y4, y5, rfl, rfl, hk⟩ := h3
      rw [List.length_map, List.drop_length, keepsA] at hk
      show Q (.bl true) H3
      rw [hk]
      exact q
end
end K78
set_option Elab.async false
set_option linter.all false
set_option maxRecDepth 100000
set_option maxHeartbeats 4000000
namespace KB
open PySem PySem.Spec PyProof.Rows L2
section
variable {K : PySem.W.Frag} {H : Hp}
theorem dpa_len {vs : List V} {ds : List PyData} (h : DpAll K H vs ds) : vs.length = ds.length := by
  induction ds generalizing vs with
  | nil => cases h; rfl
  | cons d ds ih =>
    cases h with
    | cons h1 h2 => exact congrArg Nat.succ (ih h2)
theorem dpa_at {vs : List V} {ds : List PyData} (h : DpAll K H vs ds) {i : Nat} {v : V} (e : vs[i]? = some v) : ∃ d, ds[i]? = some d ∧ Dp K H v d := by
  induction ds generalizing vs i with
  | nil => cases h; simp at e
  | cons d0 ds ih =>
    cases h with
    | cons h1 h2 =>
      cases i with
      | zero =>
        have e' := Option.some.inj e
        subst e'
        exact ⟨_, rfl, h1⟩
      | succ i => exact ih h2 e
theorem dpa_strs {vs : List V} {zs : List Str} (h : DpAll K H vs (zs.map PyData.str)) : vs = zs.map V.str := by
  induction zs generalizing vs with
  | nil => cases h; rfl
  | cons z zs ih =>
    cases h with
    | cons h1 h2 =>
      cases h1
      rw [ih h2]
      rfl
theorem dp_tup {v : V} {d : PyData} (h : Dp K H v d) (e : d.isTuple = true) : ∃ a xs ds, v = .ref a ∧ d = .tuple ds ∧ SqT K H a xs ∧ DpAll K H xs ds := by
  cases h with
  | tup h1 h2 => exact ⟨_, _, _, rfl, rfl, h1, h2⟩
  | _ => exact absurd e (by simp [PyData.isTuple])
theorem dp_str {v : V} {d : PyData} (h : Dp K H v d) (e : d.isStr = true) : ∃ z, v = .str z ∧ d = .str z := by
  cases h with
  | str z => exact ⟨_, rfl, rfl⟩
  | _ => exact absurd e (by simp [PyData.isStr])
end
end KB
namespace K78
open PySem PySem.Spec PyProof.Rows L2 KB
/-- the texts of a thing that is a course -/
def okTh : List (List Str) → List PyData → Option (List Str)
  | [], [] => some []
  | u :: us, .str z :: ds => if z = "" ∨ z ∈ u then (okTh us ds).map (z :: ·) else none
  | _, _ => none
def due (n : Nt) : PyData → Bool
  | .tuple ds => match okTh n.ups ds with
    | some zs => keeps n.sl zs
    | none => false
  | _ => false
theorem okTh_some {ups : List (List Str)} {zs : List Str} (h : RowIn ups zs) : okTh ups (zs.map PyData.str) = some zs := by
  induction h with
  | nil => rfl
  | cons h1 _ ih => rw [List.map_cons, okTh, if_pos h1, ih]; rfl
theorem okTh_none : ∀ {ups : List (List Str)} {ds : List PyData} {i : Nat} {u : List Str} {d : PyData}, ups[i]? = some u → ds[i]? = some d → (∀ z, d = .str z → ¬ (z = "" ∨ z ∈ u)) → okTh ups ds = none
  | [], _, _, _, _, h, _, _ => by simp at h
  | _ :: _, [], _, _, _, _, h, _ => by simp at h
  | u0 :: us, d0 :: ds, 0, u, d, h1, h2, h3 => by
    have e1 := Option.some.inj h1
    have e2 := Option.some.inj h2
    subst e1
    subst e2
    cases d0 with
    | str z => rw [okTh, if_neg (h3 z rfl)]
    | _ => rfl
  | u0 :: us, d0 :: ds, i + 1, u, d, h1, h2, h3 => by
    have ih := okTh_none (ups := us) (ds := ds) (i := i) h1 h2 h3
    cases d0 with
    | str z =>
      rw [okTh]
      split
      · rw [ih]; rfl
      · rfl
    | _ => rfl
theorem okTh_len : ∀ {ups : List (List Str)} {ds : List PyData}, ds.length ≠ ups.length → okTh ups ds = none
  | [], [], h => absurd rfl h
  | [], _ :: _, _ => rfl
  | _ :: _, [], _ => rfl
  | u :: us, d :: ds, h => by
    have ih := okTh_len (ups := us) (ds := ds) (fun e => h (by rw [List.length_cons, List.length_cons, e]))
    cases d with
    | str z =>
      rw [okTh]
      split
      · rw [ih]; rfl
      · rfl
    | _ => rfl
theorem due_none {n : Nt} {ds : List PyData} (h : okTh n.ups ds = none) : due n (.tuple ds) = false := by
  show (match okTh n.ups ds with
    | some zs => keeps n.sl zs
    | none => false) = false
  rw [h]
theorem due_some {n : Nt} {ds : List PyData} {zs : List Str} (h : okTh n.ups ds = some zs) : due n (.tuple ds) = keeps n.sl zs := by
  show (match okTh n.ups ds with
    | some zs => keeps n.sl zs
    | none => false) = _
  rw [h]
structure Ca6 (P : Program) (w : World) (K : PySem.W.Frag) (mg : Str → Option Value) (base : Heap) : Prop where
  l_keeps : Cal P w K mg base 1 "_law_keeps" (spKeeps K)
section
variable {P : Program} {w : World} {K : PySem.W.Frag} {mg : Str → Option Value} {base : Heap}
def spDue (K : PySem.W.Frag) : Sp := fun vs H Q _ => ∃ (r : Addr) (t : V) (n : Nt) (d : PyData), vs = [.ref r, t] ∧ NtAt K H r n ∧ n.ups.length ≤ 40 ∧ Dp K H t d ∧ Q (.bl (due n d)) H
theorem c_l_is_due (D : Dn K mg "_law_is_due" s_l_is_due) (B : Bl mg) (C : Ca6 P w K mg base) : Cal P w K mg base 2 "_law_is_due" (spDue K) := by
  refine cal_of D sc_l_is_due (fun vs H Q E h => ?_) (fun _ _ _ _ _ _ us hl => match us, hl with | [_, _], _ => rfl) (fun f cdv A outer s H vs Q E hr h => ?_)
  · obtain ⟨r, t, n, d, rfl, _⟩ := h
    rfl
  · obtain ⟨r, t, n, d, rfl, hn, h40, hd, q⟩ := h
    obtain ⟨a0, a2, a3, a4, a5, a6, a7, a8, a9, sq, t0, t2, t3, t4, t5, t6, t7, t8, t9⟩ := hn.ex
    obtain ⟨ua, us, eua, hus, htu⟩ := t6.tup_of
    cases eua
    have lus : us.length = n.ups.length := by rw [htu.len, List.length_map]
    refine ⟨_, (pss_cons (ps_set (i := 2) sc_l_is_due.nd rfl (.inl rfl) (pe_ix ix_tup (pv 0) pe_int (fun _ _ => rfl)))
      (pss_cons (ps_if (PW.pt (pw_or (pt_not (pt_val (pe_callB call_is_tuple (by rfl) B.isinstance bt_isinstance (pa_cons (pv 1) (pa_cons (pe_bltn (v := .ty "tuple") (by rfl) B.tuple bt_tuple rfl) pa_nil))))) (pw_or1 (pt_cmpR op_ne (pe_callB call_len_seq (by rfl) B.len bt_len (pa_cons (pv 1) pa_nil)) (pe_callB call_len_seq (by rfl) B.len bt_len (pa_cons (pv 2) pa_nil)) (nomark _))))) 
        (pss_one (ps_ret pe_bl)) pss_nil)
      (pss_cons (ps_for PassesOwn.never rfl (pi_range1 (by rfl) B.range (pa_cons (pe_callB call_len_seq (by rfl) B.len bt_len (pa_cons (pv 2) pa_nil)) pa_nil)) (pg_name (i := 3) sc_l_is_due.nd rfl (.inl rfl)) 
        (pss_cons (ps_if (pt_not (pt_val (pe_callB call_is_str (by rfl) B.isinstance bt_isinstance (pa_cons (pe_ix ix_tup (pv 1) (pv 3) (fun _ _ => rfl)) (pa_cons (pe_bltn (v := .ty "str") (by rfl) B.str bt_str rfl) pa_nil))))) 
          (pss_one (ps_ret pe_bl)) pss_nil)
        (pss_one (ps_if (PW.pt (pw_and (pt_cmpR op_ne (pe_ix ix_tup (pv 1) (pv 3) (fun _ _ => rfl)) pe_str (nomark _)) (pw_and1 (pt_cmpR op_notIn_seq (pe_ix ix_tup (pv 1) (pv 3) (fun _ _ => rfl)) (pe_ix ix_tup (pv 2) (pv 3) (fun _ _ => rfl)) rfl)))) 
          (pss_one (ps_ret pe_bl)) pss_nil))))
      (pss_one (ps_ret (pe_c C.l_keeps hr (by decide) rfl (pa_cons (pv 1) (pa_cons (pe_ix ix_tup (pv 0) pe_int (fun _ _ => rfl)) pa_nil)))))))), ?_⟩
    refine ⟨_, rfl, r, _, 6, _, rfl, rfl, sq, atI_nat (j := 6) rfl, ?_⟩
    dsimp only [gName]
    cases htup : d.isTuple with
    | false =>
      have e : due n d = false := by
        cases d with
        | tuple ds => simp [PyData.isTuple] at htup
        | _ => rfl
      rw [e] at q
      refine st_if (b := true || false) (aOr (a := true) (b := false) (fun Q q => ?_) (fun h => absurd h (by decide))) (fun _ => ?_) (fun h => absurd h (by decide))
      · refine ⟨_, rfl, _, d, rfl, hd, _, rfl, ?_⟩
        rw [htup]
        exact q
      · exact q
    | true =>
      obtain ⟨ta, xs, ds, rfl, rfl, hta, hdp⟩ := dp_tup hd htup
      have lxs : xs.length = ds.length := dpa_len hdp
      refine st_if (b := false || !decide (V.int xs.length = V.int us.length)) (aOr (a := false) (fun Q q => ?_) (fun _ Q q => ?_)) (fun hb => ?_) (fun hb => ?_)
      · exact ⟨_, rfl, _, .tuple ds, rfl, hd, _, rfl, q⟩
      · exact ⟨_, rfl, ta, xs, rfl, .inr hta, _, rfl, _, us, rfl, .inr hus, rfl, _, rfl, q⟩
      · have hne : ds.length ≠ n.ups.length := fun e => by
          rw [lxs, lus, e] at hb
          simp at hb
        rw [due_none (okTh_len hne)] at q
        exact q
      have hlen : xs.length = us.length := by
        have hb' : (V.int xs.length = V.int us.length) := by simpa using hb
        have := V.int.inj hb'
        omega
      refine ⟨_, rfl, _, us, rfl, .inr hus, _, rfl, by omega, by omega, ?_⟩
      refine for_range (n := us.length) (fun i σ H3 => ∃ y3 zs, σ = [some (.ref r), some (.ref ta), some (.ref a6), y3] ∧ H3 = H ∧ RowIn (n.ups.take i) zs ∧ ds.take i = zs.map PyData.str)
        ⟨_, [], rfl, rfl, .nil, rfl⟩ (fun i σ H3 hi h3 => ?_) (fun σ H3 h3 => ?_)
      · obtain ⟨y3, zs, rfl, rfl, hrow, htake⟩ := h3
        have hix : i < xs.length := by omega
        have hx := List.getElem?_eq_getElem hix
        generalize xs[i] = x at hx
        obtain ⟨dx, hdx, hdpx⟩ := dpa_at hdp hx
        have hux := List.getElem?_eq_getElem hi
        generalize us[i] = uv at hux
        obtain ⟨u, hu, htpu⟩ := htu.atF hux
        obtain ⟨up, rfl, hup⟩ := htpu.strs_of
        have ei : (0 : Int) + (i : Int) = ((i : Nat) : Int) := by omega
        have bad : (∀ z, dx = .str z → ¬ (z = "" ∨ z ∈ u)) → Q (.bl false) H3 := fun hno => by
          rw [due_none (okTh_none hu hdx hno)] at q
          exact q
        refine st_if (b := !dx.isStr) (fun Q q => ?_) (fun hb => ?_) (fun hb => ?_)
        · exact ⟨_, rfl, _, rfl, ta, xs, _, x, rfl, rfl, hta, at_of ei hx, x, dx, rfl, hdpx, _, rfl, q⟩
        · refine bad fun z e => ?_
          rw [e] at hb
          simp [PyData.isStr] at hb
        · have hs : dx.isStr = true := by simpa using hb
          obtain ⟨z, rfl, rfl⟩ := dp_str hdpx hs
          dsimp only [tNext]
          refine st_if (b := !decide (V.str z = V.str "") && !inV (.str z) (u.map V.str)) (aAnd (fun Q q => ?_) (fun _ Q q => ?_)) (fun hb => ?_) (fun hb => ?_)
          · exact ⟨_, rfl, _, rfl, ta, xs, _, _, rfl, rfl, hta, at_of ei hx, rfl, _, rfl, q⟩
          · exact ⟨_, rfl, _, rfl, ta, xs, _, _, rfl, rfl, hta, at_of ei hx, _, rfl, _, rfl, _, us, _, _, rfl, rfl, hus, at_of ei hux, up, _, rfl, .inr hup, rfl, flat_strs u, _, rfl, q⟩
          · rw [decS, inV_strs] at hb
            refine bad fun z' e => ?_
            cases e
            simpa using hb
          · rw [decS, inV_strs] at hb
            have hz : z = "" ∨ z ∈ u := by
              by_cases h1 : z = ""
              · exact .inl h1
              · simp [h1] at hb
                exact .inr hb
            refine ⟨_, zs ++ [z], rfl, rfl, ?_, ?_⟩
            · rw [take_next hu]
              exact hrow.snoc hz
            · rw [take_next hdx, htake, List.map_append]
              rfl
      · obtain ⟨y3, zs, rfl, rfl, hrow, htake⟩ := h3
        have hl : ds.length = us.length := by omega
        rw [← hl, List.take_length] at htake
        rw [lus, List.take_length] at hrow
        subst htake
        have exs := dpa_strs hdp
        subst exs
        refine ⟨_, rfl, _, rfl, r, _, 7, _, rfl, rfl, sq, atI_nat (j := 7) rfl, ta, _, zs, n.sl, rfl, hta, t7, ?_⟩
        rw [due_some (okTh_some hrow)] at q
        exact q
end
end K78
set_option Elab.async false
set_option linter.all false
set_option maxRecDepth 100000
set_option maxHeartbeats 4000000
namespace KB
open PySem PySem.Spec PyProof.Rows L2
theorem dcT_tup {K : PySem.W.Frag} {a : Addr} {xs : List V} {g : TG} {tt : TT} {tk tv : TE} {vs : List Nat} {σ : L2.St} {H1 : Hp} {D : Addr} {Qd : Hp → Prop} (Pv : Nat → Hp → Prop) (h0 : Pv 0 (upd H1 D (.dT []))) (hl : ∀ i H, i ≤ xs.length → Pv i H → SqT K H a xs)
    (hs : ∀ i x H, xs[i]? = some x → Pv i H → g x (wipe σ vs) H fun σ2 H2 => wipe σ2 vs = wipe σ vs ∧ tt σ2 H2 fun b H3 =>
      if b = true then tk σ2 H3 fun y H4 => tv σ2 H4 fun z H5 => ∃ kvs k b, y = .ref b ∧ H5 b = some (.tup (k.map kV)) ∧ H5 D = some (.dT kvs) ∧ kvs.length < sizeLine ∧ Pv (i + 1) (upd H5 D (.dT (putK kvs k z))) else Pv (i + 1) H3) (hd : ∀ H, Pv xs.length H → Qd H) :
    ∃ W : Nat → Nat → Hp → Prop, (∃ m, W 0 m (upd H1 D (.dT []))) ∧ ∀ i m H, W i m H →
      ((Itt K a).stop i H ∧ Qd H) ∨ ((Itt K a).go i H ∧ ∃ Nx : Hp → Prop, (∀ H', Nx H' → ∃ m', m' < m ∧ W (i + 1) m' H') ∧ ∀ x H', (Itt K a).yld i H x H' → g x (wipe σ vs) H' fun σ2 H2 => wipe σ2 vs = wipe σ vs ∧ tt σ2 H2 fun b H3 =>
        if b = true then tk σ2 H3 fun y H4 => tv σ2 H4 fun z H5 => ∃ kvs k b, y = .ref b ∧ H5 b = some (.tup (k.map kV)) ∧ H5 D = some (.dT kvs) ∧ kvs.length < sizeLine ∧ Nx (upd H5 D (.dT (putK kvs k z))) else Nx H3) := by
  refine ⟨fun i m H => m = xs.length - i ∧ i ≤ xs.length ∧ Pv i H, ⟨xs.length, by simp, Nat.zero_le _, h0⟩, ?_⟩
  rintro i m H ⟨rfl, hi, p⟩
  have q := hl i H hi p
  by_cases hlt : i < xs.length
  · refine .inr ⟨⟨xs, xs[i], q, by simp [hlt]⟩, Pv (i + 1), fun H' p' => ⟨xs.length - (i + 1), by omega, rfl, hlt, p'⟩, fun x H' y => ?_⟩
    obtain ⟨e, y⟩ := y
    subst e
    exact hs i x _ (y xs q) p
  · have e : i = xs.length := by omega
    subst e
    exact .inl ⟨⟨xs, q, Nat.le_refl _⟩, hd H p⟩
section
variable {K : PySem.W.Frag} {H H' : Hp}
mutual
theorem dp_same (g : Same H H') : ∀ (d : PyData) (v : V), Dp K H v d → Dp K H' v d
  | .none, _, h => by
    cases h
    exact .non
  | .bool b, _, h => by
    cases h
    exact .bl b
  | .int i, _, h => by
    cases h
    exact .int i
  | .str x, _, h => by
    cases h
    exact .str x
  | .list ds, _, h => by
    cases h with
    | lst hs ha => exact .lst (g.seq hs) (dpa_same g ds _ ha)
  | .dict _, _, h => by cases h
  | .tuple ds, _, h => by
    cases h with
    | tup hs ha => exact .tup ((Gr.same g).t hs) (dpa_same g ds _ ha)
theorem dpa_same (g : Same H H') : ∀ (ds : List PyData) (vs : List V), DpAll K H vs ds → DpAll K H' vs ds
  | [], _, h => by
    cases h
    exact .nil
  | d :: ds, _, h => by
    cases h with
    | cons h1 h2 => exact .cons (dp_same g d _ h1) (dpa_same g ds _ h2)
end
end
section
variable {X : Cx}
theorem pgT_K {es : List Expr} {k : Nat} {t : TGs} {n : Nat} {pos : Pos} (K : PySem.W.Frag) (e : X.K = K) (hc : X.calm = true) (h : PGs X es t)
    (hn : (assignEach es X.env).length = n := by rfl) (hst : (assignEach es X.env).findIdx? (·.1) = none := by rfl) : PG X (.Tuple es k pos) (gTup K n t) := e ▸ pg_tup hc h hn hst
theorem sw_trueD {kx vx : Expr} {gs : List Comprehension} {scope : Scope} {pos py : Pos} {y : Str} {l : Nat} {env : Env} (hk : env.scope.kind = .function) (hy : env.scope.names.lookup y = some .local) (hl : (py.line == pos.line) = true)
    (ha : (scope.names.any fun (n, k) => n == y && (k == .local || k == .cell)) = false) : swapsWith (.DictComp kx vx gs scope pos) (some (.Name y py)) l env = pure true := by
  have ky : env.kindOf y = some .local := hy
  have hb : env.blockKind = .function := by unfold Env.blockKind; rw [hk]; rfl
  unfold swapsWith
  simp only [hb, ky, ha, Expr.pos, hl]
  rfl
/-- name = {..: .. for ..} on one line, the keys tuples -/
theorem ps_setDcT {i : Nat} {y : Str} {py : Pos} {kx vx tg iter : Expr} {ifs : List Expr} {scope : Scope} {own : List (Str × Nat)} {pos spos : Pos} {wi : TI} {g : TG} {tt : TT} {tk tv : TE} (hu : X.A.units + 1 < cLine) (hc : X.calm = true) (hN : X.N.Nodup) (hy : X.N[i]? = some y) (hyl : X.env.scope.names.lookup y = some .local)
    (hsw : swapsWith (.DictComp kx vx [⟨tg, iter, ifs, 0⟩] scope pos) (some (.Name y py)) spos.line X.env = pure true) (hi : PI X tg iter wi) (ok : BlkOk X.N X.env.scope scope own)
    (hg : ∀ (s : Shared) (H : Hp) (C : Addr) (cl : List (Str × Addr)) (fp : List Addr), PG (X.blk s H scope (compEnvC scope cl C X.env) fp) tg g) (ht : ∀ (s : Shared) (H : Hp) (C : Addr) (cl : List (Str × Addr)) (fp : List Addr), PTs (X.blk s H scope (compEnvC scope cl C X.env) fp) ifs tt)
    (hk : ∀ (s : Shared) (H : Hp) (C : Addr) (cl : List (Str × Addr)) (fp : List Addr), PE (X.blk s H scope (compEnvC scope cl C X.env) fp) kx tk)
    (he : ∀ (s : Shared) (H : Hp) (C : Addr) (cl : List (Str × Addr)) (fp : List Addr), PE (X.blk s H scope (compEnvC scope cl C X.env) fp) vx tv) (hs : ∀ x, foldedSetIterable iter X.env x = pure x := by intro _; rfl) :
    PS X (.Assign [.Name y py] (.DictComp kx vx [⟨tg, iter, ifs, 0⟩] scope pos) spos) (tAsg (tDcT wi g tt tk tv (own.map (·.2))) (gName i)) := by
  refine ⟨fun pins s σ H D I h => ?_⟩
  rw [exec_Assign_Name_used _ _ _ _ hsw]
  refine wpAny_bind (wpAny_standAt (wpAny_bind ?_))
  show wpAny _ X.A (do let _ ← comprehension (.DictComp kx vx [⟨tg, iter, ifs, 0⟩] scope pos) scope X.env (firstIterPos [⟨tg, iter, ifs, 0⟩] pos) newDict false (eval iter X.env) (some (assign (.Name y py) X.env))) _ _ s
  have h : tDcT wi g tt tk tv (own.map (·.2)) σ H (fun x H1 => gName i x σ H1 D.nx) := h
  refine wpAny_bind (thn (dcT_core (Qf := fun _ s' => SP X pins D .next s') hu hc hN I hi ok hg ht hk he hs h fun L C s' m H' I' q hn f => ?_) fun _ s' hq => wpAny_pure (wpAny_pure hq))
  show wpAny _ _ (assign (.Name y py) X.env (.ref L)) _ _ _
  refine wpAny_assign_Name (store_ok2 (v := V.ref L) I' hN hy (.inl hyl) rfl (fun s2 I2 ⟨a, sb, ha⟩ => ?_) (.inr hyl))
  obtain ⟨f0, f1, f2, f3, f4, f5⟩ := f
  have haC : C ≠ a := by
    rcases ha with z | z
    · rw [z]; exact f1
    · exact fun e => f4 y a z e.symm
  refine ⟨m, hn.sameBut sb haC, fun h3 sb3 => ?_⟩
  exact ⟨_, H', I2.turned (t' := s2.toks) (fun b o hb e => (sb3.2 b hb).trans e) f0 f1 f3 f4 f5, q⟩
end
end KB
namespace K78
open PySem PySem.Spec PyProof.Rows L2 KB RZ
abbrev slK (s : Str × Str × Int) : List Key × V := ([.inr s.1, .inr s.2.1], .int s.2.2)
/-- the rest that a slew asks for, else none -/
def gapOf (sl : List (Str × Str × Int)) (a b : Str) : Int := ((sl.find? fun s => decide (s.1 = a) && decide (s.2.1 = b)).map (·.2.2)).getD 0
theorem gap_val (a b : Str) : ∀ sl : List (Str × Str × Int), (valV (sl.map slK) [.inr a, .inr b]).getD (.int 0) = .int (gapOf sl a b)
  | [] => rfl
  | s :: sl => by
    unfold gapOf
    rw [List.map_cons, List.find?_cons]
    by_cases h : s.1 = a ∧ s.2.1 = b
    · rw [valV_pos (by show [Sum.inr s.1, Sum.inr s.2.1] = _; rw [h.1, h.2]), h.1, h.2]
      simp
    · have h2 : (decide (s.1 = a) && decide (s.2.1 = b)) = false := by
        rw [Bool.and_eq_false_iff]
        by_cases h3 : s.1 = a
        · exact .inr (decide_eq_false fun h4 => h ⟨h3, h4⟩)
        · exact .inl (decide_eq_false h3)
      rw [valV_neg (by
        intro e
        have e' : ([Sum.inr s.1, Sum.inr s.2.1] : List Key) = [.inr a, .inr b] := e
        injection e' with e1 e2
        injection e2 with e3 _
        exact h ⟨Sum.inr.inj e1, Sum.inr.inj e3⟩), h2]
      exact gap_val a b sl
theorem gap_none (a b : Str) : ∀ sl : List (Str × Str × Int), (a, b) ∉ sl.map (fun s => (s.1, s.2.1)) → valV (sl.map slK) [.inr a, .inr b] = none
  | [], _ => rfl
  | s :: sl, h => by
    rw [List.map_cons] at h
    rw [List.map_cons, valV_neg]
    · exact gap_none a b sl fun z => h (List.mem_cons_of_mem _ z)
    · intro e
      have e' : ([Sum.inr s.1, Sum.inr s.2.1] : List Key) = [.inr a, .inr b] := e
      injection e' with e1 e2
      injection e2 with e3 _
      refine h ?_
      rw [← Sum.inr.inj e1, ← Sum.inr.inj e3]
      exact List.mem_cons_self ..
def ahV : Option Nat → V
  | none => .non
  | some j => .int (j : Int)
def ahOk (zs : List Str) (i : Nat) (last : Str) (gap : Int) : Option Nat → Prop
  | none => last = ""
  | some j => j < i ∧ zs[j]? = some last ∧ last ≠ "" ∧ gap = (i : Int) - (j : Int) - 1
theorem gap_hit (a b : Str) (gap : Int) (h0 : 0 ≤ gap) : ∀ sl : List (Str × Str × Int), (sl.map fun s => (s.1, s.2.1)).Nodup → sl.any (hit a b gap) = decide (gap < gapOf sl a b)
  | [], _ => by
    unfold gapOf
    rw [List.any_nil]
    exact (decide_eq_false (by simpa using h0)).symm
  | s :: sl, hn => by
    rw [List.map_cons, List.nodup_cons] at hn
    have ih := gap_hit a b gap h0 sl hn.2
    rw [List.any_cons]
    unfold gapOf
    rw [List.find?_cons]
    by_cases h : s.1 = a ∧ s.2.1 = b
    · have hno : sl.any (hit a b gap) = false := by
        rw [List.any_eq_false]
        intro t ht hh
        unfold hit at hh
        simp only [Bool.and_eq_true, decide_eq_true_eq] at hh
        refine hn.1 (List.mem_map.mpr ⟨t, ht, ?_⟩)
        rw [hh.1.1, hh.1.2, h.1, h.2]
      rw [hno]
      unfold hit
      simp [h.1, h.2]
    · have h2 : (decide (s.1 = a) && decide (s.2.1 = b)) = false := by
        rw [Bool.and_eq_false_iff]
        by_cases h3 : s.1 = a
        · exact .inr (decide_eq_false fun h4 => h ⟨h3, h4⟩)
        · exact .inl (decide_eq_false h3)
      rw [h2]
      have h3 : hit a b gap s = false := by
        unfold hit
        rw [h2]
        rfl
      rw [h3, Bool.false_or, ih]
      rfl
theorem gap_same {sl : List (Str × Str × Int)} (h : SlewsOk sl) (a : Str) : gapOf sl a a = 0 := by
  unfold gapOf
  rw [List.find?_eq_none.mpr fun s hs => by
    intro e
    simp only [Bool.and_eq_true, decide_eq_true_eq] at e
    exact h.ne s hs (by rw [e.1, e.2])]
  rfl
theorem keeps_step {sl : List (Str × Str × Int)} (h : SlewsOk sl) {last z : Str} {gap : Int} {zs : List Str} (h0 : 0 ≤ gap) (hl : last ≠ "") (hz : z ≠ "") :
    keepsA sl last gap (z :: zs) = if gap < gapOf sl last z then false else keepsA sl z 0 zs := by
  have e := gap_hit last z gap h0 sl h.nd
  rw [keepsA, if_neg hz]
  by_cases hg : gap < gapOf sl last z
  · have hne : last ≠ z := fun e => by
      rw [e, gap_same h] at hg
      omega
    have hany : (sl.any (hit last z gap)) = true := by
      rw [e]
      exact decide_eq_true hg
    rw [if_pos hg]
    exact if_pos ⟨hl, hne, hany⟩
  · rw [if_neg hg, if_neg]
    rintro ⟨_, _, h3⟩
    have h4 : (sl.any (hit last z gap)) = true := h3
    rw [e] at h4
    exact hg (of_decide_eq_true h4)
section
variable {P : Program} {w : World} {K : PySem.W.Frag} {mg : Str → Option Value} {base : Heap}
def spCourse (K : PySem.W.Frag) : Sp := fun vs H Q _ => ∃ (r : Addr) (t : V) (n : Nt) (d : PyData), vs = [.ref r, t] ∧ NtAt K H r n ∧ n.ups.length ≤ 40 ∧ SlewsOk n.sl ∧ Dp K H t d ∧ ∀ H', Same H H' → Q (.bl (due n d)) H'
theorem c_is_course (D : Dn K mg "is_course" s_is_course) (B : Bl mg) : Cal P w K mg base 1 "is_course" (spCourse K) := by
  refine cal_of D sc_is_course (fun vs H Q E h => ?_) (fun _ _ _ _ _ _ us hl => match us, hl with | [_, _], _ => rfl) (fun f cdv A outer s H vs Q E hr h => ?_)
  · obtain ⟨r, t, n, d, rfl, _⟩ := h
    rfl
  · obtain ⟨r, t, n, d, rfl, hn, h40, slok, hd, q⟩ := h
    obtain ⟨a0, a2, a3, a4, a5, a6, a7, a8, a9, sq, t0, t2, t3, t4, t5, t6, t7, t8, t9⟩ := hn.ex
    obtain ⟨ua, us, eua, hus, htu⟩ := t6.tup_of
    cases eua
    obtain ⟨sa, sx, esa, hsa, hts⟩ := t7.tup_of
    cases esa
    have lus : us.length = n.ups.length := by rw [htu.len, List.length_map]
    have lsx : sx.length = n.sl.length := by rw [hts.len, List.length_map]
    refine ⟨_, (pss_cons (ps_par (i := 2) (j := 3) rfl sc_is_course.nd rfl rfl (by decide) rfl rfl (pa_cons (pe_ix ix_tup (pv 0) pe_int (fun _ _ => rfl)) (pa_cons (pe_ix ix_tup (pv 0) pe_int (fun _ _ => rfl)) pa_nil)) rfl)
      (pss_cons (ps_if (PW.pt (pw_or (pt_not (pt_val (pe_callB call_is_tuple (by rfl) B.isinstance bt_isinstance (pa_cons (pv 1) (pa_cons (pe_bltn (v := .ty "tuple") (by rfl) B.tuple bt_tuple rfl) pa_nil))))) (pw_or1 (pt_cmpR op_ne (pe_callB call_len_seq (by rfl) B.len bt_len (pa_cons (pv 1) pa_nil)) (pe_callB call_len_seq (by rfl) B.len bt_len (pa_cons (pv 2) pa_nil)) (nomark _))))) 
        (pss_one (ps_ret pe_bl)) pss_nil)
      (pss_cons (ps_for PassesOwn.never rfl (pi_zipA (by rfl) B.zip (pa_cons (pv 1) (pa_cons (pv 2) pa_nil))) (pg_tup rfl (pgs_cons (pg_name (i := 4) sc_is_course.nd rfl (.inl rfl)) (pgs_cons (pg_name (i := 5) sc_is_course.nd rfl (.inl rfl)) pgs_nil))) 
        (pss_one (ps_if (PW.pt (pw_or (pt_not (pt_val (pe_callB call_is_str (by rfl) B.isinstance bt_isinstance (pa_cons (pv 4) (pa_cons (pe_bltn (v := .ty "str") (by rfl) B.str bt_str rfl) pa_nil))))) (pw_or1 (PW.pt (pw_and (pt_cmpR op_ne (pv 4) pe_str (nomark _)) (pw_and1 (pt_cmpR op_notIn_seq (pv 4) (pv 5) rfl))))))) 
          (pss_one (ps_ret pe_bl)) pss_nil)))
      (pss_cons (ps_setDcT (i := 6) (own := [("one", 9), ("other", 10), ("gap", 11)]) (hu_of hr) (by rfl) sc_is_course.nd rfl rfl (sw_trueD rfl rfl rfl (by decide +kernel)) (pi_tup (pv 3)) (blkOk_by (N := n_is_course) (sc := defScope s_is_course) (by decide +kernel)) (fun _ _ _ _ _ => (pgT_K (n := 3) K rfl rfl (pgs_cons (pg_name (i := 9) sc_is_course.nd rfl (.inl rfl) (.inr rfl)) (pgs_cons (pg_name (i := 10) sc_is_course.nd rfl (.inl rfl) (.inr rfl)) (pgs_cons (pg_name (i := 11) sc_is_course.nd rfl (.inl rfl) (.inr rfl)) pgs_nil))))) (fun _ _ _ _ _ => pts_nil) (fun _ _ _ _ _ => (pe_tup (pa_cons (pv 9) (pa_cons (pv 10) pa_nil)))) (fun _ _ _ _ _ => (pv 11)))
      (pss_cons (ps_set (i := 7) sc_is_course.nd rfl (.inl rfl) pe_non)
      (pss_cons (ps_for PassesOwn.never rfl (pi_enumT (by rfl) B.enumerate (pa_cons (pv 1) pa_nil)) (pg_tup rfl (pgs_cons (pg_name (i := 8) sc_is_course.nd rfl (.inl rfl)) (pgs_cons (pg_name (i := 4) sc_is_course.nd rfl (.inl rfl)) pgs_nil))) 
        (pss_one (ps_if (pt_cmpR op_ne (pv 4) pe_str (nomark _)) 
          (pss_cons (ps_if (PW.pt (pw_and (pt_cmpR op_notN (pv 7) pe_non (nomark _)) (pw_and1 (pt_cmpR op_lt (pe_op op_sub (pe_op op_sub (pv 8) (pv 7)) pe_int) (pe_dget2 (hu_of hr) (pv 6) (pe_tup (pa_cons (pe_ix ix_tup (pv 1) (pv 7) (fun _ _ => rfl)) (pa_cons (pv 4) pa_nil))) pe_int ⟨by rfl, by rfl, by rfl, by rfl⟩) (nomark _))))) 
            (pss_one (ps_ret pe_bl)) pss_nil)
          (pss_one (ps_set (i := 7) sc_is_course.nd rfl (.inl rfl) (pv 8)))) pss_nil)))
      (pss_one (ps_ret pe_bl)))))))), ?_⟩
    refine ⟨_, rfl, r, _, 6, _, rfl, rfl, sq, atI_nat (j := 6) rfl, _, rfl, r, _, 7, _, rfl, rfl, sq, atI_nat (j := 7) rfl, _, _, rfl, ?_⟩
    refine nx_i ?_
    refine tSeq_i ?_
    cases htup : d.isTuple with
    | false =>
      have e : due n d = false := by
        cases d with
        | tuple ds => simp [PyData.isTuple] at htup
        | _ => rfl
      rw [e] at q
      refine st_if (b := true || false) (aOr (a := true) (b := false) (fun Q q => ?_) (fun h => absurd h (by decide))) (fun _ => ?_) (fun h => absurd h (by decide))
      · refine ⟨_, rfl, _, d, rfl, hd, _, rfl, ?_⟩
        rw [htup]
        exact q
      · exact q H (Same.refl H)
    | true =>
      obtain ⟨ta, xs, ds, rfl, rfl, hta, hdp⟩ := dp_tup hd htup
      have lxs : xs.length = ds.length := dpa_len hdp
      refine st_if (b := false || !decide (V.int xs.length = V.int us.length)) (aOr (a := false) (fun Q q => ?_) (fun _ Q q => ?_)) (fun hb => ?_) (fun hb => ?_)
      · exact ⟨_, rfl, _, .tuple ds, rfl, hd, _, rfl, q⟩
      · exact ⟨_, rfl, ta, xs, rfl, .inr hta, _, rfl, _, us, rfl, .inr hus, rfl, _, rfl, q⟩
      · have hne : ds.length ≠ n.ups.length := fun e => by
          rw [lxs, lus, e] at hb
          simp at hb
        rw [due_none (okTh_len hne)] at q
        exact q H (Same.refl H)
      have hlen : xs.length = us.length := by
        have hb' : (V.int xs.length = V.int us.length) := by simpa using hb
        have := V.int.inj hb'
        omega
      refine ⟨_, rfl, _, rfl, ta, a6, xs, us, rfl, .inr ⟨hta, hus, ?_⟩⟩
      refine for_zipT (K := K) (a := ta) (b := a6) hlen (fun i σ H3 => ∃ y4 y5 zs, σ = [some (.ref r), some (.ref ta), some (.ref a6), some (.ref a7), y4, y5, none, none, none, none, none, none] ∧ Same H H3 ∧ RowIn (n.ups.take i) zs ∧ ds.take i = zs.map PyData.str)
        ⟨_, _, [], rfl, Same.refl H, .nil, rfl⟩ (fun i σ H3 h3 => let ⟨_, _, _, _, s3, _⟩ := h3; ⟨(Gr.same s3).t hta, (Gr.same s3).t hus⟩) (fun i x y T σ H3 hx hy h3 nT => ?_) (fun σ H3 h3 => ?_)
      · obtain ⟨y4, y5, zs, rfl, s3, hrow, htake⟩ := h3
        obtain ⟨dx, hdx, hdpx⟩ := dpa_at hdp hx
        obtain ⟨u, hu, htpu⟩ := htu.atF hy
        obtain ⟨up, rfl, hup⟩ := htpu.strs_of
        have g4 := same_new (o := .tup [x, .ref up]) nT
        have s4 := s3.trans g4
        have hup4 := (Gr.same s4).t hup
        have hdpx4 : Dp K (upd H3 T (.tup [x, .ref up])) x dx := dp_same s4 _ _ hdpx
        refine ⟨T, _, rfl, .of upd_same, rfl, x, _, rfl, _, _, rfl, rfl, ?_⟩
        generalize upd H3 T (.tup [x, .ref up]) = H4 at s4 hup4 hdpx4
        have bad : (∀ z, dx = .str z → ¬ (z = "" ∨ z ∈ u)) → Q (.bl false) H4 := fun hno => by
          rw [due_none (okTh_none hu hdx hno)] at q
          exact q H4 s4
        cases hs : dx.isStr with
        | false =>
          refine st_if (b := true || false) (aOr (a := true) (b := false) (fun Q q => ?_) (fun h => absurd h (by decide))) (fun _ => ?_) (fun h => absurd h (by decide))
          · refine ⟨_, rfl, x, dx, rfl, hdpx4, _, rfl, ?_⟩
            rw [hs]
            exact q
          · refine bad fun z e => ?_
            rw [e] at hs
            simp [PyData.isStr] at hs
        | true =>
          obtain ⟨z, rfl, rfl⟩ := dp_str hdpx4 hs
          refine st_if (b := false || (!decide (V.str z = V.str "") && !inV (.str z) (u.map V.str))) (aOr (a := false) (fun Q q => ?_) (fun _ => aAnd (fun Q q => ?_) (fun _ Q q => ?_))) (fun hb => ?_) (fun hb => ?_)
          · exact ⟨_, rfl, _, _, rfl, hdpx4, _, rfl, q⟩
          · exact ⟨_, rfl, rfl, _, rfl, q⟩
          · exact ⟨_, rfl, _, rfl, up, _, rfl, .inr hup4, rfl, flat_strs u, _, rfl, q⟩
          · rw [decS, inV_strs] at hb
            refine bad fun z' e => ?_
            cases e
            simpa using hb
          · rw [decS, inV_strs] at hb
            have hz : z = "" ∨ z ∈ u := by
              by_cases h1 : z = ""
              · exact .inl h1
              · simp [h1] at hb
                exact .inr hb
            refine ⟨_, _, zs ++ [z], rfl, s4, ?_, ?_⟩
            · rw [take_next hu]
              exact hrow.snoc hz
            · rw [take_next hdx, htake, List.map_append]
              rfl
      · obtain ⟨y4, y5, zs, rfl, s3, hrow, htake⟩ := h3
        rw [lxs, List.take_length] at htake
        rw [hlen, lus, List.take_length] at hrow
        subst htake
        have exs := dpa_strs hdp
        subst exs
        rw [due_some (okTh_some hrow)] at q
        have hta3 := (Gr.same s3).t hta
        have hsa3 := (Gr.same s3).t hsa
        have hts3 := hts.up (Gr.same s3)
        have lzs : zs.length ≤ 40 := by
          have := hrow.len
          omega
        refine ⟨_, rfl, a7, rfl, ⟨_, hsa3⟩, fun d' nd => ?_⟩
        refine dcT_tup (K := K) (a := a7) (xs := sx) (fun k H' => Same H3 H' ∧ H' d' = some (.dT ((n.sl.take k).map slK))) ⟨same_new nd, upd_same⟩ (fun k H' _ p => (Gr.same p.1).t hsa3) (fun k x H' hx p => ?_) (fun H' p => ?_)
        · obtain ⟨p1, p2⟩ := p
          obtain ⟨sk, hsk, htk⟩ := (hts3.up (Gr.same p1)).atF hx
          obtain ⟨ka, x0, x1, x2, rfl, hka, t0', t1', t2'⟩ := tup3 htk
          cases t0'.str_of
          cases t1'.str_of
          cases t2'.int_of
          have hk := (List.getElem?_eq_some_iff.mp hsk).1
          have h14 := slok.few
          refine ⟨ka, _, rfl, hka, rfl, _, _, rfl, _, _, rfl, _, _, rfl, rfl, ?_⟩
          refine ⟨rfl, tYes_i ?_⟩
          refine ⟨_, rfl, _, rfl, by show 2 ≤ sizeLine; decide, fun t nt => ?_⟩
          have g := same_new (o := .tup [.str sk.1, .str sk.2.1]) nt
          refine ⟨_, rfl, (n.sl.take k).map slK, [.inr sk.1, .inr sk.2.1], t, rfl, upd_same, g _ _ p2, ?_, ?_⟩
          · rw [List.length_map, List.length_take]
            exact small1000 (by omega)
          · refine ⟨smut (p1.trans g) nd, ?_⟩
            rw [upd_same, putK_new _ ?_, take_next hsk, List.map_append]
            · rfl
            · refine gap_none _ _ _ fun hm => ?_
              have hnd := slok.nd
              have hsub : ((n.sl.take (k + 1)).map fun s => (s.1, s.2.1)).Nodup := hnd.sublist ((List.take_sublist _ _).map _)
              rw [take_next hsk, List.map_append, List.nodup_append] at hsub
              exact hsub.2.2 _ hm _ (List.mem_singleton.mpr rfl) rfl
        · obtain ⟨p1, p2⟩ := p
          rw [lsx, List.take_length] at p2
          have hta5 := (Gr.same p1).t hta3
          have s5 := s3.trans p1
          refine ⟨_, rfl, ta, _, rfl, hta5, ?_⟩
          refine for_enumT (K := K) (a := ta) (xs := zs.map V.str) (fun i σ H6 => ∃ y4 y8 ah last gap, σ = [some (.ref r), some (.ref ta), some (.ref a6), some (.ref a7), y4, y5, some (.ref d'), some (ahV ah), y8, none, none, none] ∧ Same H' H6 ∧ 0 ≤ gap ∧ keepsA n.sl last gap (zs.drop i) = keeps n.sl zs ∧ ahOk zs i last gap ah)
            ⟨_, _, none, "", 0, rfl, Same.refl H', Int.le_refl 0, rfl, rfl⟩ (fun i σ H6 h6 => let ⟨_, _, _, _, _, _, s6, _⟩ := h6; (Gr.same s6).t hta5) (fun i x T σ H6 hx h6 nT => ?_) (fun σ H6 h6 => ?_)
          · obtain ⟨y4, y8, ah, last, gap, rfl, s6, g0, hk, hah⟩ := h6
            obtain ⟨z, hz, rfl, hi⟩ := map_at_inv hx
            have hd : zs.drop i = z :: zs.drop (i + 1) := by
              rw [List.drop_eq_getElem_cons hi, (List.getElem?_eq_some_iff.mp hz).2]
            rw [hd] at hk
            have s7 := s6.trans (same_new (o := .tup [.int (i : Nat), .str z]) nT)
            refine ⟨T, _, rfl, .of upd_same, rfl, _, _, rfl, _, _, rfl, rfl, ?_⟩
            generalize upd H6 T (.tup [.int (i : Nat), .str z]) = H7 at s7
            refine ⟨_, rfl, rfl, _, rfl, ite2 (fun e => ?_) (fun e => ?_)⟩
            · rw [decS] at e
              have ez : z ≠ "" := by simpa using e
              cases ah with
              | none =>
                have hl : last = "" := hah
                rw [hl, keepsA, if_neg ez, if_neg (fun h => h.1 rfl)] at hk
                refine ⟨_, rfl, rfl, _, rfl, iteF (iteF ?_)⟩
                exact ⟨_, rfl, _, _, some i, z, 0, rfl, s7, Int.le_refl 0, hk, Nat.lt_succ_self i, hz, ez, by omega⟩
              | some j =>
                obtain ⟨hj, hzj, hl, hg⟩ := hah
                rw [keeps_step slok g0 hl ez] at hk
                refine ⟨_, rfl, rfl, _, rfl, iteT ?_⟩
                refine ⟨_, rfl, _, rfl, _, _, rfl, rfl, _, _, rfl, rfl, _, rfl, d', rfl, .inr ⟨_, .inl (s7 _ _ p2)⟩, ?_⟩
                refine ⟨_, rfl, _, rfl, ta, _, _, _, rfl, rfl, (Gr.same s7).t hta5, at_of (j := j) rfl (map_at V.str hzj), _, rfl, by show 2 ≤ sizeLine; decide, fun t nt => ?_⟩
                have g8 := same_new (o := .tup [.str last, .str z]) nt
                have et : (upd H7 t (.tup [.str last, .str z])) t = some (.tup ((([.inr last, .inr z] : List Key)).map kV)) := upd_same
                generalize upd H7 t (.tup [.str last, .str z]) = H8 at g8 et
                have s8 := s7.trans g8
                refine ⟨_, DGet.t (s8 _ _ p2) et, ?_⟩
                rw [gap_val]
                refine ⟨_, _, rfl, rfl, _, rfl, ?_⟩
                have eg : ((i : Nat) : Int) - (j : Int) - 1 = gap := by omega
                refine ite2 (fun hb => ?_) (fun hb => ?_)
                · have hb' : ((i : Nat) : Int) - (j : Int) - 1 < gapOf n.sl last z := of_decide_eq_true hb
                  rw [eg] at hb'
                  rw [if_pos hb'] at hk
                  show Q (.bl false) H8
                  rw [hk]
                  exact q H8 (s5.trans s8)
                · have hb' : ¬ ((i : Nat) : Int) - (j : Int) - 1 < gapOf n.sl last z := fun h => hb (decide_eq_true h)
                  rw [eg] at hb'
                  rw [if_neg hb'] at hk
                  exact ⟨_, rfl, _, _, some i, z, 0, rfl, s8, Int.le_refl 0, hk, Nat.lt_succ_self i, hz, ez, by omega⟩
            · rw [decS] at e
              have ez : z = "" := by simpa using e
              rw [keepsA, if_pos ez] at hk
              refine ⟨_, _, ah, last, gap + 1, rfl, s7, by omega, hk, ?_⟩
              cases ah with
              | none => exact hah
              | some j =>
                obtain ⟨hj, hzj, hl, hg⟩ := hah
                exact ⟨by omega, hzj, hl, by omega⟩
          · obtain ⟨y4, y8, ah, last, gap, rfl, s6, g0, hk, hah⟩ := h6
            rw [List.length_map, List.drop_length, keepsA] at hk
            show Q (.bl true) H6
            rw [hk]
            exact q H6 (s5.trans s6)
end
end K78
set_option Elab.async false
set_option linter.all false
set_option maxRecDepth 100000
set_option maxHeartbeats 4000000
namespace KB
open PySem PySem.Spec PyProof.Rows L2
theorem loop_list {K : PySem.W.Frag} {a : Addr} {xs : List V} {H1 : Hp} {Qd : Hp → Prop} {F : V → Hp → (Hp → Prop) → Prop} (Pv : Nat → Hp → Prop) (h0 : Pv 0 H1) (hl : ∀ i H, i ≤ xs.length → Pv i H → SqL K H a xs)
    (hs : ∀ i x H, xs[i]? = some x → Pv i H → F x H (Pv (i + 1))) (hd : ∀ H, Pv xs.length H → Qd H) :
    ∃ W : Nat → Nat → Hp → Prop, (∃ m, W 0 m H1) ∧ ∀ i m H, W i m H →
      ((Itl K a).stop i H ∧ Qd H) ∨ ((Itl K a).go i H ∧ ∃ Nx : Hp → Prop, (∀ H', Nx H' → ∃ m', m' < m ∧ W (i + 1) m' H') ∧ ∀ x H', (Itl K a).yld i H x H' → F x H' Nx) := by
  refine ⟨fun i m H => m = xs.length - i ∧ i ≤ xs.length ∧ Pv i H, ⟨xs.length, by simp, Nat.zero_le _, h0⟩, ?_⟩
  rintro i m H ⟨rfl, hi, p⟩
  have q := hl i H hi p
  by_cases hlt : i < xs.length
  · refine .inr ⟨⟨xs, xs[i], q, by simp [hlt]⟩, Pv (i + 1), fun H' p' => ⟨xs.length - (i + 1), by omega, rfl, hlt, p'⟩, fun x H' y => ?_⟩
    obtain ⟨e, y⟩ := y
    subst e
    exact hs i x _ (y xs q) p
  · have e : i = xs.length := by omega
    subst e
    exact .inl ⟨⟨xs, q, Nat.le_refl _⟩, hd H p⟩
theorem loop_tup {K : PySem.W.Frag} {a : Addr} {xs : List V} {H1 : Hp} {Qd : Hp → Prop} {F : V → Hp → (Hp → Prop) → Prop} (Pv : Nat → Hp → Prop) (h0 : Pv 0 H1) (hl : ∀ i H, i ≤ xs.length → Pv i H → SqT K H a xs)
    (hs : ∀ i x H, xs[i]? = some x → Pv i H → F x H (Pv (i + 1))) (hd : ∀ H, Pv xs.length H → Qd H) :
    ∃ W : Nat → Nat → Hp → Prop, (∃ m, W 0 m H1) ∧ ∀ i m H, W i m H →
      ((Itt K a).stop i H ∧ Qd H) ∨ ((Itt K a).go i H ∧ ∃ Nx : Hp → Prop, (∀ H', Nx H' → ∃ m', m' < m ∧ W (i + 1) m' H') ∧ ∀ x H', (Itt K a).yld i H x H' → F x H' Nx) := by
  refine ⟨fun i m H => m = xs.length - i ∧ i ≤ xs.length ∧ Pv i H, ⟨xs.length, by simp, Nat.zero_le _, h0⟩, ?_⟩
  rintro i m H ⟨rfl, hi, p⟩
  have q := hl i H hi p
  by_cases hlt : i < xs.length
  · refine .inr ⟨⟨xs, xs[i], q, by simp [hlt]⟩, Pv (i + 1), fun H' p' => ⟨xs.length - (i + 1), by omega, rfl, hlt, p'⟩, fun x H' y => ?_⟩
    obtain ⟨e, y⟩ := y
    subst e
    exact hs i x _ (y xs q) p
  · have e : i = xs.length := by omega
    subst e
    exact .inl ⟨⟨xs, q, Nat.le_refl _⟩, hd H p⟩
end KB
namespace K78
open PySem PySem.Spec PyProof.Rows L2 KB RZ
theorem NtAt.up {K : PySem.W.Frag} {H H' : Hp} {r : Addr} {n : Nt} (h : NtAt K H r n) (e : Same H H') : NtAt K H' r n := by
  obtain ⟨a0, a2, a3, a4, a5, a6, a7, a8, a9, sq, t0, t2, t3, t4, t5, t6, t7, ⟨o, xs, e8, oc, od, t8⟩, t9⟩ := h.ex
  have g := Gr.same e
  exact ⟨a0, a2, a3, a4, a5, a6, a7, a8, a9, g.t sq, t0.up g, t2.up g, t3.up g, t4.up g, t5.up g, t6.up g, t7.up g, ⟨o, xs, e _ _ e8, oc, od, t8.up g⟩, t9.up g⟩
theorem due_row {n : Nt} {r : List Str} (h : RowIn n.ups r) : due n (strsD r) = keeps n.sl r := due_some (okTh_some h)
structure Ca7 (P : Program) (w : World) (K : PySem.W.Frag) (mg : Str → Option Value) (base : Heap) : Prop where
  is_course : Cal P w K mg base 1 "is_course" (spCourse K)
section
variable {P : Program} {w : World} {K : PySem.W.Frag} {mg : Str → Option Value} {base : Heap}
def spCoursesOf (K : PySem.W.Frag) : Sp := fun vs H Q _ => ∃ (r : Addr) (n : Nt), vs = [.ref r] ∧ NtAt K H r n ∧ UpsOk n.ups ∧ SlewsOk n.sl ∧ ∀ v H', Same H H' → Tp K H' v (.tuple (((choicesOf n.ups).filter fun c => keeps n.sl c).map strsD)) → Q v H'
theorem c_courses_of (D : Dn K mg "courses_of" s_courses_of) (B : Bl mg) (C : Ca7 P w K mg base) : Cal P w K mg base 2 "courses_of" (spCoursesOf K) := by
  refine cal_of D sc_courses_of (fun vs H Q E h => ?_) (fun _ _ _ _ _ _ us hl => match us, hl with | [_], _ => rfl) (fun f cdv A outer s H vs Q E hr h => ?_)
  · obtain ⟨r, n, rfl, _⟩ := h
    rfl
  · obtain ⟨r, n, rfl, hn, hok, slok, q⟩ := h
    obtain ⟨a0, a2, a3, a4, a5, a6, a7, a8, a9, sq, t0, t2, t3, t4, t5, t6, t7, t8, t9⟩ := hn.ex
    obtain ⟨ua, us, eua, hus, htu⟩ := t6.tup_of
    cases eua
    have lus : us.length = n.ups.length := by rw [htu.len, List.length_map]
    refine ⟨_, (pss_cons (ps_set (i := 1) sc_courses_of.nd rfl (.inl rfl) (pe_lst (pa_cons (pe_tup pa_nil) pa_nil)))
      (pss_cons (ps_for PassesOwn.never rfl (pi_tup (pe_ix ix_tup (pv 0) pe_int (fun _ _ => rfl))) (pg_name (i := 2) sc_courses_of.nd rfl (.inr rfl)) 
        (pss_one (ps_setLc2 (i := 1) (vs1 := [4]) (own := [("course", 3), ("patch", 4)]) (by rfl) sc_courses_of.nd rfl rfl (sw_true rfl rfl rfl (by decide +kernel)) (pi_list (pv 1)) (blkOk_by (N := n_courses_of) (sc := defScope s_courses_of) (by decide +kernel)) (by decide) (fun _ _ _ _ _ => (pg_name (i := 3) sc_courses_of.nd rfl (.inl rfl))) (fun _ _ _ _ _ => pts_nil) (fun _ _ _ _ _ => (tupK K rfl (pe_op (catAK K rfl) (pe_tup (pa_cons pe_str pa_nil)) (pv 2)))) (fun _ _ _ _ _ => (pg_name (i := 4) sc_courses_of.nd rfl (.inl rfl))) (fun _ _ _ _ _ => pts_nil) (fun _ _ _ _ _ => (pe_op (catAK K rfl) (pv 3) (pe_tup (pa_cons (pv 4) pa_nil)))))))
      (pss_one (ps_ret (pe_callTy call_tuple_of (by rfl) B.tuple bt_tuple (pa_cons (pe_lc (own := [("course", 3)]) (by rfl) sc_courses_of.nd (pi_list (pv 1)) (blkOk_by (N := n_courses_of) (sc := defScope s_courses_of) (by decide +kernel)) (fun _ _ _ _ _ => (pg_name (i := 3) sc_courses_of.nd rfl (.inl rfl))) (fun _ _ _ _ _ => (pts_one (pt_val (pe_c C.is_course hr (by decide) rfl (pa_cons (pv 0) (pa_cons (pv 3) pa_nil)))))) (fun _ _ _ _ _ => (pv 3))) pa_nil)))))), ?_⟩
    refine ⟨by show 0 ≤ sizeLine; decide, fun e ne => ⟨by show 1 ≤ sizeLine; decide, fun p np => ?_⟩⟩
    have s0 := (same_new (o := .tup []) ne).trans (same_new (o := .lst [.ref e]) np)
    have te : Tp K (upd (upd H e (.tup [])) p (.lst [.ref e])) (.ref e) (strsD []) := Tp.up (.tup (.of upd_same) .nil) (Gr.new np)
    have ep : (upd (upd H e (.tup [])) p (.lst [.ref e])) p = some (.lst [.ref e]) := upd_same
    generalize upd (upd H e (.tup [])) p (.lst [.ref e]) = H0 at s0 te ep
    have hchk : ∀ i, ((n.ups.take i).foldl stepC [[]]).length ≤ 128 := fun i => by
      have h1 := choices_len (n.ups.take i)
      rw [choicesOf] at h1
      rw [h1, List.map_take]
      exact Nat.le_trans (prods_take _ _) hok.prod
    have h40 := hok.most
    refine ⟨_, rfl, r, _, 6, _, rfl, rfl, (Gr.same s0).t sq, atI_nat (j := 6) rfl, a6, rfl, ⟨_, (Gr.same s0).t hus⟩, ?_⟩
    refine for_tup (K := K) (a := a6) (xs := us) (fun i σ H3 => ∃ la y2 xs, σ = [some (.ref r), some (.ref la), y2, none, none] ∧ Same H H3 ∧ H3 la = some (.lst xs) ∧ TpAll K H3 xs (((n.ups.take i).foldl stepC [[]]).map strsD))
      ⟨p, _, [.ref e], rfl, s0, ep, .one te⟩ (fun i σ H3 _ h3 => let ⟨_, _, _, _, h, _⟩ := h3; (Gr.same h).t hus) (fun i x σ H3 hx h3 => ?_) (fun σ H3 h3 => ?_)
    · obtain ⟨la, y2, xs, rfl, s3, el, ht⟩ := h3
      obtain ⟨u, hu, htp⟩ := (htu.up (Gr.same s3)).atF hx
      obtain ⟨na, rfl, hsq⟩ := htp.strs_of
      have hi := (List.getElem?_eq_some_iff.mp hu).1
      have hB : ((n.ups.take i).foldl stepC [[]]).length * (1 + u.length) ≤ 128 := by
        have := hchk (i + 1)
        rw [take_next hu, List.foldl_append, List.foldl_cons, List.foldl_nil, stepC_len] at this
        exact this
      have hrl : ∀ r ∈ (n.ups.take i).foldl stepC [[]], r.length ≤ 40 := fun r hr => by
        have h1 := (choices_in (ups := n.ups.take i) hr).len
        rw [List.length_take] at h1
        omega
      have hst : (n.ups.take (i + 1)).foldl stepC [[]] = stepC ((n.ups.take i).foldl stepC [[]]) u := by rw [take_next hu, List.foldl_append, List.foldl_cons, List.foldl_nil]
      rw [hst]
      generalize hR : (n.ups.take i).foldl stepC [[]] = R at ht hB hrl
      have lxs : xs.length = R.length := by rw [ht.len, List.length_map]
      have hu31 := hok.small u (List.mem_of_getElem? hu)
      refine ⟨_, rfl, la, rfl, ⟨_, .of el⟩, fun D nD => ?_⟩
      refine loop_list (K := K) (a := la) (xs := xs) (fun j H5 => ∃ ys, Same H3 H5 ∧ H5 D = some (.lst ys) ∧ TpAll K H5 ys ((stepC (R.take j) u).map strsD))
        ⟨[], same_new nD, upd_same, .nil⟩ (fun j H5 _ h5 => let ⟨_, s, _⟩ := h5; .of (s _ _ el)) (fun j x H5 hx h5 => ?_) (fun H5 h5 => ?_)
      · obtain ⟨ys, s5, eD, hty⟩ := h5
        obtain ⟨r', hr', htr⟩ := ht.atF hx
        obtain ⟨ra, rfl, hra⟩ := htr.strs_of
        have hrl40 := hrl r' (List.mem_of_getElem? hr')
        have hjR := (List.getElem?_eq_some_iff.mp hr').1
        have lys : ys.length = j * (1 + u.length) := by
          rw [hty.len, List.length_map, stepC_len, List.length_take, Nat.min_eq_left (by omega)]
        have hj1 : (j + 1) * (1 + u.length) ≤ 128 := Nat.le_trans (Nat.mul_le_mul_right _ hjR) hB
        rw [Nat.succ_mul] at hj1
        rw [take_next hr', stepC_snoc]
        refine ⟨rfl, tYes_i ?_⟩
        refine ⟨by show 1 ≤ sizeLine; decide, fun t1 nt1 => ⟨_, rfl, ?_⟩⟩
        have g6 := same_new (o := .tup [.str ""]) nt1
        have et1 : SqT K (upd H5 t1 (.tup [.str ""])) t1 (([("" : Str)] : List Str).map V.str) := .of upd_same
        generalize upd H5 t1 (.tup [.str ""]) = H6 at g6 et1
        refine cat_strs et1 ((Gr.same g6).t ((Gr.same s5).t hsq)) (by show 1 + u.length ≤ 1000; omega) fun c H7 g67 hc => ?_
        have g7 := g6.trans g67
        refine ⟨c, rfl, ⟨_, hc⟩, ?_⟩
        refine loop_tup (K := K) (a := c) (xs := ([("" : Str)] ++ u).map V.str) (fun k H9 => ∃ zs, Same H3 H9 ∧ SqT K H9 c (([("" : Str)] ++ u).map V.str) ∧ H9 D = some (.lst zs) ∧ TpAll K H9 zs ((stepC (R.take j) u ++ ((("" : Str) :: u).take k).map fun n => r' ++ [n]).map strsD))
          ⟨ys, s5.trans g7, hc, g7 _ _ eD, by
            rw [List.take_zero, List.map_nil, List.append_nil]
            exact hty.up (Gr.same g7)⟩ (fun k H9 _ h9 => let ⟨_, _, h, _⟩ := h9; h) (fun k x H9 hx h9 => ?_) (fun H9 h9 => ?_)
        · obtain ⟨zs, s9, hc9, eD9, htz⟩ := h9
          obtain ⟨z, hz, rfl, hk⟩ := map_at_inv hx
          have hz' : (("" : Str) :: u)[k]? = some z := hz
          have hk' : k < u.length + 1 := by simpa using hk
          have lzs : zs.length = j * (1 + u.length) + k := by
            rw [htz.len, List.length_map, List.length_append, stepC_len, List.length_take, Nat.min_eq_left (by omega), List.length_map, List.length_take, List.length_cons, Nat.min_eq_left (by omega)]
          have hra9 := (Gr.same s9).t hra
          refine ⟨rfl, tYes_i ?_⟩
          refine ⟨_, rfl, _, rfl, by show 1 ≤ sizeLine; decide, fun t2 nt2 => ?_⟩
          have g6 := same_new (o := .tup [.str z]) nt2
          have et2 : SqT K (upd H9 t2 (.tup [.str z])) t2 (([z] : List Str).map V.str) := .of upd_same
          generalize upd H9 t2 (.tup [.str z]) = H10 at g6 et2
          refine cat_strs ((Gr.same g6).t hra9) et2 (by show r'.length + 1 ≤ 1000; omega) fun c2 H11 g67 hc2 => ?_
          have g8 := g6.trans g67
          have eD11 := g8 _ _ eD9
          refine ⟨zs, eD11, small1000 (by omega), zs ++ [.ref c2], smut (s9.trans g8) nD, (Gr.lst eD11).t ((Gr.same g8).t hc9), upd_same, ?_⟩
          rw [take_next hz', List.map_append (l₁ := (("" : Str) :: u).take k), ← List.append_assoc, List.map_append]
          exact ((htz.up (Gr.same g8)).app (.one (Tp.strs hc2))).up (Gr.lst eD11)
        · obtain ⟨zs, s9, hc9, eD9, htz⟩ := h9
          have e : (("" : Str) :: u).take (([("" : Str)] ++ u).map V.str).length = ("" : Str) :: u := by
            rw [List.length_map]
            exact List.take_length (l := ("" : Str) :: u)
          rw [e] at htz
          exact ⟨zs, s9, eD9, htz⟩
      · obtain ⟨ys, s5, eD, hty⟩ := h5
        rw [lxs, List.take_length] at hty
        exact ⟨_, _, ys, rfl, s3.trans s5, eD, hty⟩
    · obtain ⟨la, y2, xs, rfl, s3, el, ht⟩ := h3
      rw [lus, List.take_length] at ht
      have ht : TpAll K H3 xs ((choicesOf n.ups).map strsD) := ht
      have lxs : xs.length = (choicesOf n.ups).length := by rw [ht.len, List.length_map]
      have lch : (choicesOf n.ups).length ≤ 128 := by
        rw [choices_len]
        exact hok.prod
      refine ⟨_, rfl, la, rfl, ⟨_, .of el⟩, fun D nD => ?_⟩
      refine lc_list (K := K) (a := la) (xs := xs) (fun j H5 => ∃ ys, Same H3 H5 ∧ H5 D = some (.lst ys) ∧ TpAll K H5 ys ((((choicesOf n.ups).take j).filter fun c => keeps n.sl c).map strsD))
        ⟨[], same_new nD, upd_same, .nil⟩ (fun j H5 _ h5 => let ⟨_, s, _⟩ := h5; .of (s _ _ el)) (fun j x H5 hx h5 => ?_) (fun H5 h5 => ?_)
      · obtain ⟨ys, s5, eD, hty⟩ := h5
        obtain ⟨c, hc, htc⟩ := (ht.up (Gr.same s5)).atF hx
        have hrow := choices_in (List.mem_of_getElem? hc)
        have lys : ys.length ≤ 128 := by
          rw [hty.len, List.length_map]
          refine Nat.le_trans (List.length_filter_le _ _) ?_
          rw [List.length_take]
          omega
        refine ⟨rfl, _, rfl, _, rfl, r, x, n, strsD c, rfl, hn.up (s3.trans s5), h40, slok, htc.dp, fun H' s' => ?_⟩
        rw [due_row hrow]
        refine ⟨_, rfl, ?_⟩
        rw [take_next hc, List.filter_append]
        cases hkp : keeps n.sl c with
        | true =>
          refine iteT ⟨_, rfl, ys, s' _ _ eD, small1000 (by omega), ys ++ [x], smut (s5.trans s') nD, upd_same, ?_⟩
          rw [List.filter_cons_of_pos (by exact hkp), List.filter_nil, List.map_append]
          exact ((hty.up (Gr.same s')).app (.one (htc.up (Gr.same s')))).up (Gr.lst (s' _ _ eD))
        | false =>
          refine iteF ⟨ys, s5.trans s', s' _ _ eD, ?_⟩
          rw [List.filter_cons_of_neg (by rw [hkp]; exact Bool.false_ne_true), List.filter_nil, List.append_nil]
          exact hty.up (Gr.same s')
      · obtain ⟨ys, s5, eD, hty⟩ := h5
        rw [lxs, List.take_length] at hty
        refine ⟨D, ys, rfl, .inl ⟨.of eD, fun t nt => ?_⟩⟩
        have g := same_new (o := .tup ys) nt
        exact q _ _ ((s3.trans s5).trans g) (.tup (.of upd_same) (hty.up (Gr.same g)))
end
end K78
set_option Elab.async false
set_option linter.all false
set_option maxRecDepth 100000
set_option maxHeartbeats 4000000
namespace K78
open PySem PySem.Spec PyProof.Rows L2 KB RZ
def sumAt (pr : List (Str × Int)) (z : Str) (t : Int) : Int := pr.foldl (fun t p => if p.1 = z then t + p.2 else t) t
def lawPrice (pr : List (Str × Int)) (zs : List Str) : Int := zs.foldl (fun t z => sumAt pr z t) 0
def costOf (pr : List (Str × Int)) (z : Str) : Int := ((pr.find? fun p => decide (p.1 = z)).map (·.2)).getD 0
def bookPrice (pr : List (Str × Int)) (zs : List Str) : Int := ((zs.filter fun z : Str => decide (z ≠ "")).map (costOf pr)).sum
theorem sumAt_no (z : Str) : ∀ (pr : List (Str × Int)) (t : Int), z ∉ pr.map (·.1) → sumAt pr z t = t
  | [], t, _ => rfl
  | p :: pr, t, h => by
    rw [List.map_cons] at h
    unfold sumAt
    rw [List.foldl_cons, if_neg fun e => h (by rw [← e]; exact List.mem_cons_self ..)]
    exact sumAt_no z pr t fun hm => h (List.mem_cons_of_mem _ hm)
theorem sumAt_in (z : Str) : ∀ (pr : List (Str × Int)) (t : Int), (pr.map (·.1)).Nodup → z ∈ pr.map (·.1) → sumAt pr z t = t + costOf pr z
  | [], t, _, h => by simp at h
  | p :: pr, t, hn, h => by
    rw [List.map_cons] at h hn
    obtain ⟨h1, h2⟩ := List.nodup_cons.mp hn
    unfold sumAt costOf
    rw [List.foldl_cons, List.find?_cons]
    by_cases e : p.1 = z
    · rw [if_pos e, decide_eq_true e]
      have := sumAt_no z pr (t + p.2) (by rw [← e]; exact h1)
      unfold sumAt at this
      rw [this]
      rfl
    · rw [if_neg e, decide_eq_false e]
      have hm : z ∈ pr.map (·.1) := by
        rcases List.mem_cons.mp h with k | k
        · exact absurd k.symm e
        · exact k
      exact sumAt_in z pr t h2 hm
theorem price_go {pr : List (Str × Int)} (hn : (pr.map (·.1)).Nodup) (h0 : ("" : Str) ∉ pr.map (·.1)) : ∀ (zs : List Str) (t : Int), (∀ z ∈ zs, z = "" ∨ z ∈ pr.map (·.1)) → zs.foldl (fun t z => sumAt pr z t) t = t + bookPrice pr zs
  | [], t, _ => by
    show t = t + 0
    omega
  | z :: zs, t, h => by
    have ih := price_go hn h0 zs
    have hz := h z (List.mem_cons_self ..)
    have hr := fun y hy => h y (List.mem_cons_of_mem _ hy)
    rw [List.foldl_cons, ih _ hr]
    unfold bookPrice
    by_cases e : z = ""
    · rw [e, sumAt_no _ _ _ h0]
      rw [List.filter_cons_of_neg (by simp)]
    · rw [sumAt_in z pr t hn (hz.resolve_left e), List.filter_cons_of_pos (by simpa using e), List.map_cons, List.sum_cons]
      omega
theorem price_eq {ups : List (List Str)} {pr : List (Str × Int)} (h : PricesOk ups pr) {zs : List Str} (hz : RowIn ups zs) : bookPrice pr zs = lawPrice pr zs := by
  have h0 : ("" : Str) ∉ pr.map (·.1) := fun hm => by
    obtain ⟨p, hp, e⟩ := List.mem_map.mp hm
    have := (h.len p hp).1
    rw [e] at this
    exact absurd this (by decide)
  have hin : ∀ z ∈ zs, z = "" ∨ z ∈ pr.map (·.1) := fun z hzz => by
    obtain ⟨i, hi⟩ := List.mem_iff_getElem?.mp hzz
    have hl := hz.len
    have hlt := (List.getElem?_eq_some_iff.mp hi).1
    have hu := List.getElem?_eq_getElem (l := ups) (i := i) (by omega)
    rcases hz.get hi hu with e | e
    · exact .inl e
    · exact .inr (h.all _ (List.getElem_mem _) z e)
  have := price_go h.nd h0 zs 0 hin
  unfold lawPrice
  rw [this]
  omega
abbrev prK (p : Str × Int) : Key × V := (.inr p.1, .int p.2)
theorem merge_new : ∀ (more acc : List (Key × V)), ((acc ++ more).map (·.1)).Nodup → mergeK acc more = acc ++ more
  | [], acc, _ => by
    show acc = acc ++ []
    rw [List.append_nil]
  | p :: more, acc, h => by
    have hv : valV acc p.1 = none := by
      rw [List.map_append, List.map_cons, List.nodup_append] at h
      cases hh : valV acc p.1 with
      | none => rfl
      | some v =>
        have ha := valV_any p.1 acc
        rw [hh] at ha
        obtain ⟨q, hq, e⟩ := List.any_eq_true.mp ha
        exact absurd (of_decide_eq_true e) (h.2.2 _ (List.mem_map_of_mem hq) _ (List.mem_cons_self ..))
    have e : acc ++ p :: more = (acc ++ [p]) ++ more := by simp
    rw [e] at h ⊢
    show mergeK (putK acc p.1 p.2) more = _
    rw [putK_new _ hv]
    exact merge_new more _ h
theorem cost_val (z : Str) : ∀ pr : List (Str × Int), z ∈ pr.map (·.1) → valV (pr.map prK) (.inr z) = some (.int (costOf pr z))
  | [], h => by simp at h
  | p :: pr, h => by
    unfold costOf
    rw [List.map_cons, List.find?_cons]
    by_cases e : p.1 = z
    · rw [valV_pos (by show Sum.inr p.1 = _; rw [e]), decide_eq_true e]
      rfl
    · rw [valV_neg (fun k => e (Sum.inr.inj k)), decide_eq_false e]
      have hm : z ∈ pr.map (·.1) := by
        rw [List.map_cons] at h
        rcases List.mem_cons.mp h with k | k
        · exact absurd k.symm e
        · exact k
      exact cost_val z pr hm
theorem pairs_of {K : PySem.W.Frag} {H : Hp} : ∀ {pr : List (Str × Int)} {xs : List V}, TpAll K H xs (pr.map prD) → ∃ ps : List Addr, xs = ps.map V.ref ∧ Paired (fun p kv => SqT K H p [kV kv.1, kv.2]) ps (pr.map prK)
  | [], _, h => by
    cases h
    exact ⟨[], rfl, .nil⟩
  | p :: pr, _, h => by
    cases h with
    | cons h1 h2 =>
      obtain ⟨a, x, y, rfl, hs, t0, t1⟩ := tup2 h1
      cases t0.str_of
      cases t1.int_of
      obtain ⟨ps, rfl, hp⟩ := pairs_of h2
      exact ⟨a :: ps, rfl, .cons hs hp⟩
section
variable {P : Program} {w : World} {K : PySem.W.Frag} {mg : Str → Option Value} {base : Heap}
def spPrice (K : PySem.W.Frag) : Sp := fun vs H Q _ => ∃ (r c : Addr) (n : Nt) (zs : List Str), vs = [.ref r, .ref c] ∧ NtAt K H r n ∧ SqT K H c (zs.map V.str) ∧ Q (.int (lawPrice n.pr zs)) H
theorem c_l_price (D : Dn K mg "_law_price" s_l_price) (B : Bl mg) : Cal P w K mg base 1 "_law_price" (spPrice K) := by
  refine cal_of D sc_l_price (fun vs H Q E h => ?_) (fun _ _ _ _ _ _ us hl => match us, hl with | [_, _], _ => rfl) (fun f cdv A outer s H vs Q E hr h => ?_)
  · obtain ⟨r, c, n, zs, rfl, _⟩ := h
    rfl
  · obtain ⟨r, c, n, zs, rfl, hn, hc, q⟩ := h
    obtain ⟨a0, a2, a3, a4, a5, a6, a7, a8, a9, sq, t0, t2, t3, t4, t5, t6, t7, ⟨o, px, e8, oc, od, t8⟩, t9⟩ := hn.ex
    have hp8 : SqT K H a8 px := .inl (.inr ⟨o, e8⟩)
    have lpx : px.length = n.pr.length := by rw [t8.len, List.length_map]
    refine ⟨_, (pss_cons (ps_set (i := 2) sc_l_price.nd rfl (.inl rfl) pe_int)
      (pss_cons (ps_for PassesOwn.never rfl (pi_tup (pv 1)) (pg_name (i := 3) sc_l_price.nd rfl (.inl rfl)) 
        (pss_one (ps_for PassesOwn.never rfl (pi_tup (pe_ix ix_tup (pv 0) pe_int (fun _ _ => rfl))) (pg_name (i := 4) sc_l_price.nd rfl (.inl rfl)) 
          (pss_one (ps_if (pt_cmpR op_eq (pe_ix ix_tup (pv 4) pe_int (fun _ _ => rfl)) (pv 3) (nomark _)) 
            (pss_one (ps_set (i := 2) sc_l_price.nd rfl (.inl rfl) (pe_op op_add (pv 2) (pe_ix ix_tup (pv 4) pe_int (fun _ _ => rfl))))) pss_nil)))))
      (pss_one (ps_ret (pv 2))))), ?_⟩
    refine ⟨_, rfl, c, rfl, ⟨_, hc⟩, ?_⟩
    refine for_tup (K := K) (a := c) (xs := zs.map V.str) (fun i σ H3 => ∃ y3 y4 t, σ = [some (.ref r), some (.ref c), some (.int t), y3, y4] ∧ H3 = H ∧ (zs.drop i).foldl (fun t z => sumAt n.pr z t) t = lawPrice n.pr zs)
      ⟨_, _, 0, rfl, rfl, rfl⟩ (fun i σ H3 _ h3 => let ⟨_, _, _, _, e, _⟩ := h3; e ▸ hc) (fun i x σ H3 hx h3 => ?_) (fun σ H3 h3 => ?_)
    · obtain ⟨y3, y4, t, rfl, rfl, hk⟩ := h3
      obtain ⟨z, hz, rfl, hi⟩ := map_at_inv hx
      have hd : zs.drop i = z :: zs.drop (i + 1) := by
        rw [List.drop_eq_getElem_cons hi, (List.getElem?_eq_some_iff.mp hz).2]
      rw [hd, List.foldl_cons] at hk
      refine ⟨_, rfl, r, _, 8, _, rfl, rfl, sq, atI_nat (j := 8) rfl, a8, rfl, ⟨_, hp8⟩, ?_⟩
      refine for_tup (K := K) (a := a8) (xs := px) (fun j σ H4 => ∃ y4 t', σ = [some (.ref r), some (.ref c), some (.int t'), some (.str z), y4] ∧ H4 = H3 ∧ sumAt (n.pr.drop j) z t' = sumAt n.pr z t)
        ⟨_, t, rfl, rfl, rfl⟩ (fun j σ H4 _ h4 => let ⟨_, _, _, e, _⟩ := h4; e ▸ hp8) (fun j x σ H4 hx h4 => ?_) (fun σ H4 h4 => ?_)
      · obtain ⟨y4, t', rfl, rfl, hs⟩ := h4
        obtain ⟨p, hp, htp⟩ := t8.atF hx
        obtain ⟨pa, x0, x1, rfl, hpa, u0, u1⟩ := tup2 htp
        cases u0.str_of
        cases u1.int_of
        have hj := (List.getElem?_eq_some_iff.mp hp).1
        have hd2 : n.pr.drop j = p :: n.pr.drop (j + 1) := by
          rw [List.drop_eq_getElem_cons hj, (List.getElem?_eq_some_iff.mp hp).2]
        rw [hd2] at hs
        unfold sumAt at hs
        rw [List.foldl_cons] at hs
        refine ⟨_, rfl, pa, _, 0, _, rfl, rfl, hpa, atI_nat (j := 0) rfl, _, rfl, rfl, _, rfl, ite2 (fun e => ?_) (fun e => ?_)⟩
        · rw [decS] at e
          rw [if_pos (of_decide_eq_true e)] at hs
          exact ⟨_, rfl, _, rfl, pa, _, 1, _, rfl, rfl, hpa, atI_nat (j := 1) rfl, _, _, rfl, rfl, _, t' + p.2, rfl, rfl, hs⟩
        · rw [decS] at e
          rw [if_neg (fun k => e (decide_eq_true k))] at hs
          exact ⟨_, t', rfl, rfl, hs⟩
      · obtain ⟨y4, t', rfl, rfl, hs⟩ := h4
        rw [lpx, List.drop_length] at hs
        have hs : t' = sumAt n.pr z t := hs
        rw [← hs] at hk
        exact ⟨_, _, t', rfl, rfl, hk⟩
    · obtain ⟨y3, y4, t, rfl, rfl, hk⟩ := h3
      rw [List.length_map, List.drop_length] at hk
      have hk : t = lawPrice n.pr zs := hk
      refine ⟨_, rfl, ?_⟩
      rw [hk]
      exact q
def spCPrice (K : PySem.W.Frag) : Sp := fun vs H Q _ => ∃ (r c : Addr) (n : Nt) (zs : List Str), vs = [.ref r, .ref c] ∧ NtAt K H r n ∧ PricesOk n.ups n.pr ∧ RowIn n.ups zs ∧ n.ups.length ≤ 40 ∧ SqT K H c (zs.map V.str) ∧ ∀ H', Same H H' → Q (.int (lawPrice n.pr zs)) H'
theorem c_course_price (D : Dn K mg "course_price" s_course_price) (B : Bl mg) : Cal P w K mg base 1 "course_price" (spCPrice K) := by
  refine cal_of D sc_course_price (fun vs H Q E h => ?_) (fun _ _ _ _ _ _ us hl => match us, hl with | [_, _], _ => rfl) (fun f cdv A outer s H vs Q E hr h => ?_)
  · obtain ⟨r, c, n, zs, rfl, _⟩ := h
    rfl
  · obtain ⟨r, c, n, zs, rfl, hn, hok, hrow, h40, hc, q⟩ := h
    rw [← price_eq hok hrow] at q
    obtain ⟨a0, a2, a3, a4, a5, a6, a7, a8, a9, sq, t0, t2, t3, t4, t5, t6, t7, ⟨o, px, e8, oc, od, t8⟩, t9⟩ := hn.ex
    obtain ⟨ps, rfl, hp⟩ := pairs_of t8
    have hin : ∀ z ∈ zs, z = "" ∨ z ∈ n.pr.map (·.1) := fun z hzz => by
      obtain ⟨i, hi⟩ := List.mem_iff_getElem?.mp hzz
      have hl := hrow.len
      have hlt := (List.getElem?_eq_some_iff.mp hi).1
      have hu := List.getElem?_eq_getElem (l := n.ups) (i := i) (by omega)
      rcases hrow.get hi hu with e | e
      · exact .inl e
      · exact .inr (hok.all _ (List.getElem_mem _) z e)
    have lzs := hrow.len
    have hmg : mergeK [] (n.pr.map prK) = n.pr.map prK := merge_new (n.pr.map prK) [] (by
      rw [List.nil_append, List.map_map]
      have e : (fun x => x.1) ∘ prK = fun p : Str × Int => (Sum.inr p.1 : Key) := rfl
      rw [e]
      have e2 : n.pr.map (fun p : Str × Int => (Sum.inr p.1 : Key)) = (n.pr.map (·.1)).map Sum.inr := by
        rw [List.map_map]
        rfl
      rw [e2]
      exact List.Pairwise.map _ (fun a b h k => h (Sum.inr.inj k)) hok.nd)
    refine ⟨_, (pss_cons (ps_set (i := 2) sc_course_price.nd rfl (.inr rfl) (pe_callTy (call_dictFz rfl) (by rfl) B.dict bt_dict (pa_cons (pe_ix ix_tup (pv 0) pe_int (fun _ _ => rfl)) pa_nil)))
      (pss_one (ps_ret (pe_callB (cr_sum rfl) (by rfl) B.sum bt_sum (pa_cons (pe_lc (own := [("patch", 3)]) (by rfl) sc_course_price.nd (pi_tup (pv 1)) (blkOk_by (N := n_course_price) (sc := defScope s_course_price) (by decide +kernel)) (fun _ _ _ _ _ => (pg_name (i := 3) sc_course_price.nd rfl (.inl rfl))) (fun _ _ _ _ _ => (pts_one (pt_cmpR op_ne (pv 3) pe_str (nomark _)))) (fun _ _ _ _ _ => (pe_dget (hu_of hr) (pv 2) (pv 3) (fun _ _ => rfl)))) pa_nil))))), ?_⟩
    refine ⟨_, rfl, r, _, 8, _, rfl, rfl, sq, atI_nat (j := 8) rfl, a8, o, ps, _, rfl, e8, oc, od, hp, fun cd ncd => ?_⟩
    rw [hmg]
    have g := same_new (o := .dK (n.pr.map prK)) ncd
    have ecd : (upd H cd (.dK (n.pr.map prK))) cd = some (.dK (n.pr.map prK)) := upd_same
    generalize upd H cd (.dK (n.pr.map prK)) = H1 at g ecd
    have hc1 := (Gr.same g).t hc
    refine ⟨_, rfl, c, rfl, ⟨_, hc1⟩, fun d' nd => ?_⟩
    refine lc_tup (K := K) (a := c) (xs := zs.map V.str) (fun k H' => ∃ ns : List Int, Same H1 H' ∧ H' d' = some (.lst (ns.map V.int)) ∧ ns = ((zs.take k).filter fun z : Str => decide (z ≠ "")).map (costOf n.pr)) ⟨[], same_new nd, upd_same, rfl⟩ (fun k H' _ p => let ⟨_, p1, _⟩ := p; (Gr.same p1).t hc1) (fun k x H' hx p => ?_) (fun H' p => ?_)
    · obtain ⟨ns, p1, p2, p3⟩ := p
      obtain ⟨z, hz, rfl, hk⟩ := map_at_inv hx
      refine ⟨rfl, _, rfl, rfl, _, rfl, ite2 (fun e => ?_) (fun e => ?_)⟩
      · rw [decS] at e
        have ez : z ≠ "" := by simpa using e
        have hz' := (hin z (List.mem_of_getElem? hz)).resolve_left ez
        have lns : ns.length ≤ 40 := by
          rw [p3, List.length_map]
          refine Nat.le_trans (List.length_filter_le _ _) ?_
          rw [List.length_take]
          omega
        refine ⟨_, rfl, _, rfl, cd, .int (costOf n.pr z), rfl, ?_, _, p2, by rw [List.length_map]; exact small1000 (by omega), ns ++ [costOf n.pr z], smut p1 nd, by rw [upd_same, List.map_append]; rfl, ?_⟩
        · rw [← cost_val z n.pr hz']
          exact DGet.k (k := .inr z) (p1 _ _ ecd)
        · rw [p3, take_next hz, List.filter_append, List.map_append, List.filter_cons_of_pos (by simpa using ez)]
          rfl
      · rw [decS] at e
        have ez : z = "" := by simpa using e
        refine ⟨ns, p1, p2, ?_⟩
        rw [p3, take_next hz, List.filter_append, List.map_append, List.filter_cons_of_neg (by simpa using ez), List.filter_nil, List.map_nil, List.append_nil]
    · obtain ⟨ns, p1, p2, p3⟩ := p
      rw [List.length_map, List.take_length] at p3
      refine ⟨d', ns, rfl, .of p2, ?_⟩
      rw [p3]
      exact q H' (g.trans p1)
end
end K78
set_option Elab.async false
set_option linter.all false
set_option maxRecDepth 100000
set_option maxHeartbeats 4000000
namespace KB
open PySem PySem.Spec PyProof.Rows L2
section
variable {K : PySem.W.Frag} {H : Hp} {a b : Addr} {xs ys : List V} {ds es : List PyData} {Q : VK}
theorem cat_tp (ha : SqT K H a xs) (tx : TpAll K H xs ds) (hb : SqT K H b ys) (ty : TpAll K H ys es) (hl : xs.length + ys.length ≤ 100000) (q : ∀ c H' zs, Same H H' → SqT K H' c zs → TpAll K H' zs (ds ++ es) → Q (.ref c) H') : rCatA K (.ref a) (.ref b) H Q := by
  refine ⟨a, b, xs, ys, rfl, rfl, ha, hb, small100 hl, fun e => ?_, fun _ e => ?_, fun _ _ p np => ?_⟩
  · subst e
    cases tx with
    | nil => exact q b H ys (Same.refl H) hb ty
  · subst e
    cases ty with
    | nil =>
      refine q a H xs (Same.refl H) ha ?_
      rw [List.append_nil]
      exact tx
  · exact q p _ (xs ++ ys) (same_new np) (.of upd_same) ((tx.app ty).up (Gr.new np))
theorem sl_any {lo hi : Option Int} (ha : SqT K H a xs) (q : ∀ c H', Same H H' → SqT K H' c (cutV xs lo hi) → Q (.ref c) H') : rSlA K (.ref a) lo hi H Q := by
  refine ⟨a, xs, rfl, ha, fun h => ?_, fun _ p np => ?_⟩
  · refine q a H (Same.refl H) ?_
    unfold cutV
    rw [h.1, h.2]
    simpa using ha
  · exact q p _ (same_new np) (.of upd_same)
theorem cutV_to (j : Nat) (h : j ≤ xs.length) : cutV xs none (some (j : Int)) = xs.take j := by
  unfold cutV
  rw [show HT.sIx xs.length 0 none = 0 from HT.sIx_none _ _, show HT.sIx xs.length xs.length (some (j : Int)) = min j xs.length from HT.sIx_nat _ _ _, Nat.min_eq_left h]
  rfl
theorem cutV_from (j : Nat) (h : j ≤ xs.length) : cutV xs (some (j : Int)) none = xs.drop j := by
  unfold cutV
  rw [show HT.sIx xs.length xs.length none = xs.length from HT.sIx_none _ _, show HT.sIx xs.length 0 (some (j : Int)) = min j xs.length from HT.sIx_nat _ _ _, Nat.min_eq_left h]
  exact List.take_of_length_le (by rw [List.length_drop]; omega)
end
end KB
namespace K78
open PySem PySem.Spec PyProof.Rows L2 KB RZ
abbrev rowD (b c : Int) (p : Str × Str) : PyData := .tuple [.str "seen", .int b, .int c, .str p.1, .str p.2, .int 0]
/-- the pairs of which the first is one of the first i -/
def pairsUpto (names : List Str) (i : Nat) : List (Str × Str) := (List.range i).flatMap fun k => (names.drop (k + 1)).map fun o => (names.getD k "", o)
def chRows (b : Int) (names : List Str) (chs : List Int) : List PyData := chs.flatMap fun c => (pairsUpto names names.length).map (rowD b c)
def bookRows (names : List Str) (chs : List Int) (zs : List Str) (i : Nat) : List PyData := (List.range i).flatMap fun b => if zs.getD b "" = "" then [] else chRows (b : Int) names chs
def standD (zs : List Str) (ms : List Mx) (b : Nat) : PyData := .tuple [.str (if zs.getD b "" = "" then "rest" else zs.getD b ""), mxD (ms.getD b (0, 0, 0, 0))]
def stands (zs : List Str) (ms : List Mx) (i : Nat) : List PyData := (List.range i).map (standD zs ms)
abbrev stNames (n : Nt) : List Str := n.st.map (·.1)
def bookD (n : Nt) (zs : List Str) : PyData := .tuple [.tuple [dlD n.d, .int n.fo, .tuple (n.st.map stD), .tuple (stands zs n.ms zs.length), .tuple (n.ch.map PyData.int), .tuple (n.te.map tmD)],
  .tuple (bookRows (stNames n) n.ch zs zs.length ++ n.fs.map fcD), .tuple []]
theorem pairs_succ (names : List Str) (i : Nat) : pairsUpto names (i + 1) = pairsUpto names i ++ (names.drop (i + 1)).map fun o => (names.getD i "", o) := by
  unfold pairsUpto
  rw [List.range_succ, List.flatMap_append]
  simp
theorem pairs_len (names : List Str) : ∀ i, (pairsUpto names i).length ≤ i * names.length
  | 0 => by simp [pairsUpto]
  | i + 1 => by
    have ih := pairs_len names i
    rw [pairs_succ, List.length_append, List.length_map, List.length_drop, Nat.succ_mul]
    omega
theorem book_succ (names : List Str) (chs : List Int) (zs : List Str) (i : Nat) : bookRows names chs zs (i + 1) = bookRows names chs zs i ++ (if zs.getD i "" = "" then [] else chRows (i : Int) names chs) := by
  unfold bookRows
  rw [List.range_succ, List.flatMap_append]
  simp
theorem stands_succ (zs : List Str) (ms : List Mx) (i : Nat) : stands zs ms (i + 1) = stands zs ms i ++ [standD zs ms i] := by
  unfold stands
  rw [List.range_succ, List.map_append]
  rfl
theorem chRows_snoc (b : Int) (names : List Str) (chs : List Int) (c : Int) : chRows b names (chs ++ [c]) = chRows b names chs ++ (pairsUpto names names.length).map (rowD b c) := by
  unfold chRows
  rw [List.flatMap_append]
  simp
theorem chRows_len (b : Int) (names : List Str) (h : names.length ≤ 4) : ∀ chs : List Int, (chRows b names chs).length ≤ chs.length * 16
  | [] => by simp [chRows]
  | c :: chs => by
    have ih := chRows_len b names h chs
    have e : chRows b names (c :: chs) = (pairsUpto names names.length).map (rowD b c) ++ chRows b names chs := rfl
    have h2 := pairs_len names names.length
    have h3 : names.length * names.length ≤ 4 * 4 := Nat.mul_le_mul h h
    rw [e, List.length_append, List.length_map, List.length_cons, Nat.succ_mul]
    omega
theorem book_len (names : List Str) (h : names.length ≤ 4) (chs : List Int) (hc : chs.length ≤ 3) (zs : List Str) : ∀ i, (bookRows names chs zs i).length ≤ i * 48
  | 0 => by simp [bookRows]
  | i + 1 => by
    have ih := book_len names h chs hc zs i
    have h2 := chRows_len (i : Int) names h chs
    have h3 : chs.length * 16 ≤ 3 * 16 := Nat.mul_le_mul_right _ hc
    rw [book_succ, List.length_append, Nat.succ_mul]
    split
    · simp only [List.length_nil]
      omega
    · omega
section
variable {P : Program} {w : World} {K : PySem.W.Frag} {mg : Str → Option Value} {base : Heap}
def spSeen (K : PySem.W.Frag) : Sp := fun vs H Q _ => ∃ (b c : Int) (s o : Str), vs = [.int b, .int c, .str s, .str o, .int 0] ∧ ∀ r H', Same H H' → Tp K H' r (rowD b c (s, o)) → Q r H'
theorem c_seen_row (D : Dn K mg "seen_row" s_seen_row) (B : Bl mg) : Cal P w K mg base 1 "seen_row" (spSeen K) := by
  refine cal_of D sc_seen_row (fun vs H Q E h => ?_) (fun _ _ _ _ _ _ us hl => match us, hl with | [_, _, _, _, _], _ => rfl) (fun f cdv A outer s H vs Q E hr h => ?_)
  · obtain ⟨b, c, s, o, rfl, _⟩ := h
    rfl
  · obtain ⟨b, c, z, o, rfl, q⟩ := h
    refine ⟨_, (pss_one (ps_ret (pe_tup (pa_cons pe_str (pa_cons (pv 0) (pa_cons (pv 1) (pa_cons (pv 2) (pa_cons (pv 3) (pa_cons (pv 4) pa_nil))))))))), ?_⟩
    refine ⟨_, rfl, _, rfl, _, rfl, _, rfl, _, rfl, by show 6 ≤ sizeLine; decide, fun p np => ?_⟩
    exact q _ _ (same_new np) (.tup (.of upd_same) (.cons (.str _) (.cons (.int _) (.cons (.int _) (.cons (.str _) (.cons (.str _) (.cons (.int _) .nil)))))))
end
structure Ca9 (P : Program) (w : World) (K : PySem.W.Frag) (mg : Str → Option Value) (base : Heap) : Prop where
  seen_row : Cal P w K mg base 1 "seen_row" (spSeen K)
section
variable {P : Program} {w : World} {K : PySem.W.Frag} {mg : Str → Option Value} {base : Heap}
def spPairRows (K : PySem.W.Frag) : Sp := fun vs H Q _ => ∃ (b c : Int) (na : Addr) (names : List Str), vs = [.int b, .int c, .ref na] ∧ H na = some (.lst (names.map V.str)) ∧ names.length ≤ 4 ∧
  ∀ p xs H', Same H H' → H p = none → H' p = some (.lst xs) → TpAll K H' xs ((pairsUpto names names.length).map (rowD b c)) → Q (.ref p) H'
theorem c_pair_rows (D : Dn K mg "_pair_rows" s_pair_rows) (B : Bl mg) (C : Ca9 P w K mg base) : Cal P w K mg base 2 "_pair_rows" (spPairRows K) := by
  refine cal_of D sc_pair_rows (fun vs H Q E h => ?_) (fun _ _ _ _ _ _ us hl => match us, hl with | [_, _, _], _ => rfl) (fun f cdv A outer s H vs Q E hr h => ?_)
  · obtain ⟨b, c, na, names, rfl, _⟩ := h
    rfl
  · obtain ⟨b, c, na, names, rfl, hna, hn4, q⟩ := h
    refine ⟨_, (pss_cons (ps_set (i := 3) sc_pair_rows.nd rfl (.inl rfl) (pe_lst pa_nil))
      (pss_cons (ps_for PassesOwn.never rfl (pi_enum (by rfl) B.enumerate (pa_cons (pv 2) pa_nil)) (pg_tup rfl (pgs_cons (pg_name (i := 4) sc_pair_rows.nd rfl (.inl rfl)) (pgs_cons (pg_name (i := 5) sc_pair_rows.nd rfl (.inl rfl)) pgs_nil))) 
        (pss_one (ps_for PassesOwn.never rfl (pi_list (pe_slice sl_list (pv 2) (po_some (pe_op op_add (pv 4) pe_int)) po_none)) (pg_name (i := 6) sc_pair_rows.nd rfl (.inl rfl)) 
          (pss_one (ps_expr (pe_bm PySem.F.plainAttrs_list PySem.F.slot_list_append PySem.F.type_list_append mt_append (pv 3) (pa_cons (pe_c C.seen_row hr (by decide) rfl (pa_cons (pv 0) (pa_cons (pv 1) (pa_cons (pv 5) (pa_cons (pv 6) (pa_cons pe_int pa_nil)))))) pa_nil)))))))
      (pss_one (ps_ret (pv 3))))), ?_⟩
    refine ⟨by show 0 ≤ sizeLine; decide, fun l nl => ?_⟩
    have s0 := same_new (o := .lst []) nl
    have nln : na ≠ l := ne_of_none hna nl
    refine ⟨_, rfl, na, _, rfl, .of (s0 _ _ hna), ?_⟩
    refine for_enumL (K := K) (a := na) (xs := names.map V.str) (fun i σ H3 => ∃ y4 y5 y6 xs, σ = [some (.int b), some (.int c), some (.ref na), some (.ref l), y4, y5, y6] ∧ Same H H3 ∧ H3 l = some (.lst xs) ∧ TpAll K H3 xs ((pairsUpto names i).map (rowD b c)))
      ⟨_, _, _, [], rfl, s0, upd_same, .nil⟩ (fun i σ H3 h3 => let ⟨_, _, _, _, _, s, _⟩ := h3; .of (s _ _ hna)) (fun i x T σ H3 hx h3 nT => ?_) (fun σ H3 h3 => ?_)
    · obtain ⟨y4, y5, y6, xs, rfl, s3, el3, ht3⟩ := h3
      obtain ⟨z, hz, rfl, hi⟩ := map_at_inv hx
      have g4 := same_new (o := .tup [.int (i : Nat), .str z]) nT
      refine ⟨T, _, rfl, .of upd_same, rfl, _, _, rfl, _, _, rfl, rfl, ?_⟩
      generalize upd H3 T (.tup [.int (i : Nat), .str z]) = H4 at g4
      have s4 := s3.trans g4
      have el4 := g4 _ _ el3
      have ht4 := ht3.up (Gr.same g4)
      refine ⟨_, rfl, _, rfl, _, _, rfl, rfl, _, rfl, na, _, rfl, .of (s4 _ _ hna), fun sl nsl => ?_⟩
      have ecut : cutV (names.map V.str) (some ((i : Nat) + 1 : Int)) none = (names.drop (i + 1)).map V.str := by
        rw [show (((i : Nat) : Int) + 1) = ((i + 1 : Nat) : Int) by omega, cutV_from (i + 1) (by rw [List.length_map]; omega), List.map_drop]
      rw [ecut]
      have nls : l ≠ sl := ne_of_none el4 nsl
      have g5 := same_new (o := .lst ((names.drop (i + 1)).map V.str)) nsl
      have esl : (upd H4 sl (.lst ((names.drop (i + 1)).map V.str))) sl = some (.lst ((names.drop (i + 1)).map V.str)) := upd_same
      generalize upd H4 sl (.lst ((names.drop (i + 1)).map V.str)) = H5 at g5 esl
      have hgd : names.getD i "" = z := by rw [List.getD_eq_getElem?_getD, hz]; rfl
      have hpl : (pairsUpto names i).length ≤ 16 := by
        have h2 := pairs_len names i
        have h3 : i * names.length ≤ 4 * 4 := Nat.mul_le_mul (by omega) hn4
        omega
      refine ⟨sl, rfl, ⟨_, .of esl⟩, ?_⟩
      refine for_list (K := K) (a := sl) (xs := (names.drop (i + 1)).map V.str) (fun k σ H6 => ∃ y6 xs, σ = [some (.int b), some (.int c), some (.ref na), some (.ref l), some (.int (i : Nat)), some (.str z), y6] ∧ Same H H6 ∧ H6 sl = some (.lst ((names.drop (i + 1)).map V.str)) ∧ H6 l = some (.lst xs) ∧ TpAll K H6 xs ((pairsUpto names i ++ ((names.drop (i + 1)).take k).map fun o => (z, o)).map (rowD b c)))
        ⟨_, xs, rfl, s4.trans g5, esl, g5 _ _ el4, by
          rw [List.take_zero, List.map_nil, List.append_nil]
          exact ht4.up (Gr.same g5)⟩ (fun k σ H6 _ h6 => let ⟨_, _, _, _, e, _⟩ := h6; .of e) (fun k x σ H6 hx h6 => ?_) (fun σ H6 h6 => ?_)
      · obtain ⟨y6, xs, rfl, s6, esl6, el6, ht6⟩ := h6
        obtain ⟨o, ho, rfl, hk⟩ := map_at_inv hx
        rw [List.length_drop] at hk
        have lxs : xs.length ≤ 20 := by
          rw [ht6.len, List.length_map, List.length_append, List.length_map, List.length_take]
          omega
        refine ⟨_, rfl, .inl ⟨rfl, _, .of el6⟩, _, rfl, _, rfl, _, rfl, _, rfl, b, c, z, o, rfl, fun rv H7 s67 trv => ?_⟩
        have el7 := s67 _ _ el6
        refine ⟨l, _, _, rfl, rfl, el7, small1000 (by omega), ?_⟩
        refine ⟨_, xs ++ [rv], rfl, smut (s6.trans s67) nl, by rw [upd_ne nls.symm]; exact s67 _ _ esl6, upd_same, ?_⟩
        rw [take_next ho, List.map_append (l₁ := (names.drop (i + 1)).take k), ← List.append_assoc, List.map_append]
        exact ((ht6.up (Gr.same s67)).app (.one trv)).up (Gr.lst el7)
      · obtain ⟨y6, xs, rfl, s6, esl6, el6, ht6⟩ := h6
        rw [List.length_map, List.take_length] at ht6
        refine ⟨_, _, _, xs, rfl, s6, el6, ?_⟩
        rw [pairs_succ, hgd]
        exact ht6
    · obtain ⟨y4, y5, y6, xs, rfl, s3, el3, ht3⟩ := h3
      rw [List.length_map] at ht3
      exact ⟨_, rfl, q l xs H3 s3 nl el3 ht3⟩
end
end K78
set_option Elab.async false
set_option linter.all false
set_option maxRecDepth 100000
set_option maxHeartbeats 4000000
namespace KB
open PySem PySem.Spec PyProof.Rows L2
theorem orRest {K : PySem.W.Frag} {ta : TE} {σ : L2.St} {H : Hp} {z y : Str} {Q : VK} (h : ∀ Q : VK, Q (.str z) H → ta σ H Q) (hz : z.length ≤ sizeLine) (q : Q (.str (if z = "" then y else z)) H) : tOrT K ta (tC (.str y)) σ H Q := by
  refine h _ ⟨_, ⟨hz, rfl⟩, ?_⟩
  by_cases e : z = ""
  · rw [if_pos e] at q
    subst e
    rw [if_neg (by decide)]
    exact q
  · rw [if_neg e] at q
    rw [if_pos]
    · exact q
    · rw [bne_iff_ne]
      intro h0
      exact e (str_empty (by omega))
theorem TpAll.nil' {K : PySem.W.Frag} {H : Hp} : TpAll K H [] [] := .nil
end KB
namespace K78
open PySem PySem.Spec PyProof.Rows L2 KB RZ
structure Ca9b (P : Program) (w : World) (K : PySem.W.Frag) (mg : Str → Option Value) (base : Heap) : Prop where
  pair_rows : Cal P w K mg base 2 "_pair_rows" (spPairRows K)
section
variable {P : Program} {w : World} {K : PySem.W.Frag} {mg : Str → Option Value} {base : Heap}
def spBook (K : PySem.W.Frag) : Sp := fun vs H Q _ => ∃ (r c : Addr) (n : Nt) (zs : List Str), vs = [.ref r, .ref c] ∧ NtAt K H r n ∧ NtOk n ∧ RowIn n.ups zs ∧ SqT K H c (zs.map V.str) ∧ ∀ v H', Same H H' → Tp K H' v (bookD n zs) → Q v H'
theorem c_course_book (D : Dn K mg "course_book" s_course_book) (B : Bl mg) (C : Ca9b P w K mg base) : Cal P w K mg base 3 "course_book" (spBook K) := by
  refine cal_of D sc_course_book (fun vs H Q E h => ?_) (fun _ _ _ _ _ _ us hl => match us, hl with | [_, _], _ => rfl) (fun f cdv A outer s H vs Q E hr h => ?_)
  · obtain ⟨r, c, n, zs, rfl, _⟩ := h
    rfl
  · obtain ⟨r, c, n, zs, rfl, hn, hok, hrow, hc, q⟩ := h
    obtain ⟨a0, a2, a3, a4, a5, a6, a7, a8, a9, sq, t0, t2, t3, t4, t5, t6, t7, t8, t9⟩ := hn.ex
    have lzs := hrow.len
    have h40 := hok.ups.most
    have hst4 := hok.pl.st
    have hch3 := hok.pl.ch
    have hz8 : ∀ {i : Nat} {z : Str}, zs[i]? = some z → z.length ≤ 8 := fun {i z} hz => by
      have hi := (List.getElem?_eq_some_iff.mp hz).1
      have hu := List.getElem?_eq_getElem (l := n.ups) (i := i) (by omega)
      rcases hrow.get hz hu with e | e
      · rw [e]; decide
      · exact (hok.ups.len _ (List.getElem_mem _) z e).2
    refine ⟨_, (pss_cons (ps_asg (pe_slice sl_tupA (pv 0) po_none (po_some pe_int)) (pg_tup rfl (pgs_cons (pg_name (i := 2) sc_course_book.nd rfl (.inl rfl)) (pgs_cons (pg_name (i := 3) sc_course_book.nd rfl (.inl rfl)) (pgs_cons (pg_name (i := 4) sc_course_book.nd rfl (.inl rfl)) (pgs_cons (pg_name (i := 5) sc_course_book.nd rfl (.inl rfl)) (pgs_cons (pg_name (i := 6) sc_course_book.nd rfl (.inl rfl)) (pgs_cons (pg_name (i := 7) sc_course_book.nd rfl (.inl rfl)) pgs_nil))))))))
      (pss_cons (ps_setLc (i := 8) (own := [("station", 15)]) (by rfl) sc_course_book.nd rfl rfl (sw_true rfl rfl rfl (by decide +kernel)) (pi_tup (pv 4)) (blkOk_by (N := n_course_book) (sc := defScope s_course_book) (by decide +kernel)) (fun _ _ _ _ _ => (pg_name (i := 15) sc_course_book.nd rfl (.inl rfl))) (fun _ _ _ _ _ => pts_nil) (fun _ _ _ _ _ => (pe_ix (ix_tupK K rfl) (pv 15) pe_int (fun _ _ => rfl))))
      (pss_cons (ps_set (i := 9) sc_course_book.nd rfl (.inl rfl) (pe_lst pa_nil))
      (pss_cons (ps_set (i := 10) sc_course_book.nd rfl (.inl rfl) (pe_lst pa_nil))
      (pss_cons (ps_for PassesOwn.never rfl (pi_enumT (by rfl) B.enumerate (pa_cons (pv 1) pa_nil)) (pg_tup rfl (pgs_cons (pg_name (i := 11) sc_course_book.nd rfl (.inl rfl)) (pgs_cons (pg_name (i := 12) sc_course_book.nd rfl (.inl rfl)) pgs_nil))) 
        (pss_cons (ps_expr (pe_bm PySem.F.plainAttrs_list PySem.F.slot_list_append PySem.F.type_list_append mt_append (pv 9) (pa_cons (pe_tup (pa_cons (pe_orT (pv 12) (pe_one pe_str)) (pa_cons (pe_ix ix_tup (pv 5) (pv 11) (fun _ _ => rfl)) pa_nil))) pa_nil)))
        (pss_one (ps_if (pt_cmpR op_ne (pv 12) pe_str (nomark _)) 
          (pss_one (ps_for PassesOwn.never rfl (pi_tup (pv 6)) (pg_name (i := 13) sc_course_book.nd rfl (.inl rfl)) 
            (pss_one (ps_expr (pe_bm PySem.F.plainAttrs_list PySem.F.slot_list_extend PySem.F.type_list_extend mt_extend (pv 10) (pa_cons (pe_c C.pair_rows hr (by decide) rfl (pa_cons (pv 11) (pa_cons (pv 13) (pa_cons (pv 8) pa_nil)))) pa_nil)))))) pss_nil))))
      (pss_cons (ps_set (i := 14) sc_course_book.nd rfl (.inl rfl) (pe_tup (pa_cons (pv 2) (pa_cons (pv 3) (pa_cons (pv 4) (pa_cons (pe_callTy call_tuple_of (by rfl) B.tuple bt_tuple (pa_cons (pv 9) pa_nil)) (pa_cons (pv 6) (pa_cons (pv 7) pa_nil))))))))
      (pss_one (ps_ret (pe_tup (pa_cons (pv 14) (pa_cons (pe_op op_catA (pe_callTy call_tuple_of (by rfl) B.tuple bt_tuple (pa_cons (pv 10) pa_nil)) (pe_ix ix_tup (pv 0) pe_int (fun _ _ => rfl))) (pa_cons (pe_tup pa_nil) pa_nil)))))))))))), ?_⟩
    refine ⟨_, rfl, 6, rfl, sl_any sq fun sl H1 g1 hsl => ?_⟩
    rw [show ((6 : Int)) = ((6 : Nat) : Int) from rfl, cutV_to 6 (by show 6 ≤ 10; decide)] at hsl
    refine ⟨sl, _, rfl, hsl, rfl, _, _, rfl, _, _, rfl, _, _, rfl, _, _, rfl, _, _, rfl, _, _, rfl, rfl, ?_⟩
    -- names
    obtain ⟨_, stx, e2, hst, tst⟩ := t2.tup_of
    cases e2
    have lst : stx.length = n.st.length := by rw [tst.len, List.length_map]
    have hst1 := (Gr.same g1).t hst
    have tst1 := tst.up (Gr.same g1)
    refine ⟨_, rfl, a2, rfl, ⟨_, hst1⟩, fun na nna => ?_⟩
    refine lc_tup (K := K) (a := a2) (xs := stx) (fun k H' => Same H1 H' ∧ H' na = some (.lst (((n.st.take k).map (·.1)).map V.str))) ⟨same_new nna, upd_same⟩ (fun k H' _ p => (Gr.same p.1).t hst1) (fun k x H' hx p => ?_) (fun H2 p => ?_)
    · obtain ⟨p1, p2⟩ := p
      obtain ⟨sk, hsk, htk⟩ := (tst1.up (Gr.same p1)).atF hx
      obtain ⟨ka, x0, x1, x2, rfl, hka, u0, _, _⟩ := tup3 htk
      cases u0.str_of
      refine ⟨rfl, tYes_i ⟨_, rfl, ka, _, 0, _, rfl, rfl, hka, atI_nat (j := 0) rfl, _, p2, by rw [List.length_map, List.length_map, List.length_take]; exact small1000 (by omega), smut p1 nna, ?_⟩⟩
      rw [upd_same, take_next hsk, List.map_append, List.map_append]
      rfl
    obtain ⟨p1, p2⟩ := p
    rw [lst, List.take_length] at p2
    have hna : H2 na = some (.lst ((stNames n).map V.str)) := p2
    have s2 : Same H H2 := g1.trans p1
    have hn4 : (stNames n).length ≤ 4 := by
      rw [List.length_map]
      exact hst4
    -- stands, rows
    refine ⟨by show 0 ≤ sizeLine; decide, fun l1 nl1 => ⟨by show 0 ≤ sizeLine; decide, fun l2 nl2 => ?_⟩⟩
    have n12 : l1 ≠ l2 := ne_of_none upd_same nl2
    have nl2' : H2 l2 = none := (same_new (o := .lst []) nl1).free nl2
    have s3 := (same_new (o := .lst []) nl1).trans (same_new (o := .lst []) nl2)
    have el1 : (upd (upd H2 l1 (.lst [])) l2 (.lst [])) l1 = some (.lst []) := by rw [upd_ne n12, upd_same]
    have el2 : (upd (upd H2 l1 (.lst [])) l2 (.lst [])) l2 = some (.lst []) := upd_same
    generalize upd (upd H2 l1 (.lst [])) l2 (.lst []) = H3 at s3 el1 el2
    have hc2 := (Gr.same s2).t hc
    obtain ⟨_, mxx, e3, hms, tms⟩ := t3.tup_of
    cases e3
    have hms2 := (Gr.same s2).t hms
    have tms2 := tms.up (Gr.same s2)
    have lmx : mxx.length = n.ups.length := by rw [tms.len, List.length_map, hok.ms]
    obtain ⟨_, chx, e4, hch, tch⟩ := t4.tup_of
    cases e4
    have echx := tch.ints_of
    subst echx
    have hch2 := (Gr.same s2).t hch
    refine ⟨_, rfl, c, _, rfl, (Gr.same s3).t hc2, ?_⟩
    refine for_enumT (K := K) (a := c) (xs := zs.map V.str) (fun i σ H4 => ∃ y11 y12 y13 sx rx, σ = [some (.ref r), some (.ref c), some (.ref a0), some (.int n.fo), some (.ref a2), some (.ref a3), some (.ref a4), some (.ref a5), some (.ref na), some (.ref l1), some (.ref l2), y11, y12, y13, none, none] ∧ Same H2 H4 ∧ H4 l1 = some (.lst sx) ∧ TpAll K H4 sx (stands zs n.ms i) ∧ H4 l2 = some (.lst rx) ∧ TpAll K H4 rx (bookRows (stNames n) n.ch zs i))
      ⟨_, _, _, [], [], rfl, s3, el1, .nil, el2, .nil⟩ (fun i σ H4 h4 => let ⟨_, _, _, _, _, _, s, _⟩ := h4; (Gr.same s).t hc2) (fun i x T σ H4 hx h4 nT => ?_) (fun σ H4 h4 => ?_)
    · obtain ⟨y11, y12, y13, sx, rx, rfl, s4, e1, ts, e2, tr⟩ := h4
      obtain ⟨z, hz, rfl, hi⟩ := map_at_inv hx
      have g5 := same_new (o := .tup [.int (i : Nat), .str z]) nT
      refine ⟨T, _, rfl, .of upd_same, rfl, _, _, rfl, _, _, rfl, rfl, ?_⟩
      generalize upd H4 T (.tup [.int (i : Nat), .str z]) = H5 at g5
      have s5 := s4.trans g5
      have e15 := g5 _ _ e1
      have e25 := g5 _ _ e2
      have ts5 := ts.up (Gr.same g5)
      have tr5 := tr.up (Gr.same g5)
      have hgd : zs.getD i "" = z := by rw [List.getD_eq_getElem?_getD, hz]; rfl
      have hmi : i < mxx.length := by omega
      have hmx := List.getElem?_eq_getElem hmi
      obtain ⟨mm, hmm, tmm⟩ := (tms2.up (Gr.same s5)).atF hmx
      have hgm : n.ms.getD i (0, 0, 0, 0) = mm := by rw [List.getD_eq_getElem?_getD, hmm]; rfl
      refine ⟨_, rfl, .inl ⟨rfl, _, .of e15⟩, orRest (fun Q q => ⟨_, rfl, q⟩) (Nat.le_trans (hz8 hz) (by decide)) ?_⟩
      refine ⟨_, rfl, _, rfl, a3, mxx, _, _, rfl, rfl, (Gr.same s5).t hms2, at_of rfl hmx, by show 2 ≤ sizeLine; decide, fun t nt => ?_⟩
      have g6 := same_new (o := .tup [.str (if z = "" then "rest" else z), mxx[i]]) nt
      have et : (upd H5 t (.tup [.str (if z = "" then "rest" else z), mxx[i]])) t = some (.tup [.str (if z = "" then "rest" else z), mxx[i]]) := upd_same
      generalize upd H5 t (.tup [.str (if z = "" then "rest" else z), mxx[i]]) = H6 at g6 et
      have s6 := s5.trans g6
      have e16 := g6 _ _ e15
      have lsx : sx.length = i := by
        rw [ts.len]
        unfold stands
        rw [List.length_map, List.length_range]
      refine ⟨l1, _, _, rfl, rfl, e16, small1000 (by omega), ?_⟩
      have tst6 : Tp K H6 (.ref t) (standD zs n.ms i) := by
        unfold standD
        rw [hgd, hgm]
        exact .tup (.of et) (.cons (.str _) (.cons (tmm.up (Gr.same g6)) .nil))
      have s7 : Same H2 (upd H6 l1 (.lst (sx ++ [.ref t]))) := smut s6 nl1
      have e17 : (upd H6 l1 (.lst (sx ++ [.ref t]))) l1 = some (.lst (sx ++ [.ref t])) := upd_same
      have e27 : (upd H6 l1 (.lst (sx ++ [.ref t]))) l2 = some (.lst rx) := by rw [upd_ne n12.symm]; exact g6 _ _ e25
      have ts7 : TpAll K (upd H6 l1 (.lst (sx ++ [.ref t]))) (sx ++ [.ref t]) (stands zs n.ms (i + 1)) := by
        rw [stands_succ]
        exact ((ts5.up (Gr.same g6)).app (.one tst6)).up (Gr.lst e16)
      have tr7 : TpAll K (upd H6 l1 (.lst (sx ++ [.ref t]))) rx (bookRows (stNames n) n.ch zs i) := (tr5.up (Gr.same g6)).up (Gr.lst e16)
      generalize upd H6 l1 (.lst (sx ++ [.ref t])) = H7 at s7 e17 e27 ts7 tr7
      generalize sx ++ [.ref t] = sx' at e17 ts7
      rw [book_succ, hgd]
      refine ⟨_, rfl, rfl, _, rfl, ite2 (fun e => ?_) (fun e => ?_)⟩
      · rw [decS] at e
        have ez : z ≠ "" := by simpa using e
        rw [if_neg ez]
        have hbl := book_len (stNames n) hn4 n.ch hch3 zs i
        refine ⟨_, rfl, a4, rfl, ⟨_, (Gr.same s7).t hch2⟩, ?_⟩
        refine for_tup (K := K) (a := a4) (xs := n.ch.map V.int) (fun k σ H8 => ∃ y13 rx, σ = [some (.ref r), some (.ref c), some (.ref a0), some (.int n.fo), some (.ref a2), some (.ref a3), some (.ref a4), some (.ref a5), some (.ref na), some (.ref l1), some (.ref l2), some (.int (i : Nat)), some (.str z), y13, none, none] ∧ Same H2 H8 ∧ H8 l1 = some (.lst sx') ∧ TpAll K H8 sx' (stands zs n.ms (i + 1)) ∧ H8 l2 = some (.lst rx) ∧ TpAll K H8 rx (bookRows (stNames n) n.ch zs i ++ chRows (i : Int) (stNames n) (n.ch.take k)))
          ⟨_, rx, rfl, s7, e17, ts7, e27, by
            show TpAll K H7 rx (_ ++ [])
            rw [List.append_nil]
            exact tr7⟩ (fun k σ H8 _ h8 => let ⟨_, _, _, s, _⟩ := h8; (Gr.same s).t hch2) (fun k x σ H8 hx h8 => ?_) (fun σ H8 h8 => ?_)
        · obtain ⟨y13, rx, rfl, s8, e18, ts8, e28, tr8⟩ := h8
          obtain ⟨cv, hcv, rfl, hk⟩ := map_at_inv hx
          refine ⟨_, rfl, .inl ⟨rfl, _, .of e28⟩, _, rfl, _, rfl, _, rfl, (i : Int), cv, na, stNames n, rfl, s8 _ _ hna, hn4, fun pr px H9 s89 npr epr tpr => ?_⟩
          have e29 := s89 _ _ e28
          have lrx : rx.length ≤ 40 * 48 + 48 := by
            have h1 := chRows_len (i : Int) (stNames n) hn4 (n.ch.take k)
            rw [List.length_take] at h1
            have h2 : i * 48 ≤ 40 * 48 := Nat.mul_le_mul_right _ (by omega)
            have h3 : min k n.ch.length * 16 ≤ 3 * 16 := Nat.mul_le_mul_right _ (by omega)
            rw [tr8.len, List.length_append]
            omega
          have lpx : px.length ≤ 16 := by
            have h2 := pairs_len (stNames n) (stNames n).length
            have h3 : (stNames n).length * (stNames n).length ≤ 4 * 4 := Nat.mul_le_mul hn4 hn4
            rw [tpr.len, List.length_map]
            omega
          refine ⟨l2, pr, rx, px, rfl, rfl, e29, epr, small100 (by omega), ?_⟩
          refine ⟨_, rx ++ px, rfl, smut (s8.trans s89) nl2', by rw [upd_ne n12]; exact s89 _ _ e18, (ts8.up (Gr.same s89)).up (Gr.lst e29), upd_same, ?_⟩
          rw [take_next hcv, chRows_snoc, ← List.append_assoc]
          exact ((tr8.up (Gr.same s89)).app tpr).up (Gr.lst e29)
        · obtain ⟨y13, rx, rfl, s8, e18, ts8, e28, tr8⟩ := h8
          rw [List.length_map, List.take_length] at tr8
          exact ⟨_, _, _, sx', rx, rfl, s8, e18, ts8, e28, tr8⟩
      · rw [decS] at e
        have ez : z = "" := by simpa using e
        rw [if_pos ez, List.append_nil]
        exact ⟨_, _, _, sx', rx, rfl, s7, e17, ts7, e27, tr7⟩
    · obtain ⟨y11, y12, y13, sx, rx, rfl, s4, e1, ts, e2, tr⟩ := h4
      rw [List.length_map] at ts tr
      have s04 := s2.trans s4
      refine ⟨_, rfl, _, rfl, _, rfl, _, rfl, l1, sx, rfl, .inl ⟨.of e1, fun t1 nt1 => ?_⟩⟩
      have g5 := same_new (o := .tup sx) nt1
      have tt1 : Tp K (upd H4 t1 (.tup sx)) (.ref t1) (.tuple (stands zs n.ms zs.length)) := .tup (.of upd_same) (ts.up (Gr.same g5))
      generalize upd H4 t1 (.tup sx) = H5 at g5 tt1
      refine ⟨_, rfl, _, rfl, by show 6 ≤ sizeLine; decide, fun t2' nt2 => ?_⟩
      have g6 := same_new (o := .tup [.ref a0, .int n.fo, .ref a2, .ref t1, .ref a4, .ref a5]) nt2
      have et2 : (upd H5 t2' (.tup [.ref a0, .int n.fo, .ref a2, .ref t1, .ref a4, .ref a5])) t2' = some (.tup [.ref a0, .int n.fo, .ref a2, .ref t1, .ref a4, .ref a5]) := upd_same
      generalize upd H5 t2' (.tup [.ref a0, .int n.fo, .ref a2, .ref t1, .ref a4, .ref a5]) = H6 at g6 et2
      have g46 := g5.trans g6
      refine ⟨_, rfl, _, rfl, l2, rx, rfl, .inl ⟨.of (g46 _ _ e2), fun t3' nt3 => ?_⟩⟩
      have g7 := same_new (o := .tup rx) nt3
      have ht3 : SqT K (upd H6 t3' (.tup rx)) t3' rx := .of upd_same
      generalize upd H6 t3' (.tup rx) = H7 at g7 ht3
      have g47 := g46.trans g7
      have s07 := s04.trans g47
      obtain ⟨_, fx, e9, hfs, tfs⟩ := t9.tup_of
      cases e9
      have lrx : rx.length ≤ 1920 := by
        have h1 := book_len (stNames n) hn4 n.ch hch3 zs zs.length
        have h2 : zs.length * 48 ≤ 40 * 48 := Nat.mul_le_mul_right _ (by omega)
        rw [tr.len]
        omega
      have lfx : fx.length ≤ 3 := by
        rw [tfs.len, List.length_map]
        exact hok.fs
      refine ⟨_, rfl, r, _, 9, _, rfl, rfl, (Gr.same s07).t sq, atI_nat (j := 9) rfl, ?_⟩
      refine cat_tp ht3 (tr.up (Gr.same g47)) ((Gr.same s07).t hfs) (tfs.up (Gr.same s07)) (by omega) fun t4' H8 ws g8 ht4 tw => ?_
      refine ⟨by show 0 ≤ sizeLine; decide, fun t5' nt5 => ?_⟩
      have g9 := same_new (o := .tup []) nt5
      have tt5 : Tp K (upd H8 t5' (.tup [])) (.ref t5') (.tuple []) := .tup (.of upd_same) .nil
      generalize upd H8 t5' (.tup []) = H9 at g9 tt5
      refine ⟨by show 3 ≤ sizeLine; decide, fun t6' nt6 => ?_⟩
      have g10 := same_new (o := .tup [.ref t2', .ref t4', .ref t5']) nt6
      have g810 := g9.trans g10
      have g610 := g7.trans (g8.trans g810)
      have g010 := s04.trans (g46.trans g610)
      have G := Gr.same g010
      refine q _ _ g010 (.tup (.of upd_same) (.cons (.tup ((Gr.same g610).t (.of et2)) ?_) (.cons (.tup ((Gr.same g810).t ht4) (tw.up (Gr.same g810))) (.cons (tt5.up (Gr.same g10)) .nil))))
      exact .cons (t0.up G) (.cons (.int _) (.cons (t2.up G) (.cons (tt1.up (Gr.same (g6.trans g610))) (.cons (t4.up G) (.cons (t5.up G) .nil)))))
end
end K78
set_option Elab.async false
set_option linter.all false
set_option maxRecDepth 100000
set_option maxHeartbeats 4000000
namespace K78
open PySem PySem.Spec PyProof.Rows L2 KB RZ
section
variable {P : Program} {w : World} {K : PySem.W.Frag} {mg : Str → Option Value} {base : Heap}
theorem c_l_book (D : Dn K mg "_law_book" s_l_book) (B : Bl mg) : Cal P w K mg base 1 "_law_book" (spBook K) := by
  refine cal_of D sc_l_book (fun vs H Q E h => ?_) (fun _ _ _ _ _ _ us hl => match us, hl with | [_, _], _ => rfl) (fun f cdv A outer s H vs Q E hr h => ?_)
  · obtain ⟨r, c, n, zs, rfl, _⟩ := h
    rfl
  · obtain ⟨r, c, n, zs, rfl, hn, hok, hrow, hc, q⟩ := h
    obtain ⟨a0, a2, a3, a4, a5, a6, a7, a8, a9, sq, t0, t2, t3, t4, t5, t6, t7, t8, t9⟩ := hn.ex
    have lzs := hrow.len
    have h40 := hok.ups.most
    have hst4 := hok.pl.st
    have hch3 := hok.pl.ch
    obtain ⟨_, stx, e2, hst, tst⟩ := t2.tup_of
    cases e2
    have lst : stx.length = n.st.length := by rw [tst.len, List.length_map]
    have hn4 : (stNames n).length ≤ 4 := by
      rw [List.length_map]
      exact hst4
    have lnm : (stNames n).length = stx.length := by rw [List.length_map, lst]
    have stat : ∀ (H' : Hp) (j : Nat), Same H H' → j < stx.length → ∃ ka x1 x2, stx[j]? = some (.ref ka) ∧ SqT K H' ka [.str ((stNames n).getD j ""), x1, x2] := fun H' j e hj => by
      have hx := List.getElem?_eq_getElem hj
      generalize stx[j] = x at hx
      obtain ⟨sk, hsk, htk⟩ := (tst.up (Gr.same e)).atF hx
      obtain ⟨ka, x0, x1, x2, rfl, hka, u0, _, _⟩ := tup3 htk
      cases u0.str_of
      refine ⟨ka, x1, x2, hx, ?_⟩
      have e : (stNames n).getD j "" = sk.1 := by
        rw [List.getD_eq_getElem?_getD, List.getElem?_map, hsk]
        rfl
      rw [e]
      exact hka
    obtain ⟨_, mxx, e3, hms, tms⟩ := t3.tup_of
    cases e3
    have lmx : mxx.length = n.ups.length := by rw [tms.len, List.length_map, hok.ms]
    obtain ⟨_, chx, e4, hch, tch⟩ := t4.tup_of
    cases e4
    have echx := tch.ints_of
    subst echx
    refine ⟨_, (pss_cons (ps_set (i := 2) sc_l_book.nd rfl (.inl rfl) (pe_lst pa_nil))
      (pss_cons (ps_set (i := 3) sc_l_book.nd rfl (.inl rfl) (pe_lst pa_nil))
      (pss_cons (ps_for PassesOwn.never rfl (pi_range1 (by rfl) B.range (pa_cons (pe_callB call_len_seq (by rfl) B.len bt_len (pa_cons (pv 1) pa_nil)) pa_nil)) (pg_name (i := 4) sc_l_book.nd rfl (.inl rfl)) 
        (pss_cons (ps_expr (pe_bm PySem.F.plainAttrs_list PySem.F.slot_list_append PySem.F.type_list_append mt_append (pv 2) (pa_cons (pe_tup (pa_cons (pe_ifExp (pt_cmpR op_ne (pe_ix ix_tup (pv 1) (pv 4) (fun _ _ => rfl)) pe_str (nomark _)) (pe_ix ix_tup (pv 1) (pv 4) (fun _ _ => rfl)) pe_str) (pa_cons (pe_ix ix_tup (pe_ix ix_tup (pv 0) pe_int (fun _ _ => rfl)) (pv 4) (fun _ _ => rfl)) pa_nil))) pa_nil)))
        (pss_one (ps_if (pt_cmpR op_ne (pe_ix ix_tup (pv 1) (pv 4) (fun _ _ => rfl)) pe_str (nomark _)) 
          (pss_one (ps_for PassesOwn.never rfl (pi_tup (pe_ix ix_tup (pv 0) pe_int (fun _ _ => rfl))) (pg_name (i := 5) sc_l_book.nd rfl (.inl rfl)) 
            (pss_one (ps_for PassesOwn.never rfl (pi_range1 (by rfl) B.range (pa_cons (pe_callB call_len_seq (by rfl) B.len bt_len (pa_cons (pe_ix ix_tup (pv 0) pe_int (fun _ _ => rfl)) pa_nil)) pa_nil)) (pg_name (i := 6) sc_l_book.nd rfl (.inl rfl)) 
              (pss_one (ps_for PassesOwn.never rfl (pi_range2 (by rfl) B.range (pa_cons (pe_op op_add (pv 6) pe_int) (pa_cons (pe_callB call_len_seq (by rfl) B.len bt_len (pa_cons (pe_ix ix_tup (pv 0) pe_int (fun _ _ => rfl)) pa_nil)) pa_nil))) (pg_name (i := 7) sc_l_book.nd rfl (.inl rfl)) 
                (pss_one (ps_expr (pe_bm PySem.F.plainAttrs_list PySem.F.slot_list_append PySem.F.type_list_append mt_append (pv 3) (pa_cons (pe_tup (pa_cons pe_str (pa_cons (pv 4) (pa_cons (pv 5) (pa_cons (pe_ix ix_tup (pe_ix ix_tup (pe_ix ix_tup (pv 0) pe_int (fun _ _ => rfl)) (pv 6) (fun _ _ => rfl)) pe_int (fun _ _ => rfl)) (pa_cons (pe_ix ix_tup (pe_ix ix_tup (pe_ix ix_tup (pv 0) pe_int (fun _ _ => rfl)) (pv 7) (fun _ _ => rfl)) pe_int (fun _ _ => rfl)) (pa_cons pe_int pa_nil))))))) pa_nil)))))))))) pss_nil))))
      (pss_cons (ps_set (i := 8) sc_l_book.nd rfl (.inl rfl) (pe_tup (pa_cons (pe_ix ix_tup (pv 0) pe_int (fun _ _ => rfl)) (pa_cons (pe_ix ix_tup (pv 0) pe_int (fun _ _ => rfl)) (pa_cons (pe_ix ix_tup (pv 0) pe_int (fun _ _ => rfl)) (pa_cons (pe_callTy call_tuple_of (by rfl) B.tuple bt_tuple (pa_cons (pv 2) pa_nil)) (pa_cons (pe_ix ix_tup (pv 0) pe_int (fun _ _ => rfl)) (pa_cons (pe_ix ix_tup (pv 0) pe_int (fun _ _ => rfl)) pa_nil))))))))
      (pss_one (ps_ret (pe_tup (pa_cons (pv 8) (pa_cons (pe_op op_catA (pe_callTy call_tuple_of (by rfl) B.tuple bt_tuple (pa_cons (pv 3) pa_nil)) (pe_ix ix_tup (pv 0) pe_int (fun _ _ => rfl))) (pa_cons (pe_tup pa_nil) pa_nil)))))))))), ?_⟩
    refine ⟨by show 0 ≤ sizeLine; decide, fun l1 nl1 => ⟨by show 0 ≤ sizeLine; decide, fun l2 nl2 => ?_⟩⟩
    have n12 : l1 ≠ l2 := ne_of_none upd_same nl2
    have nl2' : H l2 = none := (same_new (o := .lst []) nl1).free nl2
    have s3 := (same_new (o := .lst []) nl1).trans (same_new (o := .lst []) nl2)
    have el1 : (upd (upd H l1 (.lst [])) l2 (.lst [])) l1 = some (.lst []) := by rw [upd_ne n12, upd_same]
    have el2 : (upd (upd H l1 (.lst [])) l2 (.lst [])) l2 = some (.lst []) := upd_same
    generalize upd (upd H l1 (.lst [])) l2 (.lst []) = H3 at s3 el1 el2
    refine ⟨_, rfl, c, _, rfl, .inr ((Gr.same s3).t hc), _, rfl, by rw [List.length_map]; omega, by rw [List.length_map]; omega, ?_⟩
    refine for_range (n := ((((zs.map V.str).length : Nat) : Int)).toNat) (fun i σ H4 => ∃ y4 y5 y6 y7 sx rx, σ = [some (.ref r), some (.ref c), some (.ref l1), some (.ref l2), y4, y5, y6, y7, none] ∧ Same H H4 ∧ H4 l1 = some (.lst sx) ∧ TpAll K H4 sx (stands zs n.ms i) ∧ H4 l2 = some (.lst rx) ∧ TpAll K H4 rx (bookRows (stNames n) n.ch zs i))
      ⟨_, _, _, _, [], [], rfl, s3, el1, .nil, el2, .nil⟩ (fun i σ H5 hi h4 => ?_) (fun σ H4 h4 => ?_)
    · obtain ⟨y4, y5, y6, y7, sx, rx, rfl, s5, e15, ts5, e25, tr5⟩ := h4
      have hi : i < zs.length := by
        rw [List.length_map] at hi
        omega
      have hz := List.getElem?_eq_getElem hi
      generalize zs[i] = z at hz
      have ei : (0 : Int) + (i : Int) = ((i : Nat) : Int) := by omega
      have hgd : zs.getD i "" = z := by rw [List.getD_eq_getElem?_getD, hz]; rfl
      have hmi : i < mxx.length := by omega
      have hmx := List.getElem?_eq_getElem hmi
      obtain ⟨mm, hmm, tmm⟩ := (tms.up (Gr.same s5)).atF hmx
      have hgm : n.ms.getD i (0, 0, 0, 0) = mm := by rw [List.getD_eq_getElem?_getD, hmm]; rfl
      have hc5 := (Gr.same s5).t hc
      have hcz := map_at V.str hz
      refine ⟨_, rfl, .inl ⟨rfl, _, .of e15⟩, ?_⟩
      refine ex_ifP (P := fun v => v = V.str (if z = "" then "rest" else z)) (b := !decide (V.str z = V.str "")) (fun Q q => ?_) (fun e Q q => ?_) (fun e Q q => ?_) (fun v hv => ?_)
      · exact ⟨_, rfl, _, rfl, c, _, _, _, rfl, rfl, hc5, at_of ei hcz, rfl, _, rfl, q⟩
      · rw [decS] at e
        have ez : z ≠ "" := by simpa using e
        exact ⟨_, rfl, _, rfl, c, _, _, _, rfl, rfl, hc5, at_of ei hcz, q _ (by rw [if_neg ez])⟩
      · rw [decS] at e
        have ez : z = "" := by simpa using e
        exact q _ (by rw [if_pos ez])
      subst hv
      refine ⟨_, rfl, r, _, 3, _, rfl, rfl, (Gr.same s5).t sq, atI_nat (j := 3) rfl, _, rfl, a3, mxx, _, _, rfl, rfl, (Gr.same s5).t hms, at_of ei hmx, by show 2 ≤ sizeLine; decide, fun t nt => ?_⟩
      have g6 := same_new (o := .tup [.str (if z = "" then "rest" else z), mxx[i]]) nt
      have et : (upd H5 t (.tup [.str (if z = "" then "rest" else z), mxx[i]])) t = some (.tup [.str (if z = "" then "rest" else z), mxx[i]]) := upd_same
      generalize upd H5 t (.tup [.str (if z = "" then "rest" else z), mxx[i]]) = H6 at g6 et
      have s6 := s5.trans g6
      have e16 := g6 _ _ e15
      have lsx : sx.length = i := by
        rw [ts5.len]
        unfold stands
        rw [List.length_map, List.length_range]
      refine ⟨l1, _, _, rfl, rfl, e16, small1000 (by omega), ?_⟩
      have tst6 : Tp K H6 (.ref t) (standD zs n.ms i) := by
        unfold standD
        rw [hgd, hgm]
        exact .tup (.of et) (.cons (.str _) (.cons (tmm.up (Gr.same g6)) .nil))
      have s7 : Same H (upd H6 l1 (.lst (sx ++ [.ref t]))) := smut s6 nl1
      have e17 : (upd H6 l1 (.lst (sx ++ [.ref t]))) l1 = some (.lst (sx ++ [.ref t])) := upd_same
      have e27 : (upd H6 l1 (.lst (sx ++ [.ref t]))) l2 = some (.lst rx) := by rw [upd_ne n12.symm]; exact g6 _ _ e25
      have ts7 : TpAll K (upd H6 l1 (.lst (sx ++ [.ref t]))) (sx ++ [.ref t]) (stands zs n.ms (i + 1)) := by
        rw [stands_succ]
        exact ((ts5.up (Gr.same g6)).app (.one tst6)).up (Gr.lst e16)
      have tr7 : TpAll K (upd H6 l1 (.lst (sx ++ [.ref t]))) rx (bookRows (stNames n) n.ch zs i) := (tr5.up (Gr.same g6)).up (Gr.lst e16)
      generalize upd H6 l1 (.lst (sx ++ [.ref t])) = H7 at s7 e17 e27 ts7 tr7
      generalize sx ++ [.ref t] = sx' at e17 ts7
      rw [book_succ, hgd]
      refine ⟨_, rfl, _, rfl, c, _, _, _, rfl, rfl, (Gr.same s7).t hc, at_of ei hcz, rfl, _, rfl, ite2 (fun e => ?_) (fun e => ?_)⟩
      · rw [decS] at e
        have ez : z ≠ "" := by simpa using e
        rw [if_neg ez]
        have hbl := book_len (stNames n) hn4 n.ch hch3 zs i
        refine ⟨_, rfl, r, _, 4, _, rfl, rfl, (Gr.same s7).t sq, atI_nat (j := 4) rfl, a4, rfl, ⟨_, (Gr.same s7).t hch⟩, ?_⟩
        refine for_tup (K := K) (a := a4) (xs := n.ch.map V.int) (fun k σ H8 => ∃ y5 y6 y7 rx, σ = [some (.ref r), some (.ref c), some (.ref l1), some (.ref l2), some (.int (0 + (i : Int))), y5, y6, y7, none] ∧ Same H H8 ∧ H8 l1 = some (.lst sx') ∧ TpAll K H8 sx' (stands zs n.ms (i + 1)) ∧ H8 l2 = some (.lst rx) ∧ TpAll K H8 rx (bookRows (stNames n) n.ch zs i ++ chRows (i : Int) (stNames n) (n.ch.take k)))
          ⟨_, _, _, rx, rfl, s7, e17, ts7, e27, by
            show TpAll K H7 rx (_ ++ [])
            rw [List.append_nil]
            exact tr7⟩ (fun k σ H8 _ h8 => let ⟨_, _, _, _, _, s, _⟩ := h8; (Gr.same s).t hch) (fun k x σ H8 hx h8 => ?_) (fun σ H8 h8 => ?_)
        · obtain ⟨y5, y6, y7, rx, rfl, s8, e18, ts8, e28, tr8⟩ := h8
          obtain ⟨cv, hcv, rfl, hk⟩ := map_at_inv hx
          have hB : (bookRows (stNames n) n.ch zs i ++ chRows (i : Int) (stNames n) (n.ch.take k)).length ≤ 1968 := by
            have h1 := chRows_len (i : Int) (stNames n) hn4 (n.ch.take k)
            rw [List.length_take] at h1
            have h2 : i * 48 ≤ 40 * 48 := Nat.mul_le_mul_right _ (by omega)
            have h3 : min k n.ch.length * 16 ≤ 3 * 16 := Nat.mul_le_mul_right _ (by omega)
            rw [List.length_append]
            omega
          rw [take_next hcv, chRows_snoc, ← List.append_assoc]
          generalize bookRows (stNames n) n.ch zs i ++ chRows (i : Int) (stNames n) (n.ch.take k) = BB at tr8 hB
          refine ⟨_, rfl, r, _, 2, _, rfl, rfl, (Gr.same s8).t sq, atI_nat (j := 2) rfl, a2, stx, rfl, .inr ((Gr.same s8).t hst), _, rfl, by omega, by omega, ?_⟩
          refine for_range (n := ((stx.length : Nat) : Int).toNat) (fun fi σ H9 => ∃ y6 y7 rx, σ = [some (.ref r), some (.ref c), some (.ref l1), some (.ref l2), some (.int (0 + (i : Int))), some (.int cv), y6, y7, none] ∧ Same H H9 ∧ H9 l1 = some (.lst sx') ∧ TpAll K H9 sx' (stands zs n.ms (i + 1)) ∧ H9 l2 = some (.lst rx) ∧ TpAll K H9 rx (BB ++ (pairsUpto (stNames n) fi).map (rowD (i : Int) cv)))
            ⟨_, _, rx, rfl, s8, e18, ts8, e28, by
              show TpAll K H8 rx (_ ++ [])
              rw [List.append_nil]
              exact tr8⟩ (fun fi σ H9 hfi h9 => ?_) (fun σ H9 h9 => ?_)
          · obtain ⟨y6, y7, rx, rfl, s9, e19, ts9, e29, tr9⟩ := h9
            have hfi : fi < stx.length := by omega
            refine ⟨_, rfl, _, _, rfl, rfl, _, rfl, r, _, 2, _, rfl, rfl, (Gr.same s9).t sq, atI_nat (j := 2) rfl, a2, stx, rfl, .inr ((Gr.same s9).t hst), _, _, rfl, ⟨by omega, by omega, by omega, by omega⟩, ?_⟩
            refine for_range (n := (((stx.length : Nat) : Int) - (0 + (fi : Int) + 1)).toNat) (fun m σ H10 => ∃ y7 rx, σ = [some (.ref r), some (.ref c), some (.ref l1), some (.ref l2), some (.int (0 + (i : Int))), some (.int cv), some (.int (0 + (fi : Int))), y7, none] ∧ Same H H10 ∧ H10 l1 = some (.lst sx') ∧ TpAll K H10 sx' (stands zs n.ms (i + 1)) ∧ H10 l2 = some (.lst rx) ∧ TpAll K H10 rx (BB ++ (pairsUpto (stNames n) fi ++ (((stNames n).drop (fi + 1)).take m).map fun o => ((stNames n).getD fi "", o)).map (rowD (i : Int) cv)))
              ⟨_, rx, rfl, s9, e19, ts9, e29, by
                rw [List.take_zero, List.map_nil, List.append_nil]
                exact tr9⟩ (fun m σ H10 hm h10 => ?_) (fun σ H10 h10 => ?_)
            · obtain ⟨y7, rx, rfl, s10, e110, ts10, e210, tr10⟩ := h10
              have hse : fi + 1 + m < stx.length := by omega
              obtain ⟨ka, x1, x2, hka, ska⟩ := stat H10 fi s10 hfi
              obtain ⟨kb, x3, x4, hkb, skb⟩ := stat H10 (fi + 1 + m) s10 hse
              have hdr : ((stNames n).drop (fi + 1))[m]? = some ((stNames n).getD (fi + 1 + m) "") := by
                have hlt : fi + 1 + m < (stNames n).length := by omega
                rw [List.getElem?_drop, List.getD_eq_getElem?_getD, List.getElem?_eq_getElem hlt]
                rfl
              have lrx : rx.length ≤ 2000 := by
                have h1 := pairs_len (stNames n) fi
                have h2 : fi * (stNames n).length ≤ 4 * 4 := Nat.mul_le_mul (by omega) hn4
                rw [tr10.len, List.length_append, List.length_map, List.length_append, List.length_map, List.length_take, List.length_drop]
                omega
              refine ⟨_, rfl, .inl ⟨rfl, _, .of e210⟩, _, rfl, _, rfl, ?_⟩
              refine ⟨_, rfl, r, _, 2, _, rfl, rfl, (Gr.same s10).t sq, atI_nat (j := 2) rfl, _, rfl, a2, stx, _, _, rfl, rfl, (Gr.same s10).t hst, at_of (j := fi) (by omega) hka, ka, _, 0, _, rfl, rfl, ska, atI_nat (j := 0) rfl, ?_⟩
              refine ⟨_, rfl, r, _, 2, _, rfl, rfl, (Gr.same s10).t sq, atI_nat (j := 2) rfl, _, rfl, a2, stx, _, _, rfl, rfl, (Gr.same s10).t hst, at_of (j := fi + 1 + m) (by omega) hkb, kb, _, 0, _, rfl, rfl, skb, atI_nat (j := 0) rfl, by show 6 ≤ sizeLine; decide, fun t nt => ?_⟩
              rw [ei]
              have g11 := same_new (o := .tup [.str "seen", .int (i : Int), .int cv, .str ((stNames n).getD fi ""), .str ((stNames n).getD (fi + 1 + m) ""), .int 0]) nt
              have tt : Tp K (upd H10 t (.tup [.str "seen", .int (i : Int), .int cv, .str ((stNames n).getD fi ""), .str ((stNames n).getD (fi + 1 + m) ""), .int 0])) (.ref t) (rowD (i : Int) cv ((stNames n).getD fi "", (stNames n).getD (fi + 1 + m) "")) := .tup (.of upd_same) (.cons (.str _) (.cons (.int _) (.cons (.int _) (.cons (.str _) (.cons (.str _) (.cons (.int _) .nil))))))
              generalize upd H10 t (.tup [.str "seen", .int (i : Int), .int cv, .str ((stNames n).getD fi ""), .str ((stNames n).getD (fi + 1 + m) ""), .int 0]) = H11 at g11 tt
              have e211 := g11 _ _ e210
              refine ⟨l2, _, _, rfl, rfl, e211, small100k (by omega), ?_⟩
              refine ⟨_, rx ++ [.ref t], rfl, smut (s10.trans g11) nl2', by rw [upd_ne n12]; exact g11 _ _ e110, (ts10.up (Gr.same g11)).up (Gr.lst e211), upd_same, ?_⟩
              rw [take_next hdr, List.map_append (l₁ := ((stNames n).drop (fi + 1)).take m), ← List.append_assoc (pairsUpto (stNames n) fi), List.map_append, ← List.append_assoc]
              exact ((tr10.up (Gr.same g11)).app (.one tt)).up (Gr.lst e211)
            · obtain ⟨y7, rx, rfl, s10, e110, ts10, e210, tr10⟩ := h10
              have ecnt : (((stNames n).drop (fi + 1)).take (((stx.length : Nat) : Int) - (0 + (fi : Int) + 1)).toNat) = (stNames n).drop (fi + 1) := List.take_of_length_le (by rw [List.length_drop]; omega)
              rw [ecnt, ← pairs_succ] at tr10
              exact ⟨_, _, rx, rfl, s10, e110, ts10, e210, tr10⟩
          · obtain ⟨y6, y7, rx, rfl, s9, e19, ts9, e29, tr9⟩ := h9
            rw [Int.toNat_natCast, ← lnm] at tr9
            exact ⟨_, _, _, rx, rfl, s9, e19, ts9, e29, tr9⟩
        · obtain ⟨y5, y6, y7, rx, rfl, s8, e18, ts8, e28, tr8⟩ := h8
          rw [List.length_map, List.take_length] at tr8
          exact ⟨_, _, _, _, sx', rx, rfl, s8, e18, ts8, e28, tr8⟩
      · rw [decS] at e
        have ez : z = "" := by simpa using e
        rw [if_pos ez, List.append_nil]
        exact ⟨_, _, _, _, sx', rx, rfl, s7, e17, ts7, e27, tr7⟩
    · obtain ⟨y4, y5, y6, y7, sx, rx, rfl, s04, e1, ts, e2, tr⟩ := h4
      rw [List.length_map, Int.toNat_natCast] at ts tr
      have sq4 := (Gr.same s04).t sq
      refine ⟨_, rfl, r, _, 0, _, rfl, rfl, sq4, atI_nat (j := 0) rfl, _, rfl, r, _, 1, _, rfl, rfl, sq4, atI_nat (j := 1) rfl, _, rfl, r, _, 2, _, rfl, rfl, sq4, atI_nat (j := 2) rfl, _, rfl, l1, sx, rfl, .inl ⟨.of e1, fun t1 nt1 => ?_⟩⟩
      have g5 := same_new (o := .tup sx) nt1
      have tt1 : Tp K (upd H4 t1 (.tup sx)) (.ref t1) (.tuple (stands zs n.ms zs.length)) := .tup (.of upd_same) (ts.up (Gr.same g5))
      generalize upd H4 t1 (.tup sx) = H5 at g5 tt1
      have sq5 := (Gr.same g5).t sq4
      refine ⟨_, rfl, r, _, 4, _, rfl, rfl, sq5, atI_nat (j := 4) rfl, _, rfl, r, _, 5, _, rfl, rfl, sq5, atI_nat (j := 5) rfl, by show 6 ≤ sizeLine; decide, fun t2' nt2 => ?_⟩
      have g6 := same_new (o := .tup [.ref a0, .int n.fo, .ref a2, .ref t1, .ref a4, .ref a5]) nt2
      have et2 : (upd H5 t2' (.tup [.ref a0, .int n.fo, .ref a2, .ref t1, .ref a4, .ref a5])) t2' = some (.tup [.ref a0, .int n.fo, .ref a2, .ref t1, .ref a4, .ref a5]) := upd_same
      generalize upd H5 t2' (.tup [.ref a0, .int n.fo, .ref a2, .ref t1, .ref a4, .ref a5]) = H6 at g6 et2
      have g46 := g5.trans g6
      refine ⟨_, rfl, _, rfl, l2, rx, rfl, .inl ⟨.of (g46 _ _ e2), fun t3' nt3 => ?_⟩⟩
      have g7 := same_new (o := .tup rx) nt3
      have ht3 : SqT K (upd H6 t3' (.tup rx)) t3' rx := .of upd_same
      generalize upd H6 t3' (.tup rx) = H7 at g7 ht3
      have g47 := g46.trans g7
      have s07 := s04.trans g47
      obtain ⟨_, fx, e9, hfs, tfs⟩ := t9.tup_of
      cases e9
      have lrx : rx.length ≤ 1920 := by
        have h1 := book_len (stNames n) hn4 n.ch hch3 zs zs.length
        have h2 : zs.length * 48 ≤ 40 * 48 := Nat.mul_le_mul_right _ (by omega)
        rw [tr.len]
        omega
      have lfx : fx.length ≤ 3 := by
        rw [tfs.len, List.length_map]
        exact hok.fs
      refine ⟨_, rfl, r, _, 9, _, rfl, rfl, (Gr.same s07).t sq, atI_nat (j := 9) rfl, ?_⟩
      refine cat_tp ht3 (tr.up (Gr.same g47)) ((Gr.same s07).t hfs) (tfs.up (Gr.same s07)) (by omega) fun t4' H8 ws g8 ht4 tw => ?_
      refine ⟨by show 0 ≤ sizeLine; decide, fun t5' nt5 => ?_⟩
      have g9 := same_new (o := .tup []) nt5
      have tt5 : Tp K (upd H8 t5' (.tup [])) (.ref t5') (.tuple []) := .tup (.of upd_same) .nil
      generalize upd H8 t5' (.tup []) = H9 at g9 tt5
      refine ⟨by show 3 ≤ sizeLine; decide, fun t6' nt6 => ?_⟩
      have g10 := same_new (o := .tup [.ref t2', .ref t4', .ref t5']) nt6
      have g810 := g9.trans g10
      have g610 := g7.trans (g8.trans g810)
      have g010 := s04.trans (g46.trans g610)
      have G := Gr.same g010
      refine q _ _ g010 (.tup (.of upd_same) (.cons (.tup ((Gr.same g610).t (.of et2)) ?_) (.cons (.tup ((Gr.same g810).t ht4) (tw.up (Gr.same g810))) (.cons (tt5.up (Gr.same g10)) .nil))))
      exact .cons (t0.up G) (.cons (.int _) (.cons (t2.up G) (.cons (tt1.up (Gr.same (g6.trans g610))) (.cons (t4.up G) (.cons (t5.up G) .nil)))))
end
end K78
set_option Elab.async false
set_option linter.all false
set_option maxRecDepth 100000
set_option maxHeartbeats 4000000
namespace KB
open PySem PySem.Spec PyProof.Rows L2
mutual
/-- how many data a datum holds, itself counted -/
def nd : PyData → Nat
  | .tuple ds => 1 + ndA ds
  | .none => 1
  | .bool _ => 1
  | .int _ => 1
  | .str _ => 1
  | .list _ => 1
  | .dict _ => 1
def ndA : List PyData → Nat
  | [] => 0
  | d :: ds => nd d + ndA ds
end
theorem nd_pos : ∀ d : PyData, 1 ≤ nd d
  | .tuple ds => by rw [nd]; omega
  | .none => Nat.le_refl 1
  | .bool _ => Nat.le_refl 1
  | .int _ => Nat.le_refl 1
  | .str _ => Nat.le_refl 1
  | .list _ => Nat.le_refl 1
  | .dict _ => Nat.le_refl 1
theorem ndA_nil : ndA [] = 0 := by rw [ndA]
theorem ndA_cons (d : PyData) (ds : List PyData) : ndA (d :: ds) = nd d + ndA ds := by rw [ndA]
theorem ndA_app : ∀ ds es : List PyData, ndA (ds ++ es) = ndA ds + ndA es
  | [], es => by rw [List.nil_append, ndA_nil]; omega
  | d :: ds, es => by
    rw [List.cons_append, ndA_cons, ndA_cons, ndA_app ds es]
    omega
theorem ndA_len : ∀ ds : List PyData, ds.length ≤ ndA ds
  | [] => Nat.zero_le _
  | d :: ds => by
    have h1 := ndA_len ds
    have h2 := nd_pos d
    rw [List.length_cons, ndA_cons]
    omega
theorem ndA_take : ∀ (ds : List PyData) (i : Nat), ndA (ds.take i) ≤ ndA ds
  | [], _ => by simp
  | d :: ds, 0 => by rw [List.take_zero, ndA_nil]; omega
  | d :: ds, i + 1 => by
    have := ndA_take ds i
    rw [List.take_succ_cons, ndA_cons, ndA_cons]
    omega
abbrev ppD (d : PyData) : PyData := .tuple [d, d]
theorem tpa_snoc {K : PySem.W.Frag} {H : Hp} {e : PyData} : ∀ {ds : List PyData} {xs : List V}, TpAll K H xs (ds ++ [e]) → ∃ ys y, xs = ys ++ [y] ∧ TpAll K H ys ds ∧ Tp K H y e
  | [], xs, h => by
    cases h with
    | cons h1 h2 =>
      cases h2
      exact ⟨[], _, rfl, .nil, h1⟩
  | d :: ds, xs, h => by
    cases h with
    | cons h1 h2 =>
      obtain ⟨ys, y, rfl, h3, h4⟩ := tpa_snoc h2
      exact ⟨_ :: ys, y, rfl, .cons h1 h3, h4⟩
theorem small200k {n : Nat} (h : n ≤ 200000) : n < sizeLine := Nat.lt_of_le_of_lt h (by decide)
end KB
namespace K78
open PySem PySem.Spec PyProof.Rows L2 KB RZ
section
variable {P : Program} {w : World} {K : PySem.W.Frag} {mg : Str → Option Value} {base : Heap}
def spSame (K : PySem.W.Frag) : Sp := fun vs H Q _ => ∃ (v1 v2 : V) (d : PyData), vs = [v1, v2] ∧ Tp K H v1 d ∧ Tp K H v2 d ∧ nd d ≤ 199999 ∧ ∀ H', Same H H' → Q (.bl true) H'
theorem c_l_same (D : Dn K mg "_law_same" s_l_same) (B : Bl mg) : Cal P w K mg base 1 "_law_same" (spSame K) := by
  refine cal_of D sc_l_same (fun vs H Q E h => ?_) (fun _ _ _ _ _ _ us hl => match us, hl with | [_, _], _ => rfl) (fun f cdv A outer s H vs Q E hr h => ?_)
  · obtain ⟨v1, v2, d, rfl, _⟩ := h
    rfl
  · obtain ⟨v1, v2, d0, rfl, hv1, hv2, hnd, q⟩ := h
    refine ⟨_, (pss_cons (ps_set (i := 2) sc_l_same.nd rfl (.inl rfl) (pe_lst (pa_cons (pe_tup (pa_cons (pv 0) (pa_cons (pv 1) pa_nil))) pa_nil)))
      (pss_cons (ps_for PassesOwn.never rfl (pi_range1 (by rfl) B.range (pa_cons pe_int pa_nil)) (pg_name (i := 3) sc_l_same.nd rfl (.inl rfl)) 
        (pss_cons (ps_if (pt_cmpR op_eq (pe_callB call_len_seq (by rfl) B.len bt_len (pa_cons (pv 2) pa_nil)) pe_int (nomark _)) 
          (pss_one (ps_ret pe_bl)) pss_nil)
        (pss_cons (ps_asg (pe_bm0 PySem.F.plainAttrs_list PySem.F.slot_list_pop PySem.F.type_list_pop mt_pop (pv 2)) (pg_tup rfl (pgs_cons (pg_name (i := 4) sc_l_same.nd rfl (.inl rfl)) (pgs_cons (pg_name (i := 5) sc_l_same.nd rfl (.inl rfl)) pgs_nil))))
        (pss_one (ps_if (pt_val (pe_callB call_is_tuple (by rfl) B.isinstance bt_isinstance (pa_cons (pv 5) (pa_cons (pe_bltn (v := .ty "tuple") (by rfl) B.tuple bt_tuple rfl) pa_nil)))) 
          (pss_cons (ps_if (PW.pt (pw_or (pt_not (pt_val (pe_callB call_is_tuple (by rfl) B.isinstance bt_isinstance (pa_cons (pv 4) (pa_cons (pe_bltn (v := .ty "tuple") (by rfl) B.tuple bt_tuple rfl) pa_nil))))) (pw_or1 (pt_cmpR op_ne (pe_callB call_len_seq (by rfl) B.len bt_len (pa_cons (pv 4) pa_nil)) (pe_callB call_len_seq (by rfl) B.len bt_len (pa_cons (pv 5) pa_nil)) (nomark _))))) 
            (pss_one (ps_ret pe_bl)) pss_nil)
          (pss_one (ps_for PassesOwn.never rfl (pi_range1 (by rfl) B.range (pa_cons (pe_callB call_len_seq (by rfl) B.len bt_len (pa_cons (pv 5) pa_nil)) pa_nil)) (pg_name (i := 6) sc_l_same.nd rfl (.inl rfl)) 
            (pss_one (ps_expr (pe_bm PySem.F.plainAttrs_list PySem.F.slot_list_append PySem.F.type_list_append mt_append (pv 2) (pa_cons (pe_tup (pa_cons (pe_ix ix_tup (pv 4) (pv 6) (fun _ _ => rfl)) (pa_cons (pe_ix ix_tup (pv 5) (pv 6) (fun _ _ => rfl)) pa_nil))) pa_nil))))))) 
          (pss_one (ps_if (pt_val (pe_callB call_is_bool (by rfl) B.isinstance bt_isinstance (pa_cons (pv 5) (pa_cons (pe_bltn (v := .ty "bool") (by rfl) B.bool bt_bool rfl) pa_nil)))) 
            (pss_one (ps_if (PW.pt (pw_or (pt_not (pt_val (pe_callB call_is_bool (by rfl) B.isinstance bt_isinstance (pa_cons (pv 4) (pa_cons (pe_bltn (v := .ty "bool") (by rfl) B.bool bt_bool rfl) pa_nil))))) (pw_or1 (pt_cmpR op_ne (pv 4) (pv 5) (nomark _))))) 
              (pss_one (ps_ret pe_bl)) pss_nil)) 
            (pss_one (ps_if (pt_val (pe_callB call_is_int (by rfl) B.isinstance bt_isinstance (pa_cons (pv 5) (pa_cons (pe_bltn (v := .ty "int") (by rfl) B.int bt_int rfl) pa_nil)))) 
              (pss_one (ps_if (PW.pt (pw_or (pt_not (pt_val (pe_callB call_is_int (by rfl) B.isinstance bt_isinstance (pa_cons (pv 4) (pa_cons (pe_bltn (v := .ty "int") (by rfl) B.int bt_int rfl) pa_nil))))) (pw_or (pt_val (pe_callB call_is_bool (by rfl) B.isinstance bt_isinstance (pa_cons (pv 4) (pa_cons (pe_bltn (v := .ty "bool") (by rfl) B.bool bt_bool rfl) pa_nil)))) (pw_or1 (pt_cmpR op_ne (pv 4) (pv 5) (nomark _)))))) 
                (pss_one (ps_ret pe_bl)) pss_nil)) 
              (pss_one (ps_if (pt_val (pe_callB call_is_str (by rfl) B.isinstance bt_isinstance (pa_cons (pv 5) (pa_cons (pe_bltn (v := .ty "str") (by rfl) B.str bt_str rfl) pa_nil)))) 
                (pss_one (ps_if (PW.pt (pw_or (pt_not (pt_val (pe_callB call_is_str (by rfl) B.isinstance bt_isinstance (pa_cons (pv 4) (pa_cons (pe_bltn (v := .ty "str") (by rfl) B.str bt_str rfl) pa_nil))))) (pw_or1 (pt_cmpR op_ne (pv 4) (pv 5) (nomark _))))) 
                  (pss_one (ps_ret pe_bl)) pss_nil)) 
                (pss_one (ps_if (pt_cmpR op_notN (pv 4) pe_non (nomark _)) 
                  (pss_one (ps_ret pe_bl)) pss_nil)))))))))))))
      (pss_one (ps_ret pe_bl)))), ?_⟩
    refine ⟨_, rfl, _, rfl, by show 2 ≤ sizeLine; decide, fun t nt => ?_⟩
    have g1 := same_new (o := .tup [v1, v2]) nt
    have tt : Tp K (upd H t (.tup [v1, v2])) (.ref t) (ppD d0) := .tup (.of upd_same) (.cons (hv1.up (Gr.same g1)) (.cons (hv2.up (Gr.same g1)) .nil))
    generalize upd H t (.tup [v1, v2]) = H1 at g1 tt
    refine ⟨by show 1 ≤ sizeLine; decide, fun l nl => ?_⟩
    have nlH : H l = none := g1.free nl
    have g2 := same_new (o := .lst [.ref t]) nl
    refine ⟨200000, rfl, by decide, by decide, ?_⟩
    refine for_range (n := (200000 : Int).toNat) (fun i σ H3 => ∃ y3 y4 y5 y6 xs ds, σ = [some v1, some v2, some (.ref l), y3, y4, y5, y6] ∧ Same H H3 ∧ H3 l = some (.lst xs) ∧ TpAll K H3 xs (ds.map ppD) ∧ ndA ds + i ≤ nd d0)
      ⟨_, _, _, _, [.ref t], [d0], rfl, g1.trans g2, upd_same, .cons (tt.up (Gr.same g2)) .nil, by rw [ndA_cons, ndA_nil]; omega⟩ (fun i σ H3 hi h3 => ?_) (fun σ H3 h3 => ?_)
    · obtain ⟨y3, y4, y5, y6, xs, ds, rfl, s3, el, ht, hsum⟩ := h3
      have lxs : xs.length = ds.length := by rw [ht.len, List.length_map]
      refine ⟨_, rfl, l, xs, rfl, .inl (.of el), rfl, _, rfl, ite2 (fun e => ?_) (fun e => ?_)⟩
      · exact q H3 s3
      have hne : ds ≠ [] := fun z => by
        refine e (decide_eq_true ?_)
        rw [lxs, z]
        rfl
      obtain ⟨dd, d, rfl⟩ : ∃ dd d, ds = dd ++ [d] := ⟨ds.dropLast, ds.getLast hne, (List.dropLast_concat_getLast hne).symm⟩
      rw [List.map_append] at ht
      obtain ⟨ys, y, rfl, hty, hy⟩ := tpa_snoc ht
      rw [ndA_app, ndA_cons, ndA_nil] at hsum
      have hlen := ndA_len dd
      have hdl : (dd ++ [d]).length = dd.length + 1 := by rw [List.length_append]; rfl
      obtain ⟨pa, x1, x2, rfl, hpa, hx1, hx2⟩ := tup2 hy
      refine ⟨_, rfl, .inl ⟨rfl, _, .of el⟩, l, _, .ref pa, rfl, rfl, el, ?_, ?_⟩
      · simp
      rw [List.dropLast_concat]
      have el4 : (upd H3 l (.lst ys)) l = some (.lst ys) := upd_same
      have s4 : Same H (upd H3 l (.lst ys)) := smut s3 nlH
      have gl : Gr H3 (upd H3 l (.lst ys)) := Gr.lst el
      have hpa4 := gl.t hpa
      have hx14 := hx1.up gl
      have hx24 := hx2.up gl
      have hty4 := hty.up gl
      generalize upd H3 l (.lst ys) = H4 at el4 s4 hpa4 hx14 hx24 hty4
      refine ⟨pa, _, rfl, hpa4, rfl, _, _, rfl, _, _, rfl, rfl, ?_⟩
      clear hx1 hx2 hpa hty ht gl el hy
      have next : ∀ y6, ∃ y3 y4 y5 y6' xs ds, ([some v1, some v2, some (.ref l), some (.int (0 + (i : Int))), some x1, some x2, y6] : L2.St) = [some v1, some v2, some (.ref l), y3, y4, y5, y6'] ∧ Same H H4 ∧ H4 l = some (.lst xs) ∧ TpAll K H4 xs (ds.map ppD) ∧ ndA ds + (i + 1) ≤ nd d0 := fun y6 =>
        ⟨_, _, _, _, ys, dd, rfl, s4, el4, hty4, by have := nd_pos d; omega⟩
      cases d with
      | none =>
        cases hx14
        cases hx24
        refine ⟨_, rfl, _, .none, rfl, .non, _, rfl, iteF ?_⟩
        refine ⟨_, rfl, _, .none, rfl, .non, _, rfl, iteF ?_⟩
        refine ⟨_, rfl, _, .none, rfl, .non, _, rfl, iteF ?_⟩
        refine ⟨_, rfl, _, .none, rfl, .non, _, rfl, iteF ?_⟩
        exact ⟨_, rfl, rfl, _, rfl, iteF (next _)⟩
      | bool b =>
        cases hx14
        cases hx24
        refine ⟨_, rfl, _, .bool b, rfl, .bl b, _, rfl, iteF ?_⟩
        refine ⟨_, rfl, _, .bool b, rfl, .bl b, _, rfl, iteT ?_⟩
        refine ⟨_, rfl, _, .bool b, rfl, .bl b, _, rfl, iteF ?_⟩
        refine ⟨_, rfl, _, rfl, rfl, _, rfl, ite2 (fun e => ?_) (fun _ => next _)⟩
        simp at e
      | int k =>
        cases hx14
        cases hx24
        refine ⟨_, rfl, _, .int k, rfl, .int k, _, rfl, iteF ?_⟩
        refine ⟨_, rfl, _, .int k, rfl, .int k, _, rfl, iteF ?_⟩
        refine ⟨_, rfl, _, .int k, rfl, .int k, _, rfl, iteT ?_⟩
        refine ⟨_, rfl, _, .int k, rfl, .int k, _, rfl, iteF ?_⟩
        refine ⟨_, rfl, _, .int k, rfl, .int k, _, rfl, iteF ?_⟩
        refine ⟨_, rfl, _, rfl, rfl, _, rfl, ite2 (fun e => ?_) (fun _ => next _)⟩
        simp at e
      | str z =>
        cases hx14
        cases hx24
        refine ⟨_, rfl, _, .str z, rfl, .str z, _, rfl, iteF ?_⟩
        refine ⟨_, rfl, _, .str z, rfl, .str z, _, rfl, iteF ?_⟩
        refine ⟨_, rfl, _, .str z, rfl, .str z, _, rfl, iteF ?_⟩
        refine ⟨_, rfl, _, .str z, rfl, .str z, _, rfl, iteT ?_⟩
        refine ⟨_, rfl, _, .str z, rfl, .str z, _, rfl, iteF ?_⟩
        refine ⟨_, rfl, _, rfl, rfl, _, rfl, ite2 (fun e => ?_) (fun _ => next _)⟩
        simp at e
      | list ds => cases hx14
      | dict ds => cases hx14
      | tuple cs =>
        obtain ⟨p1, w1, e1, hp1, hw1⟩ := id hx14.tup_of
        obtain ⟨p2, w2, e2, hp2, hw2⟩ := id hx24.tup_of
        subst e1
        subst e2
        have lw1 : w1.length = cs.length := hw1.len
        have lw2 : w2.length = cs.length := hw2.len
        rw [nd] at hsum
        have hcl := ndA_len cs
        refine ⟨_, rfl, _, .tuple cs, rfl, hx24.dp, _, rfl, iteT ?_⟩
        refine ⟨_, rfl, _, .tuple cs, rfl, hx14.dp, _, rfl, iteF ?_⟩
        refine ⟨_, rfl, p1, w1, rfl, .inr hp1, _, rfl, p2, w2, rfl, .inr hp2, rfl, _, rfl, ite2 (fun e => ?_) (fun _ => ?_)⟩
        · rw [lw1, lw2] at e
          simp at e
        refine ⟨_, rfl, p2, w2, rfl, .inr hp2, _, rfl, by omega, by omega, ?_⟩
        refine for_range (n := ((w2.length : Nat) : Int).toNat) (fun j σ H5 => ∃ y6 xs, σ = [some v1, some v2, some (.ref l), some (.int (0 + (i : Int))), some (.ref p1), some (.ref p2), y6] ∧ Same H H5 ∧ H5 l = some (.lst xs) ∧ TpAll K H5 xs ((dd ++ cs.take j).map ppD) ∧ SqT K H5 p1 w1 ∧ SqT K H5 p2 w2 ∧ TpAll K H5 w1 cs ∧ TpAll K H5 w2 cs)
          ⟨_, ys, rfl, s4, el4, by rw [List.take_zero, List.append_nil]; exact hty4, hp1, hp2, hw1, hw2⟩ (fun j σ H5 hj h5 => ?_) (fun σ H5 h5 => ?_)
        · obtain ⟨y6, xs, rfl, s5, el5, ht5, hq1, hq2, ht1, ht2⟩ := h5
          have hj : j < cs.length := by omega
          have hcj := List.getElem?_eq_getElem hj
          generalize cs[j] = cj at hcj
          obtain ⟨u1, hu1, tu1⟩ := ht1.get hcj
          obtain ⟨u2, hu2, tu2⟩ := ht2.get hcj
          have lxs5 : xs.length = dd.length + j := by rw [ht5.len, List.length_map, List.length_append, List.length_take, Nat.min_eq_left (by omega)]
          have ej : (0 : Int) + (j : Int) = ((j : Nat) : Int) := by omega
          refine ⟨_, rfl, .inl ⟨rfl, _, .of el5⟩, _, rfl, _, rfl, p1, w1, _, u1, rfl, rfl, hq1, at_of ej hu1, _, rfl, _, rfl, p2, w2, _, u2, rfl, rfl, hq2, at_of ej hu2, by show 2 ≤ sizeLine; decide, fun t nt => ?_⟩
          have g6 := same_new (o := .tup [u1, u2]) nt
          have tt : Tp K (upd H5 t (.tup [u1, u2])) (.ref t) (ppD cj) := .tup (.of upd_same) (.cons (tu1.up (Gr.same g6)) (.cons (tu2.up (Gr.same g6)) .nil))
          generalize upd H5 t (.tup [u1, u2]) = H6 at g6 tt
          have el6 := g6 _ _ el5
          have G := (Gr.same g6).trans (Gr.lst (o := .lst (xs ++ [.ref t])) el6)
          refine ⟨l, _, _, rfl, rfl, el6, small200k (by omega), ?_⟩
          refine ⟨_, xs ++ [.ref t], rfl, smut (s5.trans g6) nlH, upd_same, ?_, G.t hq1, G.t hq2, ht1.up G, ht2.up G⟩
          rw [take_next hcj, ← List.append_assoc, List.map_append]
          exact ((ht5.up (Gr.same g6)).app (.one tt)).up (Gr.lst el6)
        · obtain ⟨y6, xs, rfl, s5, el5, ht5, hq1, hq2, ht1, ht2⟩ := h5
          rw [Int.toNat_natCast, lw2, List.take_length] at ht5
          exact ⟨_, _, _, _, xs, dd ++ cs, rfl, s5, el5, ht5, by rw [ndA_app]; omega⟩
    · obtain ⟨y3, y4, y5, y6, xs, ds, rfl, s3, el, ht, hsum⟩ := h3
      have h2 : (200000 : Int).toNat = 200000 := rfl
      omega
end
end K78
set_option Elab.async false
set_option linter.all false
set_option maxRecDepth 100000
set_option maxHeartbeats 4000000
namespace KB
open PySem PySem.Spec PyProof.Rows L2
theorem t_bend {K : PySem.W.Frag} {σ : L2.St} {H : Hp} {c : Addr} {v : Int} {zs : List Str} {tm : TE} {ov : V} {od : PyData} {Q : VK} (h3 : σ[3]? = some (some (.ref c))) (h5 : σ[5]? = some (some (.int v))) (hc : SqT K H c (zs.map V.str)) (hz : zs.length ≤ 40)
    (hm : ∀ (H1 : Hp) (Q : VK), Same H H1 → (∀ H2, Same H1 H2 → Q ov H2) → tm σ H1 Q) (ho : ∀ H1, Same H H1 → Tp K H1 ov od) (q : ∀ cc H' ds, Same H H' → Tp K H' (.ref cc) (.tuple ds) → Q (.ref cc) H') :
    tOp (rCatA K) (tOp (rCatA K) (tSl (rSlA K) (tVar 3) tNoPart (tPart (tVar 5))) (tTup (tCons tm tNil))) (tSl (rSlA K) (tVar 3) (tPart (tOp (rI0 fun i j => .int (i + j)) (tVar 5) (tC (.int 1)))) tNoPart) σ H Q := by
  refine ⟨_, h3, _, h5, _, rfl, sl_any hc fun s1 H1 g1 hs1 => ?_⟩
  obtain ⟨ms, ems, lms, _⟩ := cut_map V.str zs none (some v)
  rw [ems] at hs1
  refine hm H1 _ g1 fun H2 g2 => ⟨by show 1 ≤ sizeLine; decide, fun t nt => ?_⟩
  have g3 := same_new (o := .tup [ov]) nt
  have g13 := g2.trans g3
  have g03 := g1.trans g13
  refine cat_tp ((Gr.same g13).t hs1) (.strs ms) (.of upd_same) (.one (ho _ g03)) (by rw [List.length_map]; show ms.length + 1 ≤ 100000; omega) fun p H4 ws g4 hp tw => ?_
  have g04 := g03.trans g4
  refine ⟨_, h3, _, h5, _, _, rfl, rfl, _, rfl, ?_⟩
  dsimp only [tNoPart]
  refine sl_any ((Gr.same g04).t hc) fun s2 H5 g5 hs2 => ?_
  obtain ⟨ms2, ems2, lms2, _⟩ := cut_map V.str zs (some (v + 1)) none
  rw [ems2] at hs2
  refine cat_tp ((Gr.same g5).t hp) (tw.up (Gr.same g5)) hs2 (.strs ms2) ?_ fun p2 H6 ws2 g6 hp2 tw2 => ?_
  · have h1 := tw.len
    rw [List.length_append, List.length_map] at h1
    rw [List.length_map, h1]
    show ms.length + 1 + ms2.length ≤ 100000
    omega
  · exact q p2 H6 _ (g04.trans (g5.trans g6)) (.tup hp2 tw2)
theorem last_at {α : Type} {xs : List α} (h : xs ≠ []) : ∃ x, atI xs (-1) = some x ∧ x ∈ xs := by
  have hl : 0 < xs.length := List.length_pos_iff.mpr h
  have e : ixN xs.length (-1) = some (xs.length - 1) := by
    unfold ixN
    rw [if_neg (by omega), if_pos (by omega)]
    congr 1
    omega
  have hlt : xs.length - 1 < xs.length := by omega
  refine ⟨xs[xs.length - 1], ?_, List.getElem_mem _⟩
  unfold atI
  rw [e]
  exact List.getElem?_eq_getElem hlt
theorem cut_last_len {α : Type} (f : α → V) (zs : List α) (h : zs ≠ []) : ∃ ms : List α, cutV (zs.map f) none (some (-1)) = ms.map f ∧ ms.length + 1 = zs.length := by
  have hl : 0 < zs.length := List.length_pos_iff.mpr h
  unfold cutV
  rw [← List.map_drop, ← List.map_take]
  refine ⟨_, rfl, ?_⟩
  rw [List.length_take, List.length_drop, List.length_map, show HT.sIx zs.length 0 none = 0 from HT.sIx_none _ _, show HT.sIx zs.length zs.length (some (-1)) = ((-1 : Int) + (zs.length : Int)).toNat from rfl]
  omega
end KB
namespace K78
open PySem PySem.Spec PyProof.Rows L2 KB RZ
section
variable {P : Program} {w : World} {K : PySem.W.Frag} {mg : Str → Option Value} {base : Heap}
def offLen (n : Nt) (d : PyData) : Prop := ∃ l, d = .tuple l ∧ l.length ≠ n.ups.length
def spBent (K : PySem.W.Frag) : Sp := fun vs H Q _ => ∃ (nb pl r c rf : Addr) (ns : List Int) (n : Nt) (zs : List Str) (rx : List V) (rows : List (List Str)), vs = [.ref nb, .ref pl, .ref r, .ref c, .ref rf] ∧ Nb K H nb pl ns ∧ NtAt K H r n ∧ NtOk n ∧ RowIn n.ups zs ∧ SqT K H c (zs.map V.str) ∧ H rf = some (.lst rx) ∧ TpAll K H rx (rows.map strsD) ∧ rows.length ≤ 128 ∧
  ∀ (b la : Addr) (xs : List V) (d1 d2 : PyData) (ds : List PyData) (H' : Hp), Same H H' → H' b = some (.lst (.ref la :: xs)) → H' la = some (.lst (zs.map V.str)) → TpAll K H' xs (d1 :: d2 :: ds) → offLen n d1 → offLen n d2 → xs.length ≤ 90000 → Q (.ref b) H'
theorem c_l_bent (D : Dn K mg "_law_bent" s_l_bent) (B : Bl mg) (C : Ca2 P w K mg base) : Cal P w K mg base 2 "_law_bent" (spBent K) := by
  refine cal_of D sc_l_bent (fun vs H Q E h => ?_) (fun _ _ _ _ _ _ us hl => match us, hl with | [_, _, _, _, _], _ => rfl) (fun f cdv A outer s H vs Q E hr h => ?_)
  · obtain ⟨nb, pl, r, c, rf, ns, n, zs, rx, rows, rfl, _⟩ := h
    rfl
  · obtain ⟨nb, pl, r, c, rf, ns, n, zs, rx, rows, rfl, hN, hn, hok, hrow, hc, hrf, hrx, lrows, q⟩ := h
    obtain ⟨a0, a2, a3, a4, a5, a6, a7, a8, a9, sq, t0, t2, t3, t4, t5, t6, t7, ⟨o, px, e8, oc, od, t8⟩, t9⟩ := hn.ex
    have lzs := hrow.len
    have h40 := hok.ups.most
    have h1 := hok.ups.one
    have zne : zs ≠ [] := fun z => by
      rw [z] at lzs
      simp at lzs
      omega
    refine ⟨_, (pss_cons (ps_set (i := 5) sc_l_bent.nd rfl (.inl rfl) (pe_c C.l_pick hr (by decide) rfl (pa_cons (pv 0) (pa_cons (pv 1) (pa_cons (pe_callB call_len_seq (by rfl) B.len bt_len (pa_cons (pv 3) pa_nil)) pa_nil)))))
      (pss_cons (ps_set (i := 6) sc_l_bent.nd rfl (.inl rfl) (pe_lst (pa_cons (pe_callTy call_list_of (by rfl) B.list bt_list (pa_cons (pv 3) pa_nil)) (pa_cons (pe_slice sl_tupA (pv 3) po_none (po_some (pe_un un_neg pe_int))) (pa_cons (pe_op op_catA (pv 3) (pe_tup (pa_cons pe_str pa_nil))) (pa_cons (pe_op op_catA (pv 3) (pe_tup (pa_cons (pe_ix ix_tup (pv 3) (pe_un un_neg pe_int) (fun _ _ => rfl)) pa_nil))) (pa_cons (pe_tup (pa_cons (pv 3) pa_nil)) (pa_cons pe_str (pa_cons pe_non pa_nil)))))))))
      (pss_cons (ps_for PassesOwn.never rfl (pi_tup (pe_tup (pa_cons pe_non (pa_cons pe_int (pa_cons pe_bl (pa_cons pe_str (pa_cons pe_str (pa_cons (pe_tup (pa_cons pe_str pa_nil)) (pa_cons pe_str pa_nil))))))))) (pg_name (i := 7) sc_l_bent.nd rfl (.inl rfl)) 
        (pss_one (ps_expr (pe_bm PySem.F.plainAttrs_list PySem.F.slot_list_append PySem.F.type_list_append mt_append (pv 6) (pa_cons (pe_op op_catA (pe_op op_catA (pe_slice sl_tupA (pv 3) po_none (po_some (pv 5))) (pe_tup (pa_cons (pv 7) pa_nil))) (pe_slice sl_tupA (pv 3) (po_some (pe_op op_add (pv 5) pe_int)) po_none)) pa_nil)))))
      (pss_cons (ps_set (i := 8) sc_l_bent.nd rfl (.inl rfl) (pe_op op_cat (pe_lc (own := [("pair", 11)]) (by rfl) sc_l_bent.nd (pi_tup (pe_ix ix_tup (pv 2) pe_int (fun _ _ => rfl))) (blkOk_by (N := n_l_bent) (sc := defScope s_l_bent) (by decide +kernel)) (fun _ _ _ _ _ => (pg_name (i := 11) sc_l_bent.nd rfl (.inl rfl))) (fun _ _ _ _ _ => pts_nil) (fun _ _ _ _ _ => (pe_ix (ix_tupK K rfl) (pv 11) pe_int (fun _ _ => rfl)))) (pe_lc (own := [("slew", 12)]) (by rfl) sc_l_bent.nd (pi_tup (pe_ix ix_tup (pv 2) pe_int (fun _ _ => rfl))) (blkOk_by (N := n_l_bent) (sc := defScope s_l_bent) (by decide +kernel)) (fun _ _ _ _ _ => (pg_name (i := 12) sc_l_bent.nd rfl (.inl rfl))) (fun _ _ _ _ _ => pts_nil) (fun _ _ _ _ _ => (pe_ix (ix_tupK K rfl) (pv 12) pe_int (fun _ _ => rfl))))))
      (pss_cons (ps_for PassesOwn.never rfl (pi_list (pe_slice sl_list (pv 8) po_none (po_some pe_int))) (pg_name (i := 9) sc_l_bent.nd rfl (.inl rfl)) 
        (pss_cons (ps_expr (pe_bm PySem.F.plainAttrs_list PySem.F.slot_list_append PySem.F.type_list_append mt_append (pv 6) (pa_cons (pe_op op_catA (pe_op op_catA (pe_slice sl_tupA (pv 3) po_none (po_some (pv 5))) (pe_tup (pa_cons (pv 9) pa_nil))) (pe_slice sl_tupA (pv 3) (po_some (pe_op op_add (pv 5) pe_int)) po_none)) pa_nil)))
        (pss_cons (ps_expr (pe_bm PySem.F.plainAttrs_list PySem.F.slot_list_append PySem.F.type_list_append mt_append (pv 6) (pa_cons (pe_op op_catA (pe_op op_catA (pe_slice sl_tupA (pv 3) po_none (po_some (pv 5))) (pe_tup (pa_cons (pe_op op_add_str (pv 9) pe_str) pa_nil))) (pe_slice sl_tupA (pv 3) (po_some (pe_op op_add (pv 5) pe_int)) po_none)) pa_nil)))
        (pss_one (ps_expr (pe_bm PySem.F.plainAttrs_list PySem.F.slot_list_append PySem.F.type_list_append mt_append (pv 6) (pa_cons (pe_op op_catA (pe_op op_catA (pe_slice sl_tupA (pv 3) po_none (po_some (pv 5))) (pe_tup (pa_cons (pe_slice sl_str (pv 9) po_none (po_some (pe_un un_neg pe_int))) pa_nil))) (pe_slice sl_tupA (pv 3) (po_some (pe_op op_add (pv 5) pe_int)) po_none)) pa_nil)))))))
      (Evl.pss_cut (ps_if (pt_cmpR op_gt (pe_callB call_len_seq (by rfl) B.len bt_len (pa_cons (pv 4) pa_nil)) pe_int (nomark _)) 
        (pss_cons (ps_set (i := 10) sc_l_bent.nd rfl (.inl rfl) (pe_c C.l_pick hr (by decide) rfl (pa_cons (pv 0) (pa_cons (pv 1) (pa_cons (pe_callB call_len_seq (by rfl) B.len bt_len (pa_cons (pv 4) pa_nil)) pa_nil)))))
        (pss_one (ps_set (i := 6) sc_l_bent.nd rfl (.inl rfl) (pe_op op_cat (pv 6) (pe_lst (pa_cons (pe_ix ix_list (pv 4) (pv 10) (fun _ _ => rfl)) (pa_cons (pe_ix ix_list (pv 4) pe_int (fun _ _ => rfl)) (pa_cons (pe_ix ix_list (pv 4) (pe_un un_neg pe_int) (fun _ _ => rfl)) pa_nil)))))))) pss_nil)
      (pss_one (ps_ret (pv 6))))))))), ?_⟩
    -- beat
    refine ⟨_, rfl, _, rfl, _, rfl, c, _, rfl, .inr hc, nb, pl, ns, _, rfl, hN.s, hN.ne, hN.at_, by rw [List.length_map]; omega, fun v v0 v1 => ?_⟩
    -- seven bent ones
    refine ⟨_, rfl, c, _, rfl, .inr hc, fun la nla => ?_⟩
    have g1 := same_new (o := .lst (zs.map V.str)) nla
    have ela : (upd H la (.lst (zs.map V.str))) la = some (.lst (zs.map V.str)) := upd_same
    generalize upd H la (.lst (zs.map V.str)) = H1 at g1 ela
    refine ⟨_, rfl, 1, rfl, -1, rfl, ?_⟩
    refine sl_any ((Gr.same g1).t hc) fun p1 H2 g2 hp1 => ?_
    obtain ⟨m1, em1, lm1⟩ := cut_last_len V.str zs zne
    rw [em1] at hp1
    have g02 := g1.trans g2
    -- course + ("",)
    refine ⟨_, rfl, by show 1 ≤ sizeLine; decide, fun t1 nt1 => ?_⟩
    have g3 := same_new (o := .tup [.str ""]) nt1
    have ht1 : SqT K (upd H2 t1 (.tup [.str ""])) t1 (([("" : Str)] : List Str).map V.str) := .of upd_same
    generalize upd H2 t1 (.tup [.str ""]) = H3 at g3 ht1
    have g03 := g02.trans g3
    refine cat_strs ((Gr.same g03).t hc) ht1 (by show zs.length + 1 ≤ 1000; omega) fun p2 H4 g4 hp2 => ?_
    have g04 := g03.trans g4
    -- course + (course[-1],)
    obtain ⟨lz, hlz, _⟩ := last_at (xs := zs.map V.str) (fun z => zne (List.map_eq_nil_iff.mp z))
    obtain ⟨lzz, elz⟩ : ∃ y, lz = V.str y := by
      rename_i hm
      obtain ⟨y, _, e⟩ := List.mem_map.mp hm
      exact ⟨y, e.symm⟩
    subst elz
    refine ⟨_, rfl, _, rfl, 1, rfl, c, _, _, _, rfl, rfl, (Gr.same g04).t hc, hlz, by show 1 ≤ sizeLine; decide, fun t2 nt2 => ?_⟩
    have g5 := same_new (o := .tup [.str lzz]) nt2
    have ht2 : SqT K (upd H4 t2 (.tup [.str lzz])) t2 (([lzz] : List Str).map V.str) := .of upd_same
    generalize upd H4 t2 (.tup [.str lzz]) = H5 at g5 ht2
    have g05 := g04.trans g5
    refine cat_strs ((Gr.same g05).t hc) ht2 (by show zs.length + 1 ≤ 1000; omega) fun p3 H6 g6 hp3 => ?_
    have g06 := g05.trans g6
    -- (course,)
    refine ⟨_, rfl, by show 1 ≤ sizeLine; decide, fun p4 np4 => ?_⟩
    have g7 := same_new (o := .tup [.ref c]) np4
    have g07 := g06.trans g7
    have tp4 : Tp K (upd H6 p4 (.tup [.ref c])) (.ref p4) (.tuple [strsD zs]) := .tup (.of upd_same) (.one (Tp.strs ((Gr.same g07).t hc)))
    generalize upd H6 p4 (.tup [.ref c]) = H7 at g7 g07 tp4
    refine ⟨by show 7 ≤ sizeLine; decide, fun b nb0 => ?_⟩
    have nbH : H b = none := g07.free nb0
    have g17 := g2.trans (g3.trans (g4.trans (g5.trans (g6.trans g7))))
    have nlb : la ≠ b := ne_of_none (g17 _ _ ela) nb0
    have g8 := same_new (o := .lst [.ref la, .ref p1, .ref p2, .ref p3, .ref p4, .str "", .non]) nb0
    have g08 := g07.trans g8
    have eb8 : (upd H7 b (.lst [.ref la, .ref p1, .ref p2, .ref p3, .ref p4, .str "", .non])) b = some (.lst (.ref la :: [.ref p1, .ref p2, .ref p3, .ref p4, .str "", .non])) := upd_same
    generalize upd H7 b (.lst [.ref la, .ref p1, .ref p2, .ref p3, .ref p4, .str "", .non]) = H8 at g8 g08 eb8
    have ela8 : H8 la = some (.lst (zs.map V.str)) := g8 _ _ (g17 _ _ ela)
    have tx8 : TpAll K H8 [.ref p1, .ref p2, .ref p3, .ref p4, .str "", .non] (strsD m1 :: strsD (zs ++ [("" : Str)]) :: [strsD (zs ++ [lzz]), .tuple [strsD zs], .str "", .none]) := by
      have k2 := g3.trans (g4.trans (g5.trans (g6.trans (g7.trans g8))))
      have k4 := g5.trans (g6.trans (g7.trans g8))
      have k6 := g7.trans g8
      exact .cons ((Tp.strs hp1).up (Gr.same k2)) (.cons ((Tp.strs hp2).up (Gr.same k4)) (.cons ((Tp.strs hp3).up (Gr.same k6)) (.cons (tp4.up (Gr.same g8)) (.cons (.str _) (.cons .non .nil)))))
    have o1 : offLen n (strsD m1) := ⟨_, rfl, by rw [List.length_map]; omega⟩
    have o2 : offLen n (strsD (zs ++ [("" : Str)])) := ⟨_, rfl, by rw [List.length_map, List.length_append]; simp only [List.length_singleton]; omega⟩
    generalize strsD m1 = d1 at tx8 o1
    generalize strsD (zs ++ [("" : Str)]) = d2 at tx8 o2
    -- one place bent
    refine ⟨by show 1 ≤ sizeLine; decide, fun e1 ne1 => ?_⟩
    have g9 := same_new (o := .tup [.str ""]) ne1
    have te1 : Tp K (upd H8 e1 (.tup [.str ""])) (.ref e1) (.tuple [.str ""]) := .tup (.of upd_same) (.one (.str _))
    generalize upd H8 e1 (.tup [.str ""]) = H9 at g9 te1
    refine ⟨by show 7 ≤ sizeLine; decide, fun e2 ne2 => ?_⟩
    have g10 := same_new (o := .tup [.non, .int 0, .bl true, .str "rest", .str "a b", .ref e1, .str " "]) ne2
    have he2 : SqT K (upd H9 e2 (.tup [.non, .int 0, .bl true, .str "rest", .str "a b", .ref e1, .str " "])) e2 [.non, .int 0, .bl true, .str "rest", .str "a b", .ref e1, .str " "] := .of upd_same
    have to : TpAll K (upd H9 e2 (.tup [.non, .int 0, .bl true, .str "rest", .str "a b", .ref e1, .str " "])) [.non, .int 0, .bl true, .str "rest", .str "a b", .ref e1, .str " "] [.none, .int 0, .bool true, .str "rest", .str "a b", .tuple [.str ""], .str " "] :=
      .cons .non (.cons (.int _) (.cons (.bl _) (.cons (.str _) (.cons (.str _) (.cons (te1.up (Gr.same g10)) (.cons (.str _) .nil))))))
    generalize upd H9 e2 (.tup [.non, .int 0, .bl true, .str "rest", .str "a b", .ref e1, .str " "]) = H10 at g10 he2 to
    have g810 := g9.trans g10
    have g010 := g08.trans g810
    have nbe : e2 ≠ b := fun z => by
      rw [z] at ne2
      rw [g9 _ _ eb8] at ne2
      cases ne2
    refine ⟨e2, rfl, ⟨_, he2⟩, ?_⟩
    have l7 : ([.non, .int 0, .bl true, .str "rest", .str "a b", .ref e1, .str " "] : List V).length = 7 := rfl
    generalize ([.non, .int 0, .bl true, .str "rest", .str "a b", .ref e1, .str " "] : List V) = ol at he2 to l7
    generalize ([.none, .int 0, .bool true, .str "rest", .str "a b", .tuple [.str ""], .str " "] : List PyData) = od' at to
    refine for_tup (K := K) (a := e2) (xs := ol) (fun i σ H11 => ∃ y7 xs ds, σ = [some (.ref nb), some (.ref pl), some (.ref r), some (.ref c), some (.ref rf), some (.int v), some (.ref b), y7, none, none, none, none, none] ∧ Same H H11 ∧ SqT K H11 e2 ol ∧ TpAll K H11 ol od' ∧ H11 b = some (.lst (.ref la :: xs)) ∧ H11 la = some (.lst (zs.map V.str)) ∧ TpAll K H11 xs (d1 :: d2 :: ds) ∧ xs.length = 6 + i)
      ⟨_, _, _, rfl, g010, he2, to, g810 _ _ eb8, g810 _ _ ela8, tx8.up (Gr.same g810), rfl⟩ (fun i σ H11 _ h => let ⟨_, _, _, _, _, h, _⟩ := h; h) (fun i x σ H11 hx h => ?_) (fun σ H11 h => ?_)
    · obtain ⟨y7, xs, ds, rfl, s11, he11, to11, eb11, ela11, tx11, lxs⟩ := h
      obtain ⟨dx, hdx, tdx⟩ := to11.at hx
      have hi7 := (List.getElem?_eq_some_iff.mp hx).1
      refine ⟨_, rfl, .inl ⟨rfl, _, .of eb11⟩, t_bend (K := K) (c := c) (v := v) (zs := zs) (ov := x) (od := dx) rfl rfl ((Gr.same s11).t hc) (by omega) (fun H1 Q g q => ⟨_, rfl, q H1 (Same.refl H1)⟩) (fun H1 g => tdx.up (Gr.same g)) fun cc H12 ds' g12 tcc => ?_⟩
      have eb12 := g12 _ _ eb11
      have G := (Gr.same g12).trans (Gr.lst (o := .lst (.ref la :: xs ++ [.ref cc])) eb12)
      refine ⟨b, _, _, rfl, rfl, eb12, by rw [List.length_cons]; exact small1000 (by omega), ?_⟩
      exact ⟨_, xs ++ [.ref cc], ds ++ [.tuple ds'], rfl, smut (s11.trans g12) nbH, G.t he11, to11.up G, upd_same, by rw [upd_ne nlb]; exact g12 _ _ ela11, ((tx11.up (Gr.same g12)).app (.one tcc)).up (Gr.lst eb12), by rw [List.length_append, lxs]; rfl⟩
    obtain ⟨y7, xs, ds, rfl, s11, _, _, eb11, ela11, tx11, lxs⟩ := h
    have lxs : xs.length = 13 := by omega
    have hp8 : SqT K H11 a8 px := .inl (.inr ⟨o, s11 _ _ e8⟩)
    have t811 := t8.up (Gr.same s11)
    have lpx : px.length = n.pr.length := by rw [t8.len, List.length_map]
    have prf := hok.pr.few
    have slf := hok.sl.few
    obtain ⟨_, sx, e7, hsl, tsl⟩ := t7.tup_of
    cases e7
    have lsx : sx.length = n.sl.length := by rw [tsl.len, List.length_map]
    have hsl11 := (Gr.same s11).t hsl
    have tsl11 := tsl.up (Gr.same s11)
    -- names
    refine ⟨_, rfl, r, _, 8, _, rfl, rfl, (Gr.same s11).t sq, atI_nat (j := 8) rfl, a8, rfl, ⟨_, hp8⟩, fun D1 nD1 => ?_⟩
    refine lc_tup (K := K) (a := a8) (xs := px) (fun k H' => Same H11 H' ∧ H' D1 = some (.lst (((n.pr.take k).map (·.1)).map V.str))) ⟨same_new nD1, upd_same⟩ (fun k H' _ p => (Gr.same p.1).t hp8) (fun k x H' hx p => ?_) (fun H12 p => ?_)
    · obtain ⟨p1', p2'⟩ := p
      obtain ⟨sk, hsk, htk⟩ := (t811.up (Gr.same p1')).atF hx
      obtain ⟨ka, x0, x1, rfl, hka, u0, _⟩ := tup2 htk
      cases u0.str_of
      have hk := (List.getElem?_eq_some_iff.mp hsk).1
      refine ⟨rfl, tYes_i ⟨_, rfl, ka, _, 0, _, rfl, rfl, hka, atI_nat (j := 0) rfl, _, p2', by rw [List.length_map, List.length_map, List.length_take]; exact small100k (by omega), smut p1' nD1, ?_⟩⟩
      rw [upd_same, take_next hsk, List.map_append, List.map_append]
      rfl
    obtain ⟨g12, eD1⟩ := p
    rw [lpx, List.take_length] at eD1
    have s12 := s11.trans g12
    have hsl12 := (Gr.same g12).t hsl11
    have tsl12 := tsl11.up (Gr.same g12)
    refine ⟨_, rfl, r, _, 7, _, rfl, rfl, (Gr.same s12).t sq, atI_nat (j := 7) rfl, a7, rfl, ⟨_, hsl12⟩, fun D2 nD2 => ?_⟩
    refine lc_tup (K := K) (a := a7) (xs := sx) (fun k H' => Same H12 H' ∧ H' D2 = some (.lst (((n.sl.take k).map (·.1)).map V.str))) ⟨same_new nD2, upd_same⟩ (fun k H' _ p => (Gr.same p.1).t hsl12) (fun k x H' hx p => ?_) (fun H13 p => ?_)
    · obtain ⟨p1', p2'⟩ := p
      obtain ⟨sk, hsk, htk⟩ := (tsl12.up (Gr.same p1')).atF hx
      obtain ⟨ka, x0, x1, x2, rfl, hka, u0, _, _⟩ := tup3 htk
      cases u0.str_of
      have hk := (List.getElem?_eq_some_iff.mp hsk).1
      refine ⟨rfl, tYes_i ⟨_, rfl, ka, _, 0, _, rfl, rfl, hka, atI_nat (j := 0) rfl, _, p2', by rw [List.length_map, List.length_map, List.length_take]; exact small100k (by omega), smut p1' nD2, ?_⟩⟩
      rw [upd_same, take_next hsk, List.map_append, List.map_append]
      rfl
    obtain ⟨g13, eD2⟩ := p
    rw [lsx, List.take_length] at eD2
    have g113 := g12.trans g13
    refine ⟨D1, D2, _, _, rfl, rfl, g13 _ _ eD1, eD2, by rw [List.length_map, List.length_map, List.length_map, List.length_map]; exact small100 (by omega), fun nm nnm => ?_⟩
    have g14 := same_new (o := .lst ((n.pr.map (·.1)).map V.str ++ (n.sl.map (·.1)).map V.str)) nnm
    have enm : (upd H13 nm (.lst ((n.pr.map (·.1)).map V.str ++ (n.sl.map (·.1)).map V.str))) nm = some (.lst ((n.pr.map (·.1) ++ n.sl.map (·.1)).map V.str)) := by rw [upd_same, List.map_append]
    generalize upd H13 nm (.lst ((n.pr.map (·.1)).map V.str ++ (n.sl.map (·.1)).map V.str)) = H14 at g14 enm
    have g1114 := g113.trans g14
    have hN8 : ∀ z ∈ n.pr.map (·.1) ++ n.sl.map (·.1), z.length ≤ 8 := fun z hz => by
      rcases List.mem_append.mp hz with h | h
      · obtain ⟨p, hp, rfl⟩ := List.mem_map.mp h
        exact (hok.pr.len p hp).2
      · obtain ⟨p, hp, rfl⟩ := List.mem_map.mp h
        exact hok.sl.len p hp
    have lNN : (n.pr.map (·.1) ++ n.sl.map (·.1)).length ≤ 1254 := by
      rw [List.length_append, List.length_map, List.length_map]
      omega
    generalize n.pr.map (·.1) ++ n.sl.map (·.1) = NN at enm hN8 lNN
    refine ⟨_, rfl, 7, rfl, nm, _, rfl, .of enm, fun sl nsl => ?_⟩
    obtain ⟨mm, emm, lmm, hmm⟩ := cut_map V.str NN none (some 7)
    rw [emm]
    have g15 := g1114.trans (same_new (o := .lst (mm.map V.str)) nsl)
    have esl : (upd H14 sl (.lst (mm.map V.str))) sl = some (.lst (mm.map V.str)) := upd_same
    have nslb : sl ≠ b := fun z => by
      rw [z, g1114 _ _ eb11] at nsl
      cases nsl
    generalize upd H14 sl (.lst (mm.map V.str)) = H15 at g15 esl
    refine ⟨sl, rfl, ⟨_, .of esl⟩, ?_⟩
    refine for_list (K := K) (a := sl) (xs := mm.map V.str) (fun i σ H16 => ∃ y9 xs ds, σ = [some (.ref nb), some (.ref pl), some (.ref r), some (.ref c), some (.ref rf), some (.int v), some (.ref b), y7, some (.ref nm), y9, none, none, none] ∧ Same H H16 ∧ H16 sl = some (.lst (mm.map V.str)) ∧ H16 b = some (.lst (.ref la :: xs)) ∧ H16 la = some (.lst (zs.map V.str)) ∧ TpAll K H16 xs (d1 :: d2 :: ds) ∧ xs.length = 13 + 3 * i)
      ⟨_, xs, ds, rfl, s11.trans g15, esl, g15 _ _ eb11, g15 _ _ ela11, tx11.up (Gr.same g15), by omega⟩ (fun i σ H16 _ h => let ⟨_, _, _, _, _, h, _⟩ := h; .of h) (fun i x σ H16 hx h => ?_) (fun σ H16 h => ?_)
    · clear lxs tx11 eb11 ela11
      obtain ⟨y9, xs, ds, rfl, s16, esl16, eb16, ela16, tx16, lxs⟩ := h
      obtain ⟨z, hz, rfl, hi⟩ := map_at_inv hx
      have hz8 := hN8 z (hmm z (List.mem_of_getElem? hz))
      have hzl : z.length ≤ sizeLine := small100 (by omega)
      -- the name
      refine ⟨_, rfl, .inl ⟨rfl, _, .of eb16⟩, t_bend (K := K) (c := c) (v := v) (zs := zs) (ov := .str z) (od := .str z) rfl rfl ((Gr.same s16).t hc) (by omega) (fun H1 Q g q => ⟨_, rfl, q H1 (Same.refl H1)⟩) (fun H1 g => .str _) fun cc H17 ds1 g17 tcc => ?_⟩
      have eb17 := g17 _ _ eb16
      refine ⟨b, _, _, rfl, rfl, eb17, by rw [List.length_cons]; exact small100k (by omega), ?_⟩
      have G17 := (Gr.same g17).trans (Gr.lst (o := .lst (.ref la :: xs ++ [.ref cc])) eb17)
      have s18 : Same H (upd H17 b (.lst (.ref la :: xs ++ [.ref cc]))) := smut (s16.trans g17) nbH
      have esl18 : (upd H17 b (.lst (.ref la :: xs ++ [.ref cc]))) sl = some (.lst (mm.map V.str)) := by rw [upd_ne nslb]; exact g17 _ _ esl16
      have eb18 : (upd H17 b (.lst (.ref la :: xs ++ [.ref cc]))) b = some (.lst (.ref la :: (xs ++ [.ref cc]))) := upd_same
      have ela18 : (upd H17 b (.lst (.ref la :: xs ++ [.ref cc]))) la = some (.lst (zs.map V.str)) := by rw [upd_ne nlb]; exact g17 _ _ ela16
      have tx18 : TpAll K (upd H17 b (.lst (.ref la :: xs ++ [.ref cc]))) (xs ++ [.ref cc]) (d1 :: d2 :: (ds ++ [.tuple ds1])) := ((tx16.up (Gr.same g17)).app (.one tcc)).up (Gr.lst eb17)
      have lx18 : (xs ++ [V.ref cc]).length = 14 + 3 * i := by rw [List.length_append, lxs]; simp only [List.length_singleton]; omega
      generalize upd H17 b (.lst (.ref la :: xs ++ [.ref cc])) = H18 at s18 esl18 eb18 ela18 tx18
      generalize xs ++ [V.ref cc] = xs2 at eb18 tx18 lx18
      generalize ds ++ [PyData.tuple ds1] = dsB at tx18
      -- the name and an a
      refine ⟨_, rfl, .inl ⟨rfl, _, .of eb18⟩, t_bend (K := K) (c := c) (v := v) (zs := zs) (ov := .str (z ++ "a")) (od := .str (z ++ "a")) rfl rfl ((Gr.same s18).t hc) (by omega) (fun H1 Q g q => ⟨_, rfl, _, _, rfl, rfl, by show z.length + 1 ≤ sizeLine; exact small100 (by omega), q H1 (Same.refl H1)⟩) (fun H1 g => .str _) fun cc2 H19 ds2 g19 tcc2 => ?_⟩
      have eb19 := g19 _ _ eb18
      refine ⟨b, _, _, rfl, rfl, eb19, by rw [List.length_cons]; exact small100k (by omega), ?_⟩
      have s20 : Same H (upd H19 b (.lst (.ref la :: xs2 ++ [.ref cc2]))) := smut (s18.trans g19) nbH
      have esl20 : (upd H19 b (.lst (.ref la :: xs2 ++ [.ref cc2]))) sl = some (.lst (mm.map V.str)) := by rw [upd_ne nslb]; exact g19 _ _ esl18
      have eb20 : (upd H19 b (.lst (.ref la :: xs2 ++ [.ref cc2]))) b = some (.lst (.ref la :: (xs2 ++ [.ref cc2]))) := upd_same
      have ela20 : (upd H19 b (.lst (.ref la :: xs2 ++ [.ref cc2]))) la = some (.lst (zs.map V.str)) := by rw [upd_ne nlb]; exact g19 _ _ ela18
      have tx20 : TpAll K (upd H19 b (.lst (.ref la :: xs2 ++ [.ref cc2]))) (xs2 ++ [.ref cc2]) (d1 :: d2 :: (dsB ++ [.tuple ds2])) := ((tx18.up (Gr.same g19)).app (.one tcc2)).up (Gr.lst eb19)
      have lx20 : (xs2 ++ [V.ref cc2]).length = 15 + 3 * i := by rw [List.length_append, lx18]; simp only [List.length_singleton]; omega
      generalize upd H19 b (.lst (.ref la :: xs2 ++ [.ref cc2])) = H20 at s20 esl20 eb20 ela20 tx20
      generalize xs2 ++ [V.ref cc2] = xs3 at eb20 tx20 lx20
      generalize dsB ++ [PyData.tuple ds2] = dsC at tx20
      -- the name without its last sign
      refine ⟨_, rfl, .inl ⟨rfl, _, .of eb20⟩, t_bend (K := K) (c := c) (v := v) (zs := zs) (ov := .str (cutS z none (some (-1)))) (od := .str (cutS z none (some (-1)))) rfl rfl ((Gr.same s20).t hc) (by omega) (fun H1 Q g q => ⟨_, rfl, 1, rfl, -1, rfl, z, rfl, hzl, q H1 (Same.refl H1)⟩) (fun H1 g => .str _) fun cc3 H21 ds3 g21 tcc3 => ?_⟩
      have eb21 := g21 _ _ eb20
      refine ⟨b, _, _, rfl, rfl, eb21, by rw [List.length_cons]; exact small100k (by omega), ?_⟩
      exact ⟨_, xs3 ++ [.ref cc3], dsC ++ [.tuple ds3], rfl, smut (s20.trans g21) nbH, by rw [upd_ne nslb]; exact g21 _ _ esl20, upd_same, by rw [upd_ne nlb]; exact g21 _ _ ela20, ((tx20.up (Gr.same g21)).app (.one tcc3)).up (Gr.lst eb21), by rw [List.length_append, lx20]; simp only [List.length_singleton]; omega⟩
    clear lxs tx11 eb11 ela11
    obtain ⟨y9, xs, ds, rfl, s16, _, eb16, ela16, tx16, lxs⟩ := h
    rw [List.length_map] at lxs
    have hN16 := hN.up s16
    have erf := s16 _ _ hrf
    have trx := hrx.up (Gr.same s16)
    have lrx : rx.length = rows.length := by rw [hrx.len, List.length_map]
    refine ⟨fun σ' H' => ∃ b xs ds y10, σ' = [some (.ref nb), some (.ref pl), some (.ref r), some (.ref c), some (.ref rf), some (.int v), some (.ref b), y7, some (.ref nm), y9, y10, none, none] ∧ Same H H' ∧ H' b = some (.lst (.ref la :: xs)) ∧ H' la = some (.lst (zs.map V.str)) ∧ TpAll K H' xs (d1 :: d2 :: ds) ∧ xs.length ≤ 90000, ?_, ?_⟩
    · refine ⟨_, rfl, rf, rx, rfl, .inl (.of erf), _, _, rfl, rfl, _, rfl, ite2 (fun e => ?_) (fun _ => ⟨b, xs, ds, _, rfl, s16, eb16, ela16, tx16, by omega⟩)⟩
      have hpos : 0 < ((rx.length : Nat) : Int) := of_decide_eq_true e
      refine ⟨_, rfl, _, rfl, _, rfl, rf, rx, rfl, .inl (.of erf), nb, pl, ns, _, rfl, hN16.s, hN16.ne, hN16.at_, hpos, fun sv sv0 sv1 => ?_⟩
      have hs1 : sv.toNat < rx.length := by omega
      have hx1 := List.getElem?_eq_getElem hs1
      have hs0 : 0 < rx.length := by omega
      have hx0 := List.getElem?_eq_getElem hs0
      obtain ⟨lx, hlx, hlm⟩ := last_at (xs := rx) (fun z => by rw [z] at hs0; simp at hs0)
      obtain ⟨q1, _, tq1⟩ := trx.at hx1
      obtain ⟨q0, _, tq0⟩ := trx.at hx0
      obtain ⟨li, hli⟩ := List.mem_iff_getElem?.mp hlm
      obtain ⟨q2, _, tq2⟩ := trx.at hli
      generalize rx[sv.toNat] = w1 at hx1 tq1
      generalize rx[0] = w0 at hx0 tq0
      refine ⟨_, rfl, _, rfl, _, rfl, rf, rx, _, w1, rfl, rfl, .of erf, at_of (toNat_eq sv0) hx1, _, rfl, rf, rx, 0, w0, rfl, rfl, .of erf, at_of (j := 0) rfl hx0, _, rfl, 1, rfl, rf, rx, _, lx, rfl, rfl, .of erf, hlx, by show 3 ≤ sizeLine; decide, fun b3 nb3 => ?_⟩
      have g17 := same_new (o := .lst [w1, w0, lx]) nb3
      have eb3 : (upd H16 b3 (.lst [w1, w0, lx])) b3 = some (.lst [w1, w0, lx]) := upd_same
      generalize upd H16 b3 (.lst [w1, w0, lx]) = H17 at g17 eb3
      refine ⟨b, b3, _, _, rfl, rfl, g17 _ _ eb16, eb3, ?_, fun b4 nb4 => ?_⟩
      · rw [List.length_cons]
        show xs.length + 1 + 3 ≤ sizeLine
        exact small100 (by omega)
      have g18 := g17.trans (same_new (o := .lst (.ref la :: xs ++ [w1, w0, lx])) nb4)
      refine ⟨b4, xs ++ [w1, w0, lx], ds ++ [q1, q0, q2], _, rfl, s16.trans g18, upd_same, g18 _ _ ela16, ?_, by rw [List.length_append]; show xs.length + 3 ≤ 90000; omega⟩
      exact (tx16.app (.cons tq1 (.cons tq0 (.cons tq2 .nil)))).up (Gr.same g18)
    clear tx16 ela16 eb16 lxs
    rintro σ' H' ⟨b, xs, ds, y10, rfl, s17, eb17, ela17, tx17, lx17⟩
    exact ⟨_, rfl, q b la xs d1 d2 ds H' s17 eb17 ela17 tx17 o1 o2 lx17⟩
end
end K78
set_option Elab.async false
set_option linter.all false
set_option maxRecDepth 100000
set_option maxHeartbeats 4000000
namespace KB
open PySem PySem.Spec PyProof.Rows L2
theorem ndA_le {m : Nat} : ∀ {ds : List PyData}, (∀ d ∈ ds, nd d ≤ m) → ndA ds ≤ ds.length * m
  | [], _ => by rw [ndA_nil]; omega
  | d :: ds, h => by
    have h1 := h d (List.mem_cons_self ..)
    have h2 := ndA_le (ds := ds) fun e he => h e (List.mem_cons_of_mem _ he)
    rw [ndA_cons, List.length_cons, Nat.succ_mul]
    omega
theorem nd_tup (ds : List PyData) : nd (.tuple ds) = 1 + ndA ds := by rw [nd]
theorem nd_flat {α : Type} (f : α → PyData) (xs : List α) (m : Nat) (h : ∀ x ∈ xs, nd (f x) ≤ m) : nd (.tuple (xs.map f)) ≤ 1 + xs.length * m := by
  rw [nd_tup]
  have := ndA_le (ds := xs.map f) (m := m) fun d hd => by
    obtain ⟨x, hx, rfl⟩ := List.mem_map.mp hd
    exact h x hx
  rw [List.length_map] at this
  omega
end KB
namespace K78
open PySem PySem.Spec PyProof.Rows L2 KB RZ
theorem nd_strs (r : List Str) : nd (strsD r) ≤ 1 + r.length * 1 := nd_flat PyData.str r 1 fun _ _ => Nat.le_refl 1
theorem nd_unD (u : Un) : nd (unD u) ≤ 6 := by
  cases u <;> simp [unD, nd_tup, ndA_cons, ndA_nil, nd]
theorem nd_fcD (f : List (Un × Int) × Int) (h : f.1.length ≤ 2) : nd (fcD f) ≤ 20 := by
  have h1 := nd_flat puD f.1 8 fun q _ => by
    have := nd_unD q.1
    simp only [puD, nd_tup, ndA_cons, ndA_nil, nd]
    omega
  have h2 : f.1.length * 8 ≤ 2 * 8 := Nat.mul_le_mul_right _ h
  show nd (.tuple [.str "told", .tuple (f.1.map puD), .int f.2]) ≤ 20
  rw [nd_tup, ndA_cons, ndA_cons, ndA_cons, ndA_nil]
  have e1 : nd (.str "told") = 1 := by rw [nd]
  have e2 : nd (.int f.2) = 1 := by rw [nd]
  omega
theorem nd_book {n : Nt} (hok : NtOk n) {zs : List Str} (hz : zs.length ≤ 40) : nd (bookD n zs) ≤ 199999 := by
  have hn4 : (stNames n).length ≤ 4 := by
    rw [List.length_map]
    exact hok.pl.st
  have h1 : nd (dlD n.d) = 3 := by simp [dlD, nd_tup, ndA_cons, ndA_nil, nd]
  have h2 := nd_flat stD n.st 4 fun q _ => by simp [stD, nd_tup, ndA_cons, ndA_nil, nd]
  have h3 : nd (.tuple (stands zs n.ms zs.length)) ≤ 1 + (List.range zs.length).length * 7 := nd_flat (standD zs n.ms) (List.range zs.length) 7 fun q _ => by simp [standD, mxD, nd_tup, ndA_cons, ndA_nil, nd]
  have h4 := nd_flat PyData.int n.ch 1 fun q _ => by simp [nd]
  have h5 := nd_flat tmD n.te 8 fun q _ => by simp [tmD, nd_tup, ndA_cons, ndA_nil, nd]
  have h6 : ndA (bookRows (stNames n) n.ch zs zs.length) ≤ (bookRows (stNames n) n.ch zs zs.length).length * 7 := ndA_le fun d hd => by
    unfold bookRows at hd
    obtain ⟨b, _, hb⟩ := List.mem_flatMap.mp hd
    split at hb
    · cases hb
    · unfold chRows at hb
      obtain ⟨c, _, hc⟩ := List.mem_flatMap.mp hb
      obtain ⟨p, _, rfl⟩ := List.mem_map.mp hc
      simp [rowD, nd_tup, ndA_cons, ndA_nil, nd]
  have h7 : ndA (n.fs.map fcD) ≤ (n.fs.map fcD).length * 20 := ndA_le fun d hd => by
    obtain ⟨f, hf, rfl⟩ := List.mem_map.mp hd
    exact nd_fcD f (hok.fs2 f hf)
  have b1 := book_len (stNames n) hn4 n.ch hok.pl.ch zs zs.length
  have b2 : zs.length * 48 ≤ 40 * 48 := Nat.mul_le_mul_right _ hz
  have b3 := hok.fs
  have b4 := hok.pl.st
  have b5 := hok.pl.ch
  have b6 := hok.pl.te
  rw [List.length_range] at h3
  rw [List.length_map] at h7
  show nd (.tuple [.tuple [dlD n.d, .int n.fo, .tuple (n.st.map stD), .tuple (stands zs n.ms zs.length), .tuple (n.ch.map PyData.int), .tuple (n.te.map tmD)], .tuple (bookRows (stNames n) n.ch zs zs.length ++ n.fs.map fcD), .tuple []]) ≤ 199999
  rw [nd_tup, ndA_cons, ndA_cons, ndA_cons, ndA_nil, nd_tup, ndA_cons, ndA_cons, ndA_cons, ndA_cons, ndA_cons, ndA_cons, ndA_nil, nd_tup (bookRows _ _ _ _ ++ _), ndA_app, nd_tup [], ndA_nil]
  have e2 : nd (.int n.fo) = 1 := by rw [nd]
  omega
structure CaL (P : Program) (w : World) (K : PySem.W.Frag) (mg : Str → Option Value) (base : Heap) : Prop where
  l_pick : Cal P w K mg base 1 "_law_pick" (spPick K)
  l_numbers : Cal P w K mg base 1 "_law_numbers" (spNumbers K)
  l_night : Cal P w K mg base 5 "_law_night" (spNight K)
  l_choices : Cal P w K mg base 1 "_law_choices" (spChoices K)
  l_keeps : Cal P w K mg base 1 "_law_keeps" (spKeeps K)
  l_same : Cal P w K mg base 1 "_law_same" (spSame K)
  courses_of : Cal P w K mg base 2 "courses_of" (spCoursesOf K)
  course_price : Cal P w K mg base 1 "course_price" (spCPrice K)
  l_price : Cal P w K mg base 1 "_law_price" (spPrice K)
  course_book : Cal P w K mg base 3 "course_book" (spBook K)
  l_book : Cal P w K mg base 1 "_law_book" (spBook K)
  is_course : Cal P w K mg base 1 "is_course" (spCourse K)
  l_bent : Cal P w K mg base 2 "_law_bent" (spBent K)
  l_is_due : Cal P w K mg base 2 "_law_is_due" (spDue K)
section
variable {P : Program} {w : World} {K : PySem.W.Frag} {mg : Str → Option Value} {base : Heap}
def spLaw (K : PySem.W.Frag) : Sp := fun vs H Q _ => ∃ (a : Addr) (ns : List Int), vs = [.ref a] ∧ SqL K H a (ns.map V.int) ∧ ns.length ≤ 63 ∧ ∀ H', Q (.bl true) H'
theorem ok_of {x : Str} {st : Stmt} {N ps : List Str} {k : Nat} {sp : Sp} {f : Addr} {fd : FuncData} (F : KB.FnP K x st f fd) (S : FnScope N ps (defScope st)) (len : ∀ vs H Q E, sp vs H Q E → vs.length = ps.length)
    (hbody : ∀ (cdv : Value) (A : Around) (outer : List Env) (s : Shared) (H : Hp) (vs : List V) (Q : VK) (E : XK), Room k (A.deeper (envOfC x (defScope st) s.heap.objs.size f cdv)) → sp vs H Q E →
      ∃ t, PSs (cxOf CX0 P w K mg base N x (defScope st) f cdv A outer s H E).nox (defBody st) t ∧ t { nx := fun _ H' => Q .non H', rt := Q } (start N vs) H) : FnOk P w K mg base CX0 (k + 1) f fd ps sp :=
  F.ok S len fun cdv A outer s H vs Q E hr h => by
    obtain ⟨t, h1, h2⟩ := hbody cdv A outer s H vs Q E hr h
    exact ⟨t, h1.nox, h2⟩
theorem law_ok {f : Addr} {fd : FuncData} (F : KB.FnP K "law" s_law f fd) (B : Bl mg) (C : CaL P w K mg base) : FnOk P w K mg base CX0 6 f fd ["script"] (spLaw K) := by
  refine ok_of F sc_law (fun vs H Q E h => ?_) (fun cdv A outer s H vs Q E hr h => ?_)
  · obtain ⟨a, ns, rfl, _⟩ := h
    rfl
  · obtain ⟨a, ns, rfl, hs, hl, q⟩ := h
    refine ⟨_, (pss_cons (ps_set (i := 1) sc_law.nd rfl (.inl rfl) (pe_c C.l_numbers hr (by decide) rfl (pa_cons (pv 0) (pa_cons pe_int pa_nil))))
      (pss_cons (ps_set (i := 2) sc_law.nd rfl (.inl rfl) (pe_lstAt (pa_cons pe_int pa_nil)))
      (pss_cons (ps_set (i := 3) sc_law.nd rfl (.inr rfl) (pe_c C.l_night hr (by decide) rfl (pa_cons (pv 1) (pa_cons (pv 2) pa_nil))))
      (pss_cons (ps_set (i := 4) sc_law.nd rfl (.inl rfl) (pe_c C.l_choices hr (by decide) rfl (pa_cons (pe_ix ix_tup (pv 3) pe_int (fun _ _ => rfl)) pa_nil)))
      (pss_cons (ps_setLc (i := 5) (own := [("choice", 11)]) (by rfl) sc_law.nd rfl rfl (sw_true rfl rfl rfl (by decide +kernel)) (pi_list (pv 4)) (blkOk_by (N := n_law) (sc := defScope s_law) (by decide +kernel)) (fun _ _ _ _ _ => (pg_name (i := 11) sc_law.nd rfl (.inl rfl))) (fun _ _ _ _ _ => (pts_one (pt_val (pe_c C.l_keeps hr (by decide) rfl (pa_cons (pv 11) (pa_cons (pe_ix (ix_tupK K rfl) (pv 3) pe_int (fun _ _ => rfl)) pa_nil)))))) (fun _ _ _ _ _ => (pv 11)))
      (pss_cons (ps_setLc (i := 6) (own := [("choice", 11)]) (by rfl) sc_law.nd rfl rfl (sw_true rfl rfl rfl (by decide +kernel)) (pi_list (pv 4)) (blkOk_by (N := n_law) (sc := defScope s_law) (by decide +kernel)) (fun _ _ _ _ _ => (pg_name (i := 11) sc_law.nd rfl (.inl rfl))) (fun _ _ _ _ _ => (pts_one (pt_not (pt_val (pe_c C.l_keeps hr (by decide) rfl (pa_cons (pv 11) (pa_cons (pe_ix (ix_tupK K rfl) (pv 3) pe_int (fun _ _ => rfl)) pa_nil))))))) (fun _ _ _ _ _ => (pv 11)))
      (pss_cons (ps_if (pt_not (pt_val (pe_c C.l_same hr (by decide) rfl (pa_cons (pe_c C.courses_of hr (by decide) rfl (pa_cons (pv 3) pa_nil)) (pa_cons (pe_callTy call_tuple_of (by rfl) B.tuple bt_tuple (pa_cons (pv 5) pa_nil)) pa_nil))))) 
        (pss_one (ps_ret pe_bl)) pss_nil)
      (pss_cons (ps_set (i := 7) sc_law.nd rfl (.inl rfl) pe_int)
      (pss_cons (ps_set (i := 8) sc_law.nd rfl (.inl rfl) (pe_ix ix_list (pv 5) (pe_c C.l_pick hr (by decide) rfl (pa_cons (pv 1) (pa_cons (pv 2) (pa_cons (pe_callB call_len_seq (by rfl) B.len bt_len (pa_cons (pv 5) pa_nil)) pa_nil)))) (fun _ _ => rfl)))
      (pss_cons (ps_for PassesOwn.never rfl (pi_tup (pe_tup (pa_cons (pe_ix ix_list (pv 5) pe_int (fun _ _ => rfl)) (pa_cons (pv 8) (pa_cons (pe_ix ix_list (pv 5) (pe_un un_neg pe_int) (fun _ _ => rfl)) pa_nil))))) (pg_name (i := 9) sc_law.nd rfl (.inl rfl)) 
        (pss_cons (ps_if (pt_not (pt_val (pe_c C.l_same hr (by decide) rfl (pa_cons (pe_c C.course_price hr (by decide) rfl (pa_cons (pv 3) (pa_cons (pv 9) pa_nil))) (pa_cons (pe_c C.l_price hr (by decide) rfl (pa_cons (pv 3) (pa_cons (pv 9) pa_nil))) pa_nil))))) 
          (pss_one (ps_ret pe_bl)) pss_nil)
        (pss_cons (ps_if (pt_not (pt_val (pe_c C.l_same hr (by decide) rfl (pa_cons (pe_c C.course_book hr (by decide) rfl (pa_cons (pv 3) (pa_cons (pv 9) pa_nil))) (pa_cons (pe_c C.l_book hr (by decide) rfl (pa_cons (pv 3) (pa_cons (pv 9) pa_nil))) pa_nil))))) 
          (pss_one (ps_ret pe_bl)) pss_nil)
        (pss_one (ps_if (pt_not (pt_val (pe_c C.l_same hr (by decide) rfl (pa_cons (pe_c C.is_course hr (by decide) rfl (pa_cons (pv 3) (pa_cons (pv 9) pa_nil))) (pa_cons pe_bl pa_nil))))) 
          (pss_one (ps_ret pe_bl)) pss_nil)))))
      (pss_cons (ps_for PassesOwn.never rfl (pi_list (pe_c C.l_bent hr (by decide) rfl (pa_cons (pv 1) (pa_cons (pv 2) (pa_cons (pv 3) (pa_cons (pv 8) (pa_cons (pv 6) pa_nil))))))) (pg_name (i := 10) sc_law.nd rfl (.inl rfl)) 
        (pss_cons (ps_if (pt_not (pt_val (pe_c C.l_same hr (by decide) rfl (pa_cons (pe_c C.is_course hr (by decide) rfl (pa_cons (pv 3) (pa_cons (pv 10) pa_nil))) (pa_cons (pe_c C.l_is_due hr (by decide) rfl (pa_cons (pv 3) (pa_cons (pv 10) pa_nil))) pa_nil))))) 
          (pss_one (ps_ret pe_bl)) pss_nil)
        (pss_one (ps_if (pt_not (pt_val (pe_c C.l_is_due hr (by decide) rfl (pa_cons (pv 3) (pa_cons (pv 10) pa_nil))))) 
          (pss_one (ps_set (i := 7) sc_law.nd rfl (.inl rfl) (pe_op op_add (pv 7) pe_int))) pss_nil))))
      (pss_one (ps_ret (pe_cmpR op_gt (pv 7) pe_int (nomark _))))))))))))))), ?_⟩
    -- numbers, at, night, choices
    refine ⟨_, rfl, a, ns, rfl, hs, hl, fun nb ms H1 mne s1 nnb enb => ?_⟩
    refine ⟨0, rfl, fun pl npl => ?_⟩
    have g2 := same_new (o := AtO pl) npl
    have epl : (upd H1 pl (AtO pl)) pl = some (AtO pl) := upd_same
    generalize upd H1 pl (AtO pl) = H2 at g2 epl
    have enb2 := g2 _ _ enb
    refine ⟨_, rfl, _, rfl, nb, pl, ms, rfl, enb2, mne, epl, fun r n H3 nok s3 hn => ?_⟩
    obtain ⟨a0, a2, a3, a4, a5, a6, a7, a8, a9, sq, t0, t2, t3, t4, t5, t6, t7, t8, t9⟩ := id hn.ex
    have enb3 := s3 _ _ enb2
    have epl3 := s3 _ _ epl
    have hN3 : Nb K H3 nb pl ms := ⟨.of enb3, mne, epl3⟩
    have h40 := nok.ups.most
    refine ⟨_, rfl, r, _, 6, _, rfl, rfl, sq, atI_nat (j := 6) rfl, .ref a6, n.ups, rfl, t6, nok.ups, fun ca cx H4 s4 nca eca tca => ?_⟩
    have lcx : cx.length = (choicesOf n.ups).length := by rw [tca.len, List.length_map]
    have lch : (choicesOf n.ups).length ≤ 128 := by
      rw [choices_len]
      exact nok.ups.prod
    have hn4 := hn.up s4
    have sq4 := (Gr.same s4).t sq
    have t74 := t7.up (Gr.same s4)
    -- due
    refine ⟨_, rfl, ca, rfl, ⟨_, .of eca⟩, fun du ndu => ?_⟩
    refine lc_list (K := K) (a := ca) (xs := cx) (fun j H5 => ∃ ys, Same H4 H5 ∧ H5 du = some (.lst ys) ∧ TpAll K H5 ys ((((choicesOf n.ups).take j).filter fun c => keeps n.sl c).map strsD))
      ⟨[], same_new ndu, upd_same, .nil⟩ (fun j H5 _ h5 => let ⟨_, s, _⟩ := h5; .of (s _ _ eca)) (fun j x H5 hx h5 => ?_) (fun H5 h5 => ?_)
    · obtain ⟨ys, s5, eD, hty⟩ := h5
      obtain ⟨c, hc, htc⟩ := (tca.up (Gr.same s5)).atF hx
      obtain ⟨xa, rfl, hxa⟩ := htc.strs_of
      have lys : ys.length ≤ 128 := by
        rw [hty.len, List.length_map]
        refine Nat.le_trans (List.length_filter_le _ _) ?_
        rw [List.length_take]
        omega
      refine ⟨rfl, _, rfl, _, rfl, r, _, 7, _, rfl, rfl, (Gr.same s5).t sq4, atI_nat (j := 7) rfl, xa, .ref a7, c, n.sl, rfl, hxa, t74.up (Gr.same s5), _, rfl, ?_⟩
      rw [take_next hc, List.filter_append]
      cases hkp : keeps n.sl c with
      | true =>
        refine iteT ⟨_, rfl, ys, eD, small1000 (by omega), ys ++ [.ref xa], smut s5 ndu, upd_same, ?_⟩
        rw [List.filter_cons_of_pos (by exact hkp), List.filter_nil, List.map_append]
        exact (hty.app (.one htc)).up (Gr.lst eD)
      | false =>
        refine iteF ⟨ys, s5, eD, ?_⟩
        rw [List.filter_cons_of_neg (by rw [hkp]; exact Bool.false_ne_true), List.filter_nil, List.append_nil]
        exact hty
    obtain ⟨dx, s45, edu, tdu⟩ := h5
    rw [lcx, List.take_length] at tdu
    have eca5 := s45 _ _ eca
    have tca5 := tca.up (Gr.same s45)
    -- refused
    refine ⟨_, rfl, ca, rfl, ⟨_, .of eca5⟩, fun re nre => ?_⟩
    refine lc_list (K := K) (a := ca) (xs := cx) (fun j H6 => ∃ ys, Same H5 H6 ∧ H6 re = some (.lst ys) ∧ TpAll K H6 ys ((((choicesOf n.ups).take j).filter fun c => !keeps n.sl c).map strsD))
      ⟨[], same_new nre, upd_same, .nil⟩ (fun j H6 _ h6 => let ⟨_, s, _⟩ := h6; .of (s _ _ eca5)) (fun j x H6 hx h6 => ?_) (fun H6 h6 => ?_)
    · obtain ⟨ys, s5, eD, hty⟩ := h6
      obtain ⟨c, hc, htc⟩ := (tca5.up (Gr.same s5)).atF hx
      obtain ⟨xa, rfl, hxa⟩ := htc.strs_of
      have lys : ys.length ≤ 128 := by
        rw [hty.len, List.length_map]
        refine Nat.le_trans (List.length_filter_le _ _) ?_
        rw [List.length_take]
        omega
      refine ⟨rfl, _, rfl, _, rfl, r, _, 7, _, rfl, rfl, (Gr.same (s45.trans s5)).t sq4, atI_nat (j := 7) rfl, xa, .ref a7, c, n.sl, rfl, hxa, t74.up (Gr.same (s45.trans s5)), _, rfl, ?_⟩
      rw [take_next hc, List.filter_append]
      cases hkp : keeps n.sl c with
      | false =>
        refine iteT ⟨_, rfl, ys, eD, small1000 (by omega), ys ++ [.ref xa], smut s5 nre, upd_same, ?_⟩
        rw [List.filter_cons_of_pos (by rw [hkp]; rfl), List.filter_nil, List.map_append]
        exact (hty.app (.one htc)).up (Gr.lst eD)
      | true =>
        refine iteF ⟨ys, s5, eD, ?_⟩
        rw [List.filter_cons_of_neg (by rw [hkp]; exact Bool.false_ne_true), List.filter_nil, List.append_nil]
        exact hty
    obtain ⟨ex, s56, ere, tre⟩ := h6
    rw [lcx, List.take_length] at tre
    have s46 := s45.trans s56
    have edu6 := s56 _ _ edu
    have tdu6 := tdu.up (Gr.same s56)
    have lDU : ((choicesOf n.ups).filter fun c => keeps n.sl c).length ≤ 128 := Nat.le_trans (List.length_filter_le _ _) lch
    have lRE : ((choicesOf n.ups).filter fun c => !keeps n.sl c).length ≤ 128 := Nat.le_trans (List.length_filter_le _ _) lch
    have hDU : ∀ c ∈ (choicesOf n.ups).filter fun c => keeps n.sl c, RowIn n.ups c ∧ keeps n.sl c = true := fun c hc => by
      obtain ⟨h1, h2⟩ := List.mem_filter.mp hc
      exact ⟨choices_in h1, h2⟩
    have neDU : 0 < ((choicesOf n.ups).filter fun c => keeps n.sl c).length := List.length_pos_of_mem (List.mem_filter.mpr ⟨choices_zero n.ups, by
      have e : n.ups.map (fun _ => ("" : Str)) = List.replicate n.ups.length ("" : Str) := List.map_const' ..
      rw [e]
      exact keeps_zero n.sl _ 0⟩)
    generalize hDUe : ((choicesOf n.ups).filter fun c => keeps n.sl c) = DU at tdu6 lDU hDU neDU tdu
    generalize ((choicesOf n.ups).filter fun c => !keeps n.sl c) = RE at tre lRE
    -- the courses
    have hn6 := hn4.up s46
    refine ⟨_, rfl, r, n, rfl, hn6, nok.ups, nok.sl, fun v1 H7 s67 tv1 => ?_⟩
    rw [hDUe] at tv1
    have edu7 := s67 _ _ edu6
    refine ⟨_, rfl, du, dx, rfl, .inl ⟨.of edu7, fun t nt => ?_⟩⟩
    have g8 := same_new (o := .tup dx) nt
    have tt : Tp K (upd H7 t (.tup dx)) (.ref t) (.tuple (DU.map strsD)) := .tup (.of upd_same) ((tdu6.up (Gr.same s67)).up (Gr.same g8))
    refine ⟨v1, .ref t, .tuple (DU.map strsD), rfl, tv1.up (Gr.same g8), tt, ?_, fun H8 s8 => ⟨_, rfl, iteF ?_⟩⟩
    · have h1 := nd_flat strsD DU 41 fun c hc => by
        have h2 := nd_strs c
        have h3 := (hDU c hc).1.len
        omega
      have h4 : DU.length * 41 ≤ 128 * 41 := Nat.mul_le_mul_right _ lDU
      omega
    have s78 := g8.trans s8
    clear tt
    have s68 := s67.trans s78
    have hn8 := hn6.up s68
    have s48 := s46.trans s68
    have hN8 := hN3.up (s4.trans s48)
    have edu8 := s68 _ _ edu6
    have tdu8 := tdu6.up (Gr.same s68)
    have ere8 := s68 _ _ ere
    have tre8 := tre.up (Gr.same s68)
    have ldx : dx.length = DU.length := by rw [tdu8.len, List.length_map]
    -- drawn
    refine ⟨_, rfl, _, rfl, _, rfl, _, rfl, du, dx, rfl, .inl (.of edu8), nb, pl, ms, _, rfl, hN8.s, hN8.ne, hN8.at_, by omega, fun v v0 v1 => ?_⟩
    have hv : v.toNat < dx.length := by omega
    have hxv := List.getElem?_eq_getElem hv
    generalize dx[v.toNat] = xv at hxv
    obtain ⟨cv, hcv, tcv⟩ := tdu8.atF hxv
    refine ⟨du, dx, _, _, rfl, rfl, .of edu8, at_of (toNat_eq v0) hxv, ?_⟩
    have hx0 := List.getElem?_eq_getElem (show 0 < dx.length by omega)
    generalize dx[0] = x0 at hx0
    obtain ⟨c0, hc0, tc0⟩ := tdu8.atF hx0
    obtain ⟨xl, hxl, hxlm⟩ := last_at (xs := dx) (fun z => by rw [z] at ldx; simp at ldx; omega)
    obtain ⟨li, hli⟩ := List.mem_iff_getElem?.mp hxlm
    obtain ⟨cl, hcl, tcl⟩ := tdu8.atF hli
    -- three of them
    refine ⟨_, rfl, du, dx, 0, x0, rfl, rfl, .of edu8, at_of (j := 0) rfl hx0, _, rfl, _, rfl, 1, rfl, du, dx, _, xl, rfl, rfl, .of edu8, hxl, by show 3 ≤ sizeLine; decide, fun t3 nt3 => ?_⟩
    have g9 := same_new (o := .tup [x0, xv, xl]) nt3
    have ht3 : SqT K (upd H8 t3 (.tup [x0, xv, xl])) t3 [x0, xv, xl] := .of upd_same
    have tc3 : TpAll K (upd H8 t3 (.tup [x0, xv, xl])) [x0, xv, xl] ([c0, cv, cl].map strsD) := TpAll.up (.cons tc0 (.cons tcv (.cons tcl .nil))) (Gr.same g9)
    have hc3 : ∀ c ∈ [c0, cv, cl], RowIn n.ups c ∧ keeps n.sl c = true := fun c hc => by
      have e : c = c0 ∨ c = cv ∨ c = cl := by simpa using hc
      rcases e with e | e | e
      · rw [e]; exact hDU _ (List.mem_of_getElem? hc0)
      · rw [e]; exact hDU _ (List.mem_of_getElem? hcv)
      · rw [e]; exact hDU _ (List.mem_of_getElem? hcl)
    generalize upd H8 t3 (.tup [x0, xv, xl]) = H9 at g9 ht3 tc3
    refine ⟨t3, rfl, ⟨_, ht3⟩, ?_⟩
    refine for_tup (K := K) (a := t3) (xs := [x0, xv, xl]) (fun i σ H10 => ∃ y9, σ = [some (.ref a), some (.ref nb), some (.ref pl), some (.ref r), some (.ref ca), some (.ref du), some (.ref re), some (.int 0), some xv, y9, none, none] ∧ Same H9 H10)
      ⟨_, rfl, Same.refl H9⟩ (fun i σ H10 _ h => let ⟨_, _, s⟩ := h; (Gr.same s).t ht3) (fun i x σ H10 hx h => ?_) (fun σ H10 h => ?_)
    · obtain ⟨y9, rfl, s10⟩ := h
      obtain ⟨c, hc, htc⟩ := (tc3.up (Gr.same s10)).atF hx
      obtain ⟨hrow, hkp⟩ := hc3 c (List.mem_of_getElem? hc)
      obtain ⟨xa, rfl, hxa⟩ := htc.strs_of
      have lc := hrow.len
      have s810 := g9.trans s10
      have hn10 := hn8.up s810
      -- its price
      refine ⟨_, rfl, _, rfl, r, xa, n, c, rfl, hn10, nok.pr, hrow, h40, hxa, fun H11 s11 => ?_⟩
      have hn11 := hn10.up s11
      have hxa11 := (Gr.same s11).t hxa
      refine ⟨_, rfl, _, rfl, r, xa, n, c, rfl, hn11, hxa11, ?_⟩
      refine ⟨_, _, .int (lawPrice n.pr c), rfl, .int _, .int _, by show nd (.int _) ≤ _; rw [nd]; omega, fun H12 s12 => ⟨_, rfl, iteF ?_⟩⟩
      -- its book
      have hn12 := hn11.up s12
      have hxa12 := (Gr.same s12).t hxa11
      refine ⟨_, rfl, _, rfl, r, xa, n, c, rfl, hn12, nok, hrow, hxa12, fun b1 H13 s13 tb1 => ?_⟩
      have hn13 := hn12.up s13
      have hxa13 := (Gr.same s13).t hxa12
      refine ⟨_, rfl, _, rfl, r, xa, n, c, rfl, hn13, nok, hrow, hxa13, fun b2 H14 s14 tb2 => ?_⟩
      refine ⟨b1, b2, bookD n c, rfl, tb1.up (Gr.same s14), tb2, nd_book nok (by omega), fun H15 s15 => ⟨_, rfl, iteF ?_⟩⟩
      have hn15 := hn13.up (s14.trans s15)
      have hxa15 := (Gr.same (s14.trans s15)).t hxa13
      -- it is a course
      refine ⟨_, rfl, _, rfl, r, .ref xa, n, strsD c, rfl, hn15, h40, nok.sl, (Tp.strs hxa15).dp, fun H16 s16 => ?_⟩
      rw [due_row hrow, hkp]
      refine ⟨_, _, .bool true, rfl, .bl _, .bl _, by show nd (.bool _) ≤ _; rw [nd]; omega, fun H17 s17 => ⟨_, rfl, iteF ?_⟩⟩
      exact ⟨_, rfl, s10.trans (s11.trans (s12.trans (s13.trans (s14.trans (s15.trans (s16.trans s17))))))⟩
    -- the bent ones
    obtain ⟨y9, rfl, s910⟩ := h
    have s810 := g9.trans s910
    have hn10 := hn8.up s810
    have hN10 := hN8.up s810
    obtain ⟨hrowv, _⟩ := hDU cv (List.mem_of_getElem? hcv)
    obtain ⟨va, rfl, hva⟩ := (tcv.up (Gr.same s810)).strs_of
    refine ⟨_, rfl, _, rfl, _, rfl, _, rfl, _, rfl, nb, pl, r, va, re, ms, n, cv, ex, RE, rfl, hN10, hn10, nok, hrowv, hva, s810 _ _ ere8, tre8.up (Gr.same s810), lRE, fun b la xs d1 d2 ds H11 s11 eb ela tx o1 o2 lx => ?_⟩
    have hn11 := hn10.up s11
    have hall : DpAll K H11 (.ref la :: xs) (.list (cv.map PyData.str) :: d1 :: d2 :: ds) := .cons (.lst (.of ela) (TpAll.strs (K := K) (H := H11) cv).dp) tx.dp
    have lall := dpa_len hall
    have off : ∀ d, offLen n d → due n d = false := fun d h => by
      obtain ⟨l, rfl, hl⟩ := h
      exact due_none (okTh_len hl)
    have first3 : ∀ (i : Nat) (d : PyData), (.list (cv.map PyData.str) :: d1 :: d2 :: ds)[i]? = some d → i < 3 → due n d = false := fun i d h hi => by
      have e : i = 0 ∨ i = 1 ∨ i = 2 := by omega
      rcases e with e | e | e <;> subst e
      · cases Option.some.inj h
        rfl
      · cases Option.some.inj h
        exact off _ o1
      · cases Option.some.inj h
        exact off _ o2
    have l3 : 3 ≤ (V.ref la :: xs).length := by
      rw [lall]
      simp only [List.length_cons]
      omega
    generalize (PyData.list (cv.map PyData.str) :: d1 :: d2 :: ds) = L at hall first3 lall
    generalize (V.ref la :: xs) = XS at hall eb l3
    refine ⟨b, rfl, ⟨_, .of eb⟩, ?_⟩
    refine for_list (K := K) (a := b) (xs := XS) (fun i σ H12 => ∃ y10 k, σ = [some (.ref a), some (.ref nb), some (.ref pl), some (.ref r), some (.ref ca), some (.ref du), some (.ref re), some (.int k), some (.ref va), y9, y10, none] ∧ Same H11 H12 ∧ ((min i 3 : Nat) : Int) ≤ k)
      ⟨_, 0, rfl, Same.refl H11, by decide⟩ (fun i σ H12 _ h => let ⟨_, _, _, s, _⟩ := h; .of (s _ _ eb)) (fun i x σ H12 hx h => ?_) (fun σ H12 h => ?_)
    · obtain ⟨y10, k, rfl, s12, hk⟩ := h
      obtain ⟨d, hd, hdp⟩ := dpa_at hall hx
      have hn12 := hn11.up s12
      have hdp12 := dp_same s12 _ _ hdp
      refine ⟨_, rfl, _, rfl, r, x, n, d, rfl, hn12, h40, nok.sl, hdp12, fun H13 s13 => ?_⟩
      have hn13 := hn12.up s13
      have hdp13 := dp_same s13 _ _ hdp12
      refine ⟨_, rfl, _, rfl, r, x, n, d, rfl, hn13, h40, hdp13, ?_⟩
      refine ⟨_, _, .bool (due n d), rfl, .bl _, .bl _, by show nd (.bool _) ≤ _; rw [nd]; omega, fun H14 s14 => ⟨_, rfl, iteF ?_⟩⟩
      have hn14 := hn13.up s14
      have hdp14 := dp_same s14 _ _ hdp13
      have s1114 := s12.trans (s13.trans s14)
      refine ⟨_, rfl, _, rfl, r, x, n, d, rfl, hn14, h40, hdp14, _, rfl, ?_⟩
      cases hdu : due n d with
      | false => exact iteT ⟨_, rfl, _, _, rfl, rfl, _, k + 1, rfl, s1114, by omega⟩
      | true =>
        refine iteF ⟨_, k, rfl, s1114, ?_⟩
        have : ¬ i < 3 := fun h => by
          rw [first3 i d hd h] at hdu
          cases hdu
        omega
    · obtain ⟨y10, k, rfl, s12, hk⟩ := h
      refine ⟨_, rfl, _, _, rfl, rfl, ?_⟩
      show Q (.bl (decide ((2 : Int) < k))) H12
      rw [decide_eq_true (show (2 : Int) < k by omega)]
      exact q H12
end
end K78
set_option Elab.async false
set_option linter.all false
set_option maxRecDepth 100000
set_option maxHeartbeats 4000000
namespace K78
open PySem PySem.Spec PyProof.Rows L2 KB RZ
theorem dn_of {K : PySem.W.Frag} {h : Heap} {mg : Str → Option Value} (X : K.In h) (G : h.Ns mainGlobals mg) {x : Str} {st : Stmt} {f : Addr} {fd : FuncData} (F : KB.FnP K x st f fd) (e : mg x = some (.ref f)) : Dn K mg x st := ⟨f, fd, F, e⟩
theorem facts {P : Program} {w : World} {K : PySem.W.Frag} {h : Heap} {mg : Str → Option Value} {f : Addr} (X : K.In h) (G : h.Ns mainGlobals mg) (hfa : mg ("law" : Str) = some (.ref f)) (c : He.SaysD fa fn K) :
    ∃ fd : FuncData, (∀ (s : Shared) (v : Value), BindsTo s fd ⟨[v], []⟩ [("script", v)]) ∧ ∀ base : Heap, K.In base → base.Ns mainGlobals mg → FnOk P w K mg base CX0 6 f fd ["script"] (spLaw K) := by
  obtain ⟨fd_seen_row, F_seen_row⟩ := c.def_ 0 (d := d_seen_row) rfl
  have D_seen_row := dn_of (st := s_seen_row) X G F_seen_row (He.glo_ok X G (c.fact 0 (f := .glo "seen_row") rfl))
  obtain ⟨fd_is_course, F_is_course⟩ := c.def_ 1 (d := d_is_course) rfl
  have D_is_course := dn_of (st := s_is_course) X G F_is_course (He.glo_ok X G (c.fact 1 (f := .glo "is_course") rfl))
  obtain ⟨fd_courses_of, F_courses_of⟩ := c.def_ 2 (d := d_courses_of) rfl
  have D_courses_of := dn_of (st := s_courses_of) X G F_courses_of (He.glo_ok X G (c.fact 2 (f := .glo "courses_of") rfl))
  obtain ⟨fd_course_price, F_course_price⟩ := c.def_ 3 (d := d_course_price) rfl
  have D_course_price := dn_of (st := s_course_price) X G F_course_price (He.glo_ok X G (c.fact 3 (f := .glo "course_price") rfl))
  obtain ⟨fd_course_book, F_course_book⟩ := c.def_ 4 (d := d_course_book) rfl
  have D_course_book := dn_of (st := s_course_book) X G F_course_book (He.glo_ok X G (c.fact 4 (f := .glo "course_book") rfl))
  obtain ⟨fd_pair_rows, F_pair_rows⟩ := c.def_ 5 (d := d_pair_rows) rfl
  have D_pair_rows := dn_of (st := s_pair_rows) X G F_pair_rows (He.glo_ok X G (c.fact 5 (f := .glo "_pair_rows") rfl))
  obtain ⟨fd_l_numbers, F_l_numbers⟩ := c.def_ 6 (d := d_l_numbers) rfl
  have D_l_numbers := dn_of (st := s_l_numbers) X G F_l_numbers (He.glo_ok X G (c.fact 6 (f := .glo "_law_numbers") rfl))
  obtain ⟨fd_l_pick, F_l_pick⟩ := c.def_ 7 (d := d_l_pick) rfl
  have D_l_pick := dn_of (st := s_l_pick) X G F_l_pick (He.glo_ok X G (c.fact 7 (f := .glo "_law_pick") rfl))
  obtain ⟨fd_l_same, F_l_same⟩ := c.def_ 8 (d := d_l_same) rfl
  have D_l_same := dn_of (st := s_l_same) X G F_l_same (He.glo_ok X G (c.fact 8 (f := .glo "_law_same") rfl))
  obtain ⟨fd_l_name, F_l_name⟩ := c.def_ 9 (d := d_l_name) rfl
  have D_l_name := dn_of (st := s_l_name) X G F_l_name (He.glo_ok X G (c.fact 9 (f := .glo "_law_name") rfl))
  obtain ⟨fd_l_names, F_l_names⟩ := c.def_ 10 (d := d_l_names) rfl
  have D_l_names := dn_of (st := s_l_names) X G F_l_names (He.glo_ok X G (c.fact 10 (f := .glo "_law_names") rfl))
  obtain ⟨fd_l_sizes, F_l_sizes⟩ := c.def_ 11 (d := d_l_sizes) rfl
  have D_l_sizes := dn_of (st := s_l_sizes) X G F_l_sizes (He.glo_ok X G (c.fact 11 (f := .glo "_law_sizes") rfl))
  obtain ⟨fd_l_ups, F_l_ups⟩ := c.def_ 12 (d := d_l_ups) rfl
  have D_l_ups := dn_of (st := s_l_ups) X G F_l_ups (He.glo_ok X G (c.fact 12 (f := .glo "_law_ups") rfl))
  obtain ⟨fd_l_slews, F_l_slews⟩ := c.def_ 13 (d := d_l_slews) rfl
  have D_l_slews := dn_of (st := s_l_slews) X G F_l_slews (He.glo_ok X G (c.fact 13 (f := .glo "_law_slews") rfl))
  obtain ⟨fd_l_prices, F_l_prices⟩ := c.def_ 14 (d := d_l_prices) rfl
  have D_l_prices := dn_of (st := s_l_prices) X G F_l_prices (He.glo_ok X G (c.fact 14 (f := .glo "_law_prices") rfl))
  obtain ⟨fd_l_lead, F_l_lead⟩ := c.def_ 15 (d := d_l_lead) rfl
  have D_l_lead := dn_of (st := s_l_lead) X G F_l_lead (He.glo_ok X G (c.fact 15 (f := .glo "_law_lead") rfl))
  obtain ⟨fd_l_plan, F_l_plan⟩ := c.def_ 16 (d := d_l_plan) rfl
  have D_l_plan := dn_of (st := s_l_plan) X G F_l_plan (He.glo_ok X G (c.fact 16 (f := .glo "_law_plan") rfl))
  obtain ⟨fd_l_facts, F_l_facts⟩ := c.def_ 17 (d := d_l_facts) rfl
  have D_l_facts := dn_of (st := s_l_facts) X G F_l_facts (He.glo_ok X G (c.fact 17 (f := .glo "_law_facts") rfl))
  obtain ⟨fd_l_night, F_l_night⟩ := c.def_ 18 (d := d_l_night) rfl
  have D_l_night := dn_of (st := s_l_night) X G F_l_night (He.glo_ok X G (c.fact 18 (f := .glo "_law_night") rfl))
  obtain ⟨fd_l_choices, F_l_choices⟩ := c.def_ 19 (d := d_l_choices) rfl
  have D_l_choices := dn_of (st := s_l_choices) X G F_l_choices (He.glo_ok X G (c.fact 19 (f := .glo "_law_choices") rfl))
  obtain ⟨fd_l_keeps, F_l_keeps⟩ := c.def_ 20 (d := d_l_keeps) rfl
  have D_l_keeps := dn_of (st := s_l_keeps) X G F_l_keeps (He.glo_ok X G (c.fact 20 (f := .glo "_law_keeps") rfl))
  obtain ⟨fd_l_is_due, F_l_is_due⟩ := c.def_ 21 (d := d_l_is_due) rfl
  have D_l_is_due := dn_of (st := s_l_is_due) X G F_l_is_due (He.glo_ok X G (c.fact 21 (f := .glo "_law_is_due") rfl))
  obtain ⟨fd_l_book, F_l_book⟩ := c.def_ 22 (d := d_l_book) rfl
  have D_l_book := dn_of (st := s_l_book) X G F_l_book (He.glo_ok X G (c.fact 22 (f := .glo "_law_book") rfl))
  obtain ⟨fd_l_price, F_l_price⟩ := c.def_ 23 (d := d_l_price) rfl
  have D_l_price := dn_of (st := s_l_price) X G F_l_price (He.glo_ok X G (c.fact 23 (f := .glo "_law_price") rfl))
  obtain ⟨fd_l_bent, F_l_bent⟩ := c.def_ 24 (d := d_l_bent) rfl
  have D_l_bent := dn_of (st := s_l_bent) X G F_l_bent (He.glo_ok X G (c.fact 24 (f := .glo "_law_bent") rfl))
  obtain ⟨fd, F⟩ := c.def_ 25 (d := d_law) rfl
  have e := hfa.symm.trans (He.glo_ok X G (c.fact 25 (f := .glo "law") rfl))
  cases e
  have B : Bl mg := ⟨He.free_ok X G (c.fact 26 (f := .free "bool") rfl), He.free_ok X G (c.fact 27 (f := .free "dict") rfl), He.free_ok X G (c.fact 28 (f := .free "enumerate") rfl), He.free_ok X G (c.fact 29 (f := .free "int") rfl), He.free_ok X G (c.fact 30 (f := .free "isinstance") rfl), He.free_ok X G (c.fact 31 (f := .free "len") rfl), He.free_ok X G (c.fact 32 (f := .free "list") rfl), He.free_ok X G (c.fact 33 (f := .free "max") rfl), He.free_ok X G (c.fact 34 (f := .free "min") rfl), He.free_ok X G (c.fact 35 (f := .free "range") rfl), He.free_ok X G (c.fact 36 (f := .free "sorted") rfl), He.free_ok X G (c.fact 37 (f := .free "str") rfl), He.free_ok X G (c.fact 38 (f := .free "sum") rfl), He.free_ok X G (c.fact 39 (f := .free "tuple") rfl), He.free_ok X G (c.fact 40 (f := .free "zip") rfl)⟩
  have b := FunD.bindsA (ps := ["script"]) F fun _ _ _ _ _ _ us hl => match us, hl with | [_], _ => rfl
  refine ⟨fd, fun s v => b s [v] rfl, fun base _ _ => ?_⟩
  have k_pick := c_l_pick (P := P) (w := w) (base := base) D_l_pick B
  have C1 : Ca P w K mg base := ⟨k_pick⟩
  have k_numbers := c_l_numbers (P := P) (w := w) (base := base) D_l_numbers B
  have C2 : Ca2 P w K mg base := { toCa := C1, l_name := c_l_name D_l_name B C1 }
  have C3 : Ca3 P w K mg base := { toCa2 := C2, l_names := c_l_names D_l_names B C2 }
  have C4 : Ca4 P w K mg base := { toCa3 := C3, l_lead := c_l_lead D_l_lead B }
  have C5 : Ca5 P w K mg base := { toCa4 := C4, l_sizes := c_l_sizes D_l_sizes B C2, l_ups := c_l_ups D_l_ups B C2, l_plan := c_l_plan D_l_plan B C3, l_slews := c_l_slews D_l_slews B C2, l_prices := c_l_prices D_l_prices B C2, l_facts := c_l_facts D_l_facts B C4 }
  have k_keeps := c_l_keeps (P := P) (w := w) (base := base) D_l_keeps B
  have k_course := c_is_course (P := P) (w := w) (base := base) D_is_course B
  have k_seen := c_seen_row (P := P) (w := w) (base := base) D_seen_row B
  have k_pairs := c_pair_rows (P := P) (w := w) (base := base) D_pair_rows B ⟨k_seen⟩
  exact law_ok F B { l_pick := k_pick, l_numbers := k_numbers, l_night := c_l_night D_l_night B C5, l_choices := c_l_choices D_l_choices B, l_keeps := k_keeps, l_same := c_l_same D_l_same B, courses_of := c_courses_of D_courses_of B ⟨k_course⟩, course_price := c_course_price D_course_price B, l_price := c_l_price D_l_price B, course_book := c_course_book D_course_book B ⟨k_pairs⟩, l_book := c_l_book D_l_book B, is_course := k_course, l_bent := c_l_bent D_l_bent B C2, l_is_due := c_l_is_due D_l_is_due B ⟨k_keeps⟩ }
end K78
open PySem PySem.W PySem.Calls PyProof.Rows
theorem PySem.Challenge.cw_everygain_k78_whole_courses_holds : PySem.Challenge.rw_everygain_k78_whole_courses.Holds := by
  w_on; o_law
  refine HandSHeadRun.head_any (r := OpenLaw.row PySem.Challenge.rw_everygain_k78_whole_courses) (q := view (OpenLaw.row PySem.Challenge.rw_everygain_k78_whole_courses).prog [28]) (H := K78.hk) (ob := K78.ob) (M := 4000) (loose := K78.loose) (d := HandSHeadRun.topDef (OpenLaw.row PySem.Challenge.rw_everygain_k78_whole_courses).prog 28) (kwd := []) K78.ob_eq
    (by kernel_rfl) (fun s => by kernel_rfl) K78.run (by kernel_rfl) (by kernel_rfl) (by kernel_rfl) (by rfl) (by first | assumption | decide +kernel) (by decide +kernel) ⟨rfl, rfl, rfl, rfl, rfl, by decide +kernel⟩ ?hw ?hc
  case hw => w_witness2
  case hc =>
    refine L2.walk_ofE (l := PySem.Challenge.rw_everygain_k78_whole_courses) (n := 63) (k := 6) (x := "script") (CX := L2.CX0) rfl (by decide) (by kernel_rfl) ⟨rfl, by decide, by decide⟩ ?F (fun _ _ _ _ z => z)
    intro w mg fa h Y G hmg0
    obtain ⟨K, KX, c⟩ := Y
    have hmg : mg ("law" : PySem.Str) = some (.ref fa) := by
      have e : (HandSHeadRun.topDef (OpenLaw.row PySem.Challenge.rw_everygain_k78_whole_courses).prog 28).name = ("law" : PySem.Str) := by kernel_rfl
      rw [← e]
      exact hmg0
    obtain ⟨fd, hb, hF⟩ := K78.facts (P := (PySem.Challenge.rw_everygain_k78_whole_courses).prog) (w := w) KX G hmg c
    exact ⟨K, fd, K78.spLaw K, KX, hb, fun H a ns hl h63 hS => ⟨a, ns, rfl, hS, by omega, fun _ => rfl⟩, hF⟩
