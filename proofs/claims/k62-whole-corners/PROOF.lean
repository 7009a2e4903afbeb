import PyProof.Rows.All
import Wide.All
import OpenK.AllK
import Wide.FinOn
import KE.KStateDown
import HandS.ForMost
import HandS.ForExc
import HandS.Defaults
import HandS.ExcInit
import HandS.ExcField
import HandS.ExcIs
import HandS.Head0
import HandS.Head1
import HandS.Head2
import HandS.HeadEnd
import HandS.HeadHook1
import HandS.HeadHook2
import PySem.Challenge.RW_unithouse_k62_whole_corners
import HandS.Evl
import HandS.Exc
import HandS.Conv
import HandS.RevRange
import HandS.Zip
import HandS.Rev
import HandS.TupAny
import HandS.TupMul
import HandS.IsInst
import HandS.Style
import HandS.Strs
import HandS.SetFor
import HandS.SortInts
import HandS.Sort
import KE.GoesEnum
import KE.GoesMore
import PyProof.SumWalkG
import HandS.HotCalls
import HandS.TryOnly
import HandS.Ends
import HandS.Dict
import HandS.TryMany
import KE.KExcIs
set_option Elab.async false
set_option linter.all false
set_option maxRecDepth 100000
set_option maxHeartbeats 4000000
namespace Uh
open PySem PySem.Spec PyProof.Rows L2
/-! ### the text by places -/
def top (i : Nat) : Stmt := PySem.Challenge.pw_unithouse_k62_whole_corners.main.body.getD i (.Pass ⟨0, 0, 0, 0⟩)
abbrev R : PySem.W.OpenRow := PySem.W.OpenLaw.row PySem.Challenge.rw_unithouse_k62_whole_corners
abbrev s_is_from : Stmt := top 17
abbrev s_need_many : Stmt := top 18
abbrev s_need_pair : Stmt := top 19
abbrev s_part_places : Stmt := top 20
abbrev s_walked : Stmt := top 22
abbrev s_marks_of : Stmt := top 23
abbrev s_width_of : Stmt := top 24
abbrev s_choices : Stmt := top 26
abbrev s_bare_size : Stmt := top 27
abbrev s_size_of : Stmt := top 28
abbrev s_need_sort : Stmt := top 29
abbrev s_rising : Stmt := top 44
abbrev s_all_like : Stmt := top 46
abbrev s_member_like : Stmt := top 47
abbrev s_is_member : Stmt := top 48
abbrev s_need_member : Stmt := top 49
abbrev s_in_stead : Stmt := top 51
abbrev s_name_places : Stmt := top 54
abbrev s_places : Stmt := top 60
abbrev s_free_numbers : Stmt := top 61
abbrev s_moved_readings : Stmt := top 62
abbrev s_need_two : Stmt := top 64
abbrev s_transfer : Stmt := top 65
abbrev s_is_side : Stmt := top 70
abbrev s_is_item : Stmt := top 71
abbrev s_is_table_row : Stmt := top 72
abbrev s_need_table : Stmt := top 73
abbrev s_column_items : Stmt := top 74
abbrev s_paired : Stmt := top 75
abbrev s_sort_of : Stmt := top 76
abbrev s_member_of : Stmt := top 77
abbrev s_table_of : Stmt := top 78
abbrev s_quarter_rows : Stmt := top 79
abbrev s_quarter_rows_back : Stmt := top 80
abbrev s_transposed_rows : Stmt := top 81
abbrev s_crossed : Stmt := top 82
abbrev s_crossed_back : Stmt := top 83
abbrev s_moved_tables : Stmt := top 84
abbrev s_way_up : Stmt := top 87
abbrev s_up_names : Stmt := top 88
abbrev s_up_columns : Stmt := top 89
abbrev s_names_root : Stmt := top 90
abbrev s_columns_root : Stmt := top 91
abbrev s_corner : Stmt := top 92
abbrev s_is_corner : Stmt := top 93
abbrev s_l_mixed : Stmt := top 95
abbrev s_l_begin : Stmt := top 96
abbrev s_l_draw : Stmt := top 97
abbrev s_l_of : Stmt := top 98
abbrev s_l_like : Stmt := top 99
abbrev s_l_spots : Stmt := top 100
abbrev s_l_loose : Stmt := top 101
abbrev s_l_moved : Stmt := top 102
abbrev s_l_step : Stmt := top 103
abbrev s_l_backs : Stmt := top 104
abbrev s_l_end : Stmt := top 105
abbrev s_l_table : Stmt := top 106
abbrev s_l_fault : Stmt := top 107
abbrev s_l_bent : Stmt := top 108
abbrev s_l_formed : Stmt := top 109
abbrev s_l_asked : Stmt := top 110
abbrev s_l_right : Stmt := top 111
abbrev s_l_refused : Stmt := top 112
abbrev s_law : Stmt := top 113
abbrev s_iTooGreat : Stmt := inClass (top 4) 0
abbrev s_iNoFree : Stmt := inClass (top 8) 0
abbrev s_iBadTable : Stmt := inClass (top 9) 0
abbrev FnP (K : PySem.W.Frag) (x q : Str) (st : Stmt) (f : Addr) (fd : FuncData) : Prop := FunD K x q (defArgs st) (defBody st) (defScope st) [] [] f fd
/-! ### what the head tells -/
def d_is_from : He.DefD := ⟨("is_from", none), "is_from", "is_from", defArgs s_is_from, defBody s_is_from, defScope s_is_from, [], []⟩
def d_need_many : He.DefD := ⟨("need_many", none), "need_many", "need_many", defArgs s_need_many, defBody s_need_many, defScope s_need_many, [], []⟩
def d_need_pair : He.DefD := ⟨("need_pair", none), "need_pair", "need_pair", defArgs s_need_pair, defBody s_need_pair, defScope s_need_pair, [], []⟩
def d_part_places : He.DefD := ⟨("part_places", none), "part_places", "part_places", defArgs s_part_places, defBody s_part_places, defScope s_part_places, [], []⟩
def d_walked : He.DefD := ⟨("walked", none), "walked", "walked", defArgs s_walked, defBody s_walked, defScope s_walked, [], []⟩
def d_marks_of : He.DefD := ⟨("marks_of", none), "marks_of", "marks_of", defArgs s_marks_of, defBody s_marks_of, defScope s_marks_of, [], []⟩
def d_width_of : He.DefD := ⟨("width_of", none), "width_of", "width_of", defArgs s_width_of, defBody s_width_of, defScope s_width_of, [], []⟩
def d_choices : He.DefD := ⟨("choices", none), "choices", "choices", defArgs s_choices, defBody s_choices, defScope s_choices, [], []⟩
def d_bare_size : He.DefD := ⟨("bare_size", none), "bare_size", "bare_size", defArgs s_bare_size, defBody s_bare_size, defScope s_bare_size, [], []⟩
def d_size_of : He.DefD := ⟨("size_of", none), "size_of", "size_of", defArgs s_size_of, defBody s_size_of, defScope s_size_of, [], []⟩
def d_need_sort : He.DefD := ⟨("need_sort", none), "need_sort", "need_sort", defArgs s_need_sort, defBody s_need_sort, defScope s_need_sort, [], []⟩
def d_rising : He.DefD := ⟨("rising", none), "rising", "rising", defArgs s_rising, defBody s_rising, defScope s_rising, [], []⟩
def d_all_like : He.DefD := ⟨("all_like", none), "all_like", "all_like", defArgs s_all_like, defBody s_all_like, defScope s_all_like, [], []⟩
def d_member_like : He.DefD := ⟨("member_like", none), "member_like", "member_like", defArgs s_member_like, defBody s_member_like, defScope s_member_like, [], []⟩
def d_is_member : He.DefD := ⟨("is_member", none), "is_member", "is_member", defArgs s_is_member, defBody s_is_member, defScope s_is_member, [], []⟩
def d_need_member : He.DefD := ⟨("need_member", none), "need_member", "need_member", defArgs s_need_member, defBody s_need_member, defScope s_need_member, [], []⟩
def d_in_stead : He.DefD := ⟨("in_stead", none), "in_stead", "in_stead", defArgs s_in_stead, defBody s_in_stead, defScope s_in_stead, [], []⟩
def d_name_places : He.DefD := ⟨("name_places", none), "name_places", "name_places", defArgs s_name_places, defBody s_name_places, defScope s_name_places, [], []⟩
def d_places : He.DefD := ⟨("places", none), "places", "places", defArgs s_places, defBody s_places, defScope s_places, [], []⟩
def d_free_numbers : He.DefD := ⟨("free_numbers", none), "free_numbers", "free_numbers", defArgs s_free_numbers, defBody s_free_numbers, defScope s_free_numbers, [], []⟩
def d_moved_readings : He.DefD := ⟨("moved_readings", none), "moved", "moved", defArgs s_moved_readings, defBody s_moved_readings, defScope s_moved_readings, [], []⟩
def d_need_two : He.DefD := ⟨("need_two", none), "need_two", "need_two", defArgs s_need_two, defBody s_need_two, defScope s_need_two, [], []⟩
def d_transfer : He.DefD := ⟨("transfer", none), "transfer", "transfer", defArgs s_transfer, defBody s_transfer, defScope s_transfer, [], []⟩
def d_is_side : He.DefD := ⟨("is_side", none), "is_side", "is_side", defArgs s_is_side, defBody s_is_side, defScope s_is_side, [], []⟩
def d_is_item : He.DefD := ⟨("is_item", none), "is_item", "is_item", defArgs s_is_item, defBody s_is_item, defScope s_is_item, [], []⟩
def d_is_table_row : He.DefD := ⟨("is_table_row", none), "is_table_row", "is_table_row", defArgs s_is_table_row, defBody s_is_table_row, defScope s_is_table_row, [], []⟩
def d_need_table : He.DefD := ⟨("need_table", none), "need_table", "need_table", defArgs s_need_table, defBody s_need_table, defScope s_need_table, [], []⟩
def d_column_items : He.DefD := ⟨("column_items", none), "column_items", "column_items", defArgs s_column_items, defBody s_column_items, defScope s_column_items, [], []⟩
def d_paired : He.DefD := ⟨("paired", none), "paired", "paired", defArgs s_paired, defBody s_paired, defScope s_paired, [], []⟩
def d_sort_of : He.DefD := ⟨("sort_of", none), "sort_of", "sort_of", defArgs s_sort_of, defBody s_sort_of, defScope s_sort_of, [], []⟩
def d_member_of : He.DefD := ⟨("member_of", none), "member_of", "member_of", defArgs s_member_of, defBody s_member_of, defScope s_member_of, [], []⟩
def d_table_of : He.DefD := ⟨("table_of", none), "table_of", "table_of", defArgs s_table_of, defBody s_table_of, defScope s_table_of, [], []⟩
def d_quarter_rows : He.DefD := ⟨("quarter_rows", none), "quarter_rows", "quarter_rows", defArgs s_quarter_rows, defBody s_quarter_rows, defScope s_quarter_rows, [], []⟩
def d_quarter_rows_back : He.DefD := ⟨("quarter_rows_back", none), "quarter_rows_back", "quarter_rows_back", defArgs s_quarter_rows_back, defBody s_quarter_rows_back, defScope s_quarter_rows_back, [], []⟩
def d_transposed_rows : He.DefD := ⟨("transposed_rows", none), "transposed_rows", "transposed_rows", defArgs s_transposed_rows, defBody s_transposed_rows, defScope s_transposed_rows, [], []⟩
def d_crossed : He.DefD := ⟨("crossed", none), "crossed", "crossed", defArgs s_crossed, defBody s_crossed, defScope s_crossed, [], []⟩
def d_crossed_back : He.DefD := ⟨("crossed_back", none), "crossed_back", "crossed_back", defArgs s_crossed_back, defBody s_crossed_back, defScope s_crossed_back, [], []⟩
def d_moved_tables : He.DefD := ⟨("moved_tables", none), "moved", "moved", defArgs s_moved_tables, defBody s_moved_tables, defScope s_moved_tables, [], []⟩
def d_way_up : He.DefD := ⟨("way_up", none), "way_up", "way_up", defArgs s_way_up, defBody s_way_up, defScope s_way_up, [], []⟩
def d_up_names : He.DefD := ⟨("up_names", none), "up_names", "up_names", defArgs s_up_names, defBody s_up_names, defScope s_up_names, [], []⟩
def d_up_columns : He.DefD := ⟨("up_columns", none), "up_columns", "up_columns", defArgs s_up_columns, defBody s_up_columns, defScope s_up_columns, [], []⟩
def d_names_root : He.DefD := ⟨("names_root", none), "names_root", "names_root", defArgs s_names_root, defBody s_names_root, defScope s_names_root, [], []⟩
def d_columns_root : He.DefD := ⟨("columns_root", none), "columns_root", "columns_root", defArgs s_columns_root, defBody s_columns_root, defScope s_columns_root, [], []⟩
def d_corner : He.DefD := ⟨("corner", none), "corner", "corner", defArgs s_corner, defBody s_corner, defScope s_corner, [], []⟩
def d_is_corner : He.DefD := ⟨("is_corner", none), "is_corner", "is_corner", defArgs s_is_corner, defBody s_is_corner, defScope s_is_corner, [], []⟩
def d_l_mixed : He.DefD := ⟨("_law_mixed", none), "_law_mixed", "_law_mixed", defArgs s_l_mixed, defBody s_l_mixed, defScope s_l_mixed, [], []⟩
def d_l_begin : He.DefD := ⟨("_law_begin", none), "_law_begin", "_law_begin", defArgs s_l_begin, defBody s_l_begin, defScope s_l_begin, [], []⟩
def d_l_draw : He.DefD := ⟨("_law_draw", none), "_law_draw", "_law_draw", defArgs s_l_draw, defBody s_l_draw, defScope s_l_draw, [], []⟩
def d_l_of : He.DefD := ⟨("_law_of", none), "_law_of", "_law_of", defArgs s_l_of, defBody s_l_of, defScope s_l_of, [], []⟩
def d_l_like : He.DefD := ⟨("_law_like", none), "_law_like", "_law_like", defArgs s_l_like, defBody s_l_like, defScope s_l_like, [], []⟩
def d_l_spots : He.DefD := ⟨("_law_spots", none), "_law_spots", "_law_spots", defArgs s_l_spots, defBody s_l_spots, defScope s_l_spots, [], []⟩
def d_l_loose : He.DefD := ⟨("_law_loose", none), "_law_loose", "_law_loose", defArgs s_l_loose, defBody s_l_loose, defScope s_l_loose, [], []⟩
def d_l_moved : He.DefD := ⟨("_law_moved", none), "_law_moved", "_law_moved", defArgs s_l_moved, defBody s_l_moved, defScope s_l_moved, [], []⟩
def d_l_step : He.DefD := ⟨("_law_step", none), "_law_step", "_law_step", defArgs s_l_step, defBody s_l_step, defScope s_l_step, [], []⟩
def d_l_backs : He.DefD := ⟨("_law_backs", none), "_law_backs", "_law_backs", defArgs s_l_backs, defBody s_l_backs, defScope s_l_backs, [], []⟩
def d_l_end : He.DefD := ⟨("_law_end", none), "_law_end", "_law_end", defArgs s_l_end, defBody s_l_end, defScope s_l_end, [], []⟩
def d_l_table : He.DefD := ⟨("_law_table", none), "_law_table", "_law_table", defArgs s_l_table, defBody s_l_table, defScope s_l_table, [], []⟩
def d_l_fault : He.DefD := ⟨("_law_fault", none), "_law_fault", "_law_fault", defArgs s_l_fault, defBody s_l_fault, defScope s_l_fault, [], []⟩
def d_l_bent : He.DefD := ⟨("_law_bent", none), "_law_bent", "_law_bent", defArgs s_l_bent, defBody s_l_bent, defScope s_l_bent, [], []⟩
def d_l_formed : He.DefD := ⟨("_law_formed", none), "_law_formed", "_law_formed", defArgs s_l_formed, defBody s_l_formed, defScope s_l_formed, [], []⟩
def d_l_asked : He.DefD := ⟨("_law_asked", none), "_law_asked", "_law_asked", defArgs s_l_asked, defBody s_l_asked, defScope s_l_asked, [], []⟩
def d_l_right : He.DefD := ⟨("_law_right", none), "_law_right", "_law_right", defArgs s_l_right, defBody s_l_right, defScope s_l_right, [], []⟩
def d_l_refused : He.DefD := ⟨("_law_refused", none), "_law_refused", "_law_refused", defArgs s_l_refused, defBody s_l_refused, defScope s_l_refused, [], []⟩
def d_law : He.DefD := ⟨("law", none), "law", "law", defArgs s_law, defBody s_law, defScope s_law, [], []⟩
def d_iTooGreat : He.DefD := ⟨("TooGreat", some "__init__"), "__init__", "TooGreat.__init__", defArgs s_iTooGreat, defBody s_iTooGreat, defScope s_iTooGreat, [], []⟩
def d_iNoFree : He.DefD := ⟨("NoFree", some "__init__"), "__init__", "NoFree.__init__", defArgs s_iNoFree, defBody s_iNoFree, defScope s_iNoFree, [], []⟩
def d_iBadTable : He.DefD := ⟨("BadTable", some "__init__"), "__init__", "BadTable.__init__", defArgs s_iBadTable, defBody s_iBadTable, defScope s_iBadTable, [], []⟩
def fn0 : List He.DefD := [d_is_from, d_need_many, d_need_pair, d_part_places, d_walked, d_marks_of, d_width_of, d_choices, d_bare_size, d_size_of, d_need_sort, d_rising, d_all_like, d_member_like, d_is_member, d_need_member, d_in_stead, d_name_places, d_places, d_free_numbers, d_moved_readings, d_need_two, d_transfer, d_is_side, d_is_item]
def fn1 : List He.DefD := [d_is_table_row, d_need_table, d_column_items, d_paired, d_sort_of, d_member_of, d_table_of, d_quarter_rows, d_quarter_rows_back, d_transposed_rows, d_crossed, d_crossed_back, d_moved_tables, d_way_up, d_up_names, d_up_columns, d_names_root, d_columns_root, d_corner, d_is_corner, d_l_mixed, d_l_begin, d_l_draw, d_l_of, d_l_like]
def fn2 : List He.DefD := [d_l_spots, d_l_loose, d_l_moved, d_l_step, d_l_backs, d_l_end, d_l_table, d_l_fault, d_l_bent, d_l_formed, d_l_asked, d_l_right, d_l_refused, d_law, d_iTooGreat, d_iNoFree, d_iBadTable]
def fn : List He.DefD := fn0 ++ fn1 ++ fn2
def fa0 : List He.Fa := [.glo "is_from", .glo "need_many", .glo "need_pair", .glo "part_places", .glo "walked", .glo "marks_of", .glo "width_of", .glo "choices", .glo "bare_size", .glo "size_of", .glo "need_sort", .glo "rising", .glo "all_like", .glo "member_like", .glo "is_member", .glo "need_member", .glo "in_stead", .glo "name_places", .glo "places", .glo "free_numbers", .glo "moved_readings", .glo "need_two", .glo "transfer", .glo "is_side", .glo "is_item"]
def fa1 : List He.Fa := [.glo "is_table_row", .glo "need_table", .glo "column_items", .glo "paired", .glo "sort_of", .glo "member_of", .glo "table_of", .glo "quarter_rows", .glo "quarter_rows_back", .glo "transposed_rows", .glo "crossed", .glo "crossed_back", .glo "moved_tables", .glo "way_up", .glo "up_names", .glo "up_columns", .glo "names_root", .glo "columns_root", .glo "corner", .glo "is_corner", .glo "_law_mixed", .glo "_law_begin", .glo "_law_draw", .glo "_law_of", .glo "_law_like"]
def fa2 : List He.Fa := [.glo "_law_spots", .glo "_law_loose", .glo "_law_moved", .glo "_law_step", .glo "_law_backs", .glo "_law_end", .glo "_law_table", .glo "_law_fault", .glo "_law_bent", .glo "_law_formed", .glo "_law_asked", .glo "_law_right", .glo "_law_refused", .glo "law", .glo "TooGreat", .glo "NoFree", .glo "BadTable", .glo "UnitError", .free "len", .free "range", .free "tuple", .free "list", .free "isinstance", .free "int", .free "bool"]
def fa3 : List He.Fa := [.free "str", .free "sum", .free "max", .free "min", .free "enumerate", .free "zip", .free "reversed", .free "sorted", .free "repr", .int "MOST_DEEP" 10, .int "MOST_PARTS" 60, .int "MOST_MARKS_sorts" 12, .int "MOST_WIDTH" 40, .int "MOST_MEMBERS" 1000000000000000000000000000000, .int "MOST_NUMBER" 12, .int "LEAST_SIDE" 2, .int "MOST_SIDE" 5, .int "MOST_MARKS_tables" 12]
def fa : List He.Fa := fa0 ++ fa1 ++ fa2 ++ fa3
/-- the shape of an own exception class -/
def oexB (K : PySem.W.Frag) (C : Addr) : Bool := match K.lookup C with
  | some ⟨.type t, _, .cls cd, sl⟩ => decide (t = "type") && (match cd.mro, sl.toList with
    | .ref D :: bm, [_, _, _, _, some (.builtin n), _] => decide (D = C) && (decide (n = "ValueError.__new__") && (!cd.hasDel && (cd.hasDict && PySem.HandSPX.refsVE bm)))
    | _, _ => false)
  | _ => false
theorem oexB_ok {K : PySem.W.Frag} {C : Addr} (h : oexB K C = true) : ∃ nm q N bs bm sn sub ab col dd k0 k1 k2 k3 k5,
    K.lookup C = some (excClassObj nm q C N bs bm true sn sub ab col dd k0 k1 k2 k3 k5 "ValueError.__new__") ∧ PySem.HandSPX.refsVE bm = true := by
  unfold oexB at h
  split at h
  · rename_i t dd cd sl ho
    obtain ⟨et, h⟩ := He.ba h
    split at h
    · rename_i D bm k0 k1 k2 k3 n k5 hm hs
      obtain ⟨h1, h⟩ := He.ba h
      obtain ⟨h2, h⟩ := He.ba h
      obtain ⟨h3, h⟩ := He.ba h
      obtain ⟨h4, h5⟩ := He.ba h
      have e0 : t = "type" := of_decide_eq_true et
      have e1 : D = C := of_decide_eq_true h1
      have e2 : n = "ValueError.__new__" := of_decide_eq_true h2
      have e3 : cd.hasDel = false := by simpa using h3
      subst e0 e1 e2
      obtain ⟨a0, a1, a2, a3, a4, a5, a6, a7, a8, a9, a10⟩ := cd
      dsimp only at hm e3 h4
      subst hm e3 h4
      obtain ⟨l⟩ := sl
      dsimp only at hs
      subst hs
      exact ⟨a0, a4, a3, a1, bm, a6, a7, a8, a9, dd, k0, k1, k2, k3, k5, ho, h5⟩
    · cases h
  · cases h
abbrev eqq (a b : Option (Option Value)) : Bool := decide (a = b)
/-- all that is asked of an own exception class -/
def exB (K : PySem.W.Frag) (x : Str) (fs : List Str) : Bool :=
  let C := He.ga K x
  let f := He.ma K C "__init__"
  oexB K C && (eqq (PySem.W.findIn K (.ref C) "__setattr__") (some (some (.builtin "object.__setattr__"))) && (decide (PySem.W.subIn K (.ref C) (.type "BaseException") = some true) &&
  (decide (PySem.W.typeIn K (.ref C) = some (.type "type")) && (PySem.W.keepIn K (.ref C) && (eqq (PySem.W.findIn K (.ref C) "__init__") (some (some (.ref f))) && (decide (PySem.W.typeIn K (.ref f) = some (.type "function")) &&
  (fs.all (fun z => eqq (PySem.W.findIn K (.ref C) z) (some none)) && (xfB K C && (eqq (PySem.W.findIn K (.ref C) "__class__") (some (some (.builtin "object.__class__"))) &&
  (eqq (PySem.W.specialIn K (.builtin "object.__class__") "__get__") (some (some (.builtin "getset_descriptor.__get__"))) && (decide (PySem.W.takesIn K (.builtin "object.__class__") = some true) && (decide (PySem.W.mroIn K C (.type "object") = some true) &&
  decide (PySem.W.exmOne K (.ref C) (.ref C) = some true)))))))))))))
def isVal (r : Option PySem.W.CFound) (v : Value) : Bool := match r with
  | some (.val u) => decide (u = v)
  | _ => false
/-- UnitError.__init__ -/
def ueB (K : PySem.W.Frag) : Bool :=
  let U := He.ga K "UnitError"
  PySem.W.readsIn K U (.type "type") && (eqq (PySem.W.specialIn K (.ref U) "__getattribute__") (some (some (.builtin "type.__getattribute__"))) && isVal (PySem.W.findCls K (.ref U) (.type "type") "__init__") (.builtin "ValueError.__init__"))
/-- the other facts -/
def ex (K : PySem.W.Frag) : Bool :=
  exB K "TooGreat" ["most"] && (exB K "NoFree" ["giver", "taker"] && (exB K "BadTable" ["value"] && (ueB K && (decide (PySem.W.exmOne K (.ref (He.ga K "TooGreat")) (.ref (He.ga K "BadTable")) = some false) &&
  (decide (PySem.W.kitOne K (.ref (He.ga K "BadTable")) (.ref (He.ga K "UnitError")) = some true) && (decide (PySem.W.kitOne K (.ref (He.ga K "BadTable")) (.ref (He.ga K "TooGreat")) = some false) &&
  decide (PySem.W.kitOne K (.ref (He.ga K "TooGreat")) (.ref (He.ga K "UnitError")) = some true)))))))
/-! ### the addresses that are looked at -/
def rvO (o : Option Obj) : List Addr := match o with
  | some ⟨_, _, .dict es _, _⟩ => es.toList.flatMap fun e => He.refV e.val
  | _ => []
def rcO (o : Option Obj) : List Addr := match o with
  | some ⟨_, _, .func fd, _⟩ => He.refV fd.code
  | some ⟨_, _, .cls cd, _⟩ => [cd.ns]
  | _ => []
def asM (g : Addr → Option Obj) : List Addr :=
  let a := rvO (g mainGlobals)
  let b := a.flatMap fun x => rcO (g x)
  let c := b.flatMap fun x => rvO (g x)
  let d := c.flatMap fun x => rcO (g x)
  mainGlobals :: cStatics :: (a ++ (b ++ (c ++ d)))
abbrev AlU : Type := He.AlD × Bool
def obsK (K : PySem.W.Frag) : AlU := (He.obsD fa fn K, ex K)
def obsU (g : Addr → Option Obj) : AlU := obsK (He.frG g (asM g))
def valU : AlU := (He.valD fn, true)
def hkU : PySem.W.Hook where
  α := AlU
  obs := fun s => obsU s.heap.get?
  val := fun _ => valU
  says := fun _ h => ∃ K : PySem.W.Frag, K.In h ∧ obsK K = valU
  of := fun _ _ e => ⟨_, He.frG_in, e⟩
  keeps := fun _ _ _ ⟨K, hK, c⟩ k => ⟨K, PySem.W.Frag.In.keeps hK k, c⟩
def ob (s : PySem.W.SharedT) : AlU := obsU (HandSHeadRun.getT s)
theorem ob_eq (s : PySem.W.SharedT) : ob s = hkU.obs s.abs := by
  have e : HandSHeadRun.getT s = s.abs.heap.get? := funext (HandSHeadRun.getT_eq s)
  show obsU _ = obsU _
  rw [e]
def nm0 : List Str := [("UnitError" : Str), ("BadMany" : Str), ("BadSort" : Str), ("TooGreat" : Str), ("BadMember" : Str), ("BadName" : Str), ("SameName" : Str), ("NoFree" : Str), ("BadTable" : Str), ("MOST_DEEP" : Str), ("MOST_PARTS" : Str), ("MOST_MARKS_sorts" : Str), ("MOST_WIDTH" : Str), ("MOST_MEMBERS" : Str), ("MOST_NUMBER" : Str), ("is_from" : Str), ("need_many" : Str), ("need_pair" : Str), ("part_places" : Str), ("single" : Str), ("walked" : Str), ("marks_of" : Str), ("width_of" : Str), ("power" : Str), ("choices" : Str), ("bare_size" : Str), ("size_of" : Str), ("need_sort" : Str), ("hang_together" : Str), ("tree_like" : Str), ("rooted_like" : Str), ("letters_of" : Str), ("tree_from" : Str), ("need_code" : Str), ("tree_code" : Str)]
def nm1 : List Str := [("coded_tree" : Str), ("rooted_code" : Str), ("rooted_from" : Str), ("coded_rooted" : Str), ("meetings" : Str), ("rising" : Str), ("rounds_like" : Str), ("all_like" : Str), ("member_like" : Str), ("is_member" : Str), ("need_member" : Str), ("in_stead" : Str), ("chosen" : Str), ("partners" : Str), ("name_places" : Str), ("lot_places" : Str), ("meeting_number" : Str), ("with_winner" : Str), ("round_places" : Str), ("tree_places" : Str), ("places" : Str), ("free_numbers" : Str), ("moved" : Str), ("moved_readings" : Str), ("need_two" : Str), ("transfer" : Str), ("LEAST_SIDE" : Str), ("MOST_SIDE" : Str), ("MOST_MARKS_tables" : Str), ("is_side" : Str), ("is_item" : Str), ("is_table_row" : Str), ("need_table" : Str), ("column_items" : Str), ("paired" : Str)]
def nm2 : List Str := [("sort_of" : Str), ("member_of" : Str), ("table_of" : Str), ("quarter_rows" : Str), ("quarter_rows_back" : Str), ("transposed_rows" : Str), ("crossed" : Str), ("crossed_back" : Str), ("moved_tables" : Str), ("way_up" : Str), ("up_names" : Str), ("up_columns" : Str), ("names_root" : Str), ("columns_root" : Str), ("corner" : Str), ("is_corner" : Str), ("_law_mixed" : Str), ("_law_begin" : Str), ("_law_draw" : Str), ("_law_of" : Str), ("_law_like" : Str), ("_law_spots" : Str), ("_law_loose" : Str), ("_law_moved" : Str), ("_law_step" : Str), ("_law_backs" : Str), ("_law_end" : Str), ("_law_table" : Str), ("_law_fault" : Str), ("_law_bent" : Str), ("_law_formed" : Str), ("_law_asked" : Str), ("_law_right" : Str), ("_law_refused" : Str)]
def nms : List Str := nm0 ++ nm1 ++ nm2
set_option maxHeartbeats 0 in
theorem run (w : World) : HandSHeadRun.RunEq R (PySem.W.view R.prog [113]) hkU ob 6000 nms w := by
  intro os
  kernel_rfl
end Uh

set_option Elab.async false
set_option linter.all false
set_option maxRecDepth 100000
set_option maxHeartbeats 1000000
/-! The data layer: what a reading does, said of data (PyData), no heap in sight. -/
namespace Uh
open PySem L2
open Evl (Ex)
/-! ### a value stands for data; av: addresses at which its lists do not stand -/
def isT : HO → Prop
  | .tup _ => True
  | .frz _ (.tup _) => True
  | _ => False
/-- a tuple stands at a, laid or known -/
def TupAt (H : Hp) (a : Addr) (vs : List V) : Prop := H a = some (.tup vs) ∨ ∃ o, H a = some (.frz o (.tup vs))
theorem TupAt.sq {K : PySem.W.Frag} {H : Hp} {a : Addr} {vs : List V} (h : TupAt H a vs) : SqT K H a vs := .inl h
theorem TupAt.go {H H' : Hp} {a : Addr} {vs : List V} (k : ∀ a o, isT o → H a = some o → H' a = some o) (h : TupAt H a vs) : TupAt H' a vs := by
  rcases h with h | ⟨o, h⟩
  · exact .inl (k a _ trivial h)
  · exact .inr ⟨o, k a _ trivial h⟩
mutual
def Da (av : Addr → Prop) (H : Hp) : PyData → V → Prop
  | .none, v => v = .non
  | .bool b, v => v = .bl b
  | .int i, v => v = .int i
  | .str s, v => v = .str s
  | .list ds, v => ∃ a vs, v = .ref a ∧ ¬ av a ∧ H a = some (.lst vs) ∧ DaL av H ds vs
  | .tuple ds, v => ∃ a vs, v = .ref a ∧ TupAt H a vs ∧ DaL av H ds vs
  | .dict kvs, v => ∃ (ns : List Int) (a : Addr) (o : Obj), kvs = [(.none, .tuple (ns.map .int))] ∧ v = .ref a ∧ H a = some (.frz o (.tup (ns.map V.int))) ∧ o.dict = none
def DaL (av : Addr → Prop) (H : Hp) : List PyData → List V → Prop
  | [], [] => True
  | d :: ds, v :: vs => Da av H d v ∧ DaL av H ds vs
  | _, _ => False
end
section
variable {av av' : Addr → Prop} {H H' : Hp}
mutual
theorem Da.move (ht : ∀ a o, isT o → H a = some o → H' a = some o) (hl : ∀ a xs, ¬ av a → H a = some (.lst xs) → H' a = some (.lst xs) ∧ ¬ av' a) : ∀ (d : PyData) (v : V), Da av H d v → Da av' H' d v
  | .none, v, h => by simpa [Da] using h
  | .bool b, v, h => by simpa [Da] using h
  | .int i, v, h => by simpa [Da] using h
  | .str s, v, h => by simpa [Da] using h
  | .list ds, v, h => by
    simp only [Da] at h ⊢
    obtain ⟨a, vs, e, n, q, r⟩ := h
    obtain ⟨q', n'⟩ := hl a vs n q
    exact ⟨a, vs, e, n', q', DaL.move ht hl ds vs r⟩
  | .tuple ds, v, h => by
    simp only [Da] at h ⊢
    obtain ⟨a, vs, e, q, r⟩ := h
    exact ⟨a, vs, e, q.go ht, DaL.move ht hl ds vs r⟩
  | .dict _, v, h => by
    simp only [Da] at h ⊢
    obtain ⟨ns, a, o, e1, e2, q, n⟩ := h
    exact ⟨ns, a, o, e1, e2, ht a _ trivial q, n⟩
theorem DaL.move (ht : ∀ a o, isT o → H a = some o → H' a = some o) (hl : ∀ a xs, ¬ av a → H a = some (.lst xs) → H' a = some (.lst xs) ∧ ¬ av' a) : ∀ (ds : List PyData) (vs : List V), DaL av H ds vs → DaL av' H' ds vs
  | [], [], h => by simp [DaL]
  | [], _ :: _, h => by simp [DaL] at h
  | _ :: _, [], h => by simp [DaL] at h
  | d :: ds, v :: vs, h => by
    simp only [DaL] at h ⊢
    exact ⟨Da.move ht hl d v h.1, DaL.move ht hl ds vs h.2⟩
end
theorem Da.ext (e : Ex H H') {d : PyData} {v : V} (h : Da av H d v) : Da av H' d v := Da.move (fun a o _ q => e a _ q) (fun a xs n q => ⟨e a _ q, n⟩) d v h
theorem DaL.ext (e : Ex H H') {d : List PyData} {v : List V} (h : DaL av H d v) : DaL av H' d v := DaL.move (fun a o _ q => e a _ q) (fun a xs n q => ⟨e a _ q, n⟩) d v h
theorem Da.weak (s : ∀ a, av' a → av a) {d : PyData} {v : V} (h : Da av H d v) : Da av' H d v := Da.move (fun a o _ q => q) (fun a xs n q => ⟨q, fun z => n (s a z)⟩) d v h
theorem DaL.weak (s : ∀ a, av' a → av a) {d : List PyData} {v : List V} (h : DaL av H d v) : DaL av' H d v := DaL.move (fun a o _ q => q) (fun a xs n q => ⟨q, fun z => n (s a z)⟩) d v h
theorem DaL.length : ∀ {ds : List PyData} {vs : List V}, DaL av H ds vs → ds.length = vs.length
  | [], [], _ => rfl
  | [], _ :: _, h => by simp [DaL] at h
  | _ :: _, [], h => by simp [DaL] at h
  | d :: ds, v :: vs, h => by
    simp only [DaL] at h
    simp [DaL.length h.2]
theorem DaL.get : ∀ {ds : List PyData} {vs : List V} {i : Nat} {x : PyData}, DaL av H ds vs → ds[i]? = some x → ∃ v, vs[i]? = some v ∧ Da av H x v
  | [], _, _, _, _, h => by simp at h
  | _ :: _, [], _, _, h, _ => by simp [DaL] at h
  | d :: ds, v :: vs, 0, x, h, e => by
    simp only [DaL] at h
    have : d = x := by simpa using e
    exact ⟨v, rfl, this ▸ h.1⟩
  | d :: ds, v :: vs, i + 1, x, h, e => by
    simp only [DaL] at h
    obtain ⟨w, hw, hx⟩ := DaL.get (i := i) (x := x) h.2 (by simpa using e)
    exact ⟨w, by simpa using hw, hx⟩
theorem DaL.getV : ∀ {ds : List PyData} {vs : List V} {i : Nat} {v : V}, DaL av H ds vs → vs[i]? = some v → ∃ x, ds[i]? = some x ∧ Da av H x v
  | _, [], _, _, _, h => by simp at h
  | [], _ :: _, _, _, h, _ => by simp [DaL] at h
  | d :: ds, v :: vs, 0, x, h, e => by
    simp only [DaL] at h
    have : v = x := by simpa using e
    exact ⟨d, rfl, this ▸ h.1⟩
  | d :: ds, v :: vs, i + 1, x, h, e => by
    simp only [DaL] at h
    obtain ⟨w, hw, hx⟩ := DaL.getV (i := i) (v := x) h.2 (by simpa using e)
    exact ⟨w, by simpa using hw, hx⟩
theorem DaL.append : ∀ {ds es : List PyData} {vs ws : List V}, DaL av H ds vs → DaL av H es ws → DaL av H (ds ++ es) (vs ++ ws)
  | [], _, [], _, _, h => h
  | [], _, _ :: _, _, h, _ => by simp [DaL] at h
  | _ :: _, _, [], _, h, _ => by simp [DaL] at h
  | d :: ds, es, v :: vs, ws, h, k => by
    simp only [DaL] at h
    show DaL av H (d :: (ds ++ es)) (v :: (vs ++ ws))
    simp only [DaL]
    exact ⟨h.1, DaL.append h.2 k⟩
theorem DaL.take : ∀ {ds : List PyData} {vs : List V} (n : Nat), DaL av H ds vs → DaL av H (ds.take n) (vs.take n)
  | _, _, 0, _ => by simp [DaL]
  | [], [], _ + 1, _ => by simp [DaL]
  | [], _ :: _, _ + 1, h => by simp [DaL] at h
  | _ :: _, [], _ + 1, h => by simp [DaL] at h
  | d :: ds, v :: vs, n + 1, h => by
    simp only [DaL] at h
    simp only [List.take_succ_cons, DaL]
    exact ⟨h.1, DaL.take n h.2⟩
theorem DaL.drop : ∀ {ds : List PyData} {vs : List V} (n : Nat), DaL av H ds vs → DaL av H (ds.drop n) (vs.drop n)
  | _, _, 0, h => by simpa using h
  | [], [], _ + 1, _ => by simp [DaL]
  | [], _ :: _, _ + 1, h => by simp [DaL] at h
  | _ :: _, [], _ + 1, h => by simp [DaL] at h
  | d :: ds, v :: vs, n + 1, h => by
    simp only [DaL] at h
    simpa using DaL.drop n h.2
theorem DaL.set {x : PyData} {v : V} (hx : Da av H x v) : ∀ {ds : List PyData} {vs : List V} (i : Nat), DaL av H ds vs → DaL av H (ds.set i x) (vs.set i v)
  | [], [], _, _ => by simp [DaL]
  | [], _ :: _, _, h => by simp [DaL] at h
  | _ :: _, [], _, h => by simp [DaL] at h
  | d :: ds, w :: vs, 0, h => by
    simp only [DaL] at h
    simp only [List.set_cons_zero, DaL]
    exact ⟨hx, h.2⟩
  | d :: ds, w :: vs, i + 1, h => by
    simp only [DaL] at h
    simp only [List.set_cons_succ, DaL]
    exact ⟨h.1, DaL.set hx i h.2⟩
theorem DaL.reverse {ds : List PyData} {vs : List V} (h : DaL av H ds vs) : DaL av H ds.reverse vs.reverse := by
  induction ds generalizing vs with
  | nil => cases vs with
    | nil => simp [DaL]
    | cons v vs => simp [DaL] at h
  | cons d ds ih => cases vs with
    | nil => simp [DaL] at h
    | cons v vs =>
      simp only [DaL] at h
      rw [List.reverse_cons, List.reverse_cons]
      exact DaL.append (ih h.2) (by simp only [DaL]; exact ⟨h.1, trivial⟩)
theorem DaL.dropLast {ds : List PyData} {vs : List V} (h : DaL av H ds vs) : DaL av H ds.dropLast vs.dropLast := by
  rw [List.dropLast_eq_take, List.dropLast_eq_take, h.length]
  exact h.take _
theorem DaL.one {d : PyData} {v : V} (h : Da av H d v) : DaL av H [d] [v] := by
  simp only [DaL]
  exact ⟨h, trivial⟩
theorem DaL.ints {ns : List Int} : DaL av H (ns.map PyData.int) (ns.map V.int) := by
  induction ns with
  | nil => simp [DaL]
  | cons n ns ih =>
    show Da av H (.int n) (.int n) ∧ DaL av H (ns.map PyData.int) (ns.map V.int)
    exact ⟨by simp [Da], ih⟩
theorem DaL.ints_eq : ∀ {ns : List Int} {vs : List V}, DaL av H (ns.map PyData.int) vs → vs = ns.map V.int
  | [], [], _ => rfl
  | [], _ :: _, h => by simp [DaL] at h
  | _ :: _, [], h => by simp [DaL] at h
  | n :: ns, v :: vs, h => by
    simp only [List.map_cons, DaL, Da] at h
    rw [h.1, DaL.ints_eq h.2]
    rfl
/-- a letter tuple: ints, known not to have a dict -/
def ltD (ns : List Int) : PyData := .dict [(.none, .tuple (ns.map .int))]
mutual
def plainD : PyData → Bool
  | .list ds => plainL ds
  | .tuple ds => plainL ds
  | .dict _ => false
  | _ => true
def plainL : List PyData → Bool
  | [] => true
  | d :: ds => plainD d && plainL ds
end
/- to the layer's relation -/
mutual
theorem Da.dp {K : PySem.W.Frag} : ∀ (d : PyData) (v : V), plainD d = true → Da av H d v → Dp K H v d
  | .none, v, _, h => by simp only [Da] at h; subst h; exact .non
  | .bool b, v, _, h => by simp only [Da] at h; subst h; exact .bl b
  | .int i, v, _, h => by simp only [Da] at h; subst h; exact .int i
  | .str s, v, _, h => by simp only [Da] at h; subst h; exact .str s
  | .list ds, v, p, h => by
    simp only [Da] at h
    obtain ⟨a, vs, e, n, q, r⟩ := h
    subst e
    exact .lst (SqL.of q) (DaL.dp ds vs (by simpa [plainD] using p) r)
  | .tuple ds, v, p, h => by
    simp only [Da] at h
    obtain ⟨a, vs, e, q, r⟩ := h
    subst e
    exact .tup q.sq (DaL.dp ds vs (by simpa [plainD] using p) r)
  | .dict _, v, p, h => by simp [plainD] at p
theorem DaL.dp {K : PySem.W.Frag} : ∀ (ds : List PyData) (vs : List V), plainL ds = true → DaL av H ds vs → DpAll K H vs ds
  | [], [], _, h => .nil
  | [], _ :: _, _, h => by simp [DaL] at h
  | _ :: _, [], _, h => by simp [DaL] at h
  | d :: ds, v :: vs, p, h => by
    simp only [DaL] at h
    simp only [plainL, Bool.and_eq_true] at p
    exact .cons (Da.dp d v p.1 h.1) (DaL.dp ds vs p.2 h.2)
end
end
/-- what data lean on, carried from a heap to another -/
structure Mv (av : Addr → Prop) (H : Hp) (av' : Addr → Prop) (H' : Hp) : Prop where
  tup : ∀ a o, isT o → H a = some o → H' a = some o
  lst : ∀ a xs, ¬ av a → H a = some (.lst xs) → H' a = some (.lst xs) ∧ ¬ av' a
  rng : ∀ a lo hi, ¬ av a → H a = some (.rng lo hi) → H' a = some (.rng lo hi) ∧ ¬ av' a
abbrev Live (av : Addr → Prop) (H : Hp) : Prop := ∀ a, av a → ∃ o, H a = some o
section
variable {av av' av'' : Addr → Prop} {H H' H'' : Hp}
theorem Mv.da (m : Mv av H av' H') {d : PyData} {v : V} (h : Da av H d v) : Da av' H' d v := Da.move m.tup m.lst d v h
theorem Mv.dal (m : Mv av H av' H') {d : List PyData} {v : List V} (h : DaL av H d v) : DaL av' H' d v := DaL.move m.tup m.lst d v h
theorem Mv.of_ex (e : Ex H H') : Mv av H av H' := ⟨fun a _ _ q => e a _ q, fun a _ n q => ⟨e a _ q, n⟩, fun a _ _ n q => ⟨e a _ q, n⟩⟩
theorem Mv.weak (s : ∀ a, av' a → av a) : Mv av H av' H := ⟨fun a _ _ q => q, fun a _ n q => ⟨q, fun z => n (s a z)⟩, fun a _ _ n q => ⟨q, fun z => n (s a z)⟩⟩
theorem Mv.trans (m : Mv av H av' H') (k : Mv av' H' av'' H'') : Mv av H av'' H'' := ⟨fun a _ t q => k.tup a _ t (m.tup a _ t q), fun a _ n q => let ⟨q', n'⟩ := m.lst a _ n q; k.lst a _ n' q', fun a _ _ n q => let ⟨q', n'⟩ := m.rng a _ _ n q; k.rng a _ _ n' q'⟩
/-- addresses that H does not know may be avoided too -/
theorem Mv.avoid {p : Addr} (e : Ex H H') (hp : H p = none) : Mv av H (fun a => av a ∨ a = p) H' :=
  ⟨fun a _ _ q => e a _ q, fun a _ n q => ⟨e a _ q, fun z => z.elim n fun w => by rw [w, hp] at q; cases q⟩, fun a _ _ n q => ⟨e a _ q, fun z => z.elim n fun w => by rw [w, hp] at q; cases q⟩⟩
theorem Live.ex (l : Live av H) (e : Ex H H') : Live av H' := fun a h => let ⟨o, q⟩ := l a h; ⟨o, e a o q⟩
theorem Live.no (l : Live av H) {a : Addr} (h : H a = none) : ¬ av a := fun z => by
  obtain ⟨o, q⟩ := l a z
  rw [h] at q
  cases q
end
/-! ### slots -/
inductive Slot where
  | non
  | d (x : PyData)
  | own (p : Addr) (xs : List PyData)
  | rng (lo hi : Int)
  | st (a : Addr)
def Slot.ow : Slot → List Addr
  | .own p _ => [p]
  | _ => []
def owns : List Slot → List Addr
  | [] => []
  | s :: r => s.ow ++ owns r
def fit (av : Addr → Prop) (H : Hp) (o : Option V) : Slot → Prop
  | .non => True
  | .d x => ∃ v, o = some v ∧ Da av H x v
  | .own p xs => o = some (.ref p) ∧ ∃ vs, H p = some (.lst vs) ∧ DaL av H xs vs
  | .rng lo hi => ∃ a, o = some (.ref a) ∧ ¬ av a ∧ H a = some (.rng lo hi)
  | .st a => o = some (.ref a)
def Fits (av : Addr → Prop) (H : Hp) : L2.St → List Slot → Prop
  | [], [] => True
  | o :: σ, s :: ss => fit av H o s ∧ Fits av H σ ss
  | _, _ => False
section
variable {av av' : Addr → Prop} {H H' : Hp} {σ : L2.St} {ss : List Slot}
theorem set_here {α : Type} {l : List α} {i : Nat} {x : α} (h : l[i]? = some x) : l.set i x = l := by
  obtain ⟨hi, hv⟩ := List.getElem?_eq_some_iff.mp h
  subst hv
  exact List.set_getElem_self hi
theorem Fits.len : ∀ {σ : L2.St} {ss : List Slot}, Fits av H σ ss → σ.length = ss.length
  | [], [], _ => rfl
  | [], _ :: _, h => h.elim
  | _ :: _, [], h => h.elim
  | _ :: σ, _ :: ss, h => by simp [Fits.len h.2]
theorem Fits.get : ∀ {σ : L2.St} {ss : List Slot} {i : Nat} {s : Slot}, Fits av H σ ss → ss[i]? = some s → ∃ o, σ[i]? = some o ∧ fit av H o s
  | [], [], _, _, _, h => by simp at h
  | [], _ :: _, _, _, h, _ => h.elim
  | _ :: _, [], _, _, h, _ => h.elim
  | o :: σ, s :: ss, 0, x, h, e => by
    have : s = x := by simpa using e
    exact ⟨o, rfl, this ▸ h.1⟩
  | o :: σ, s :: ss, i + 1, x, h, e => by
    obtain ⟨w, hw, hx⟩ := Fits.get (i := i) (s := x) h.2 (by simpa using e)
    exact ⟨w, by simpa using hw, hx⟩
theorem Fits.map' : ∀ {σ : L2.St} {ss : List Slot}, Fits av H σ ss → (∀ (j : Nat) (o : Option V) (s : Slot), ss[j]? = some s → fit av H o s → fit av' H' o s) → Fits av' H' σ ss
  | [], [], _, _ => trivial
  | [], _ :: _, h, _ => h.elim
  | _ :: _, [], h, _ => h.elim
  | _ :: σ, _ :: ss, h, f => ⟨f 0 _ _ rfl h.1, Fits.map' h.2 fun j o s e => f (j + 1) o s (by simpa using e)⟩
/-- all slots but the i-th by f, that one by g -/
theorem Fits.set {o : Option V} {s : Slot} : ∀ {σ : L2.St} {ss : List Slot} {i : Nat}, Fits av H σ ss → (∀ (j : Nat) (o : Option V) (s : Slot), j ≠ i → ss[j]? = some s → fit av H o s → fit av' H' o s) → fit av' H' o s → Fits av' H' (σ.set i o) (ss.set i s)
  | [], [], _, _, _, _ => trivial
  | [], _ :: _, _, h, _, _ => h.elim
  | _ :: _, [], _, h, _, _ => h.elim
  | _ :: σ, _ :: ss, 0, h, f, g => ⟨g, Fits.map' h.2 fun j o s e => f (j + 1) o s (by omega) (by simpa using e)⟩
  | _ :: σ, _ :: ss, i + 1, h, f, g => ⟨f 0 _ _ (by omega) rfl h.1, Fits.set h.2 (fun j o s ne e => f (j + 1) o s (by omega) (by simpa using e)) g⟩
/-- a slot that is no own one, carried -/
theorem fit_mv {o : Option V} {s : Slot} (m : Mv av H av' H') (k : ∀ p xs, s = .own p xs → ∀ vs, H p = some (.lst vs) → H' p = some (.lst vs)) (h : fit av H o s) : fit av' H' o s := by
  cases s with
  | non => trivial
  | d x =>
    obtain ⟨v, e, q⟩ := h
    exact ⟨v, e, m.da q⟩
  | own p xs =>
    obtain ⟨e, vs, q, r⟩ := h
    exact ⟨e, vs, k p xs rfl vs q, m.dal r⟩
  | rng lo hi =>
    obtain ⟨a, e, n, q⟩ := h
    obtain ⟨q', n'⟩ := m.rng a lo hi n q
    exact ⟨a, e, n', q'⟩
  | st a => exact h
theorem Fits.ex (h : Fits av H σ ss) (e : Ex H H') : Fits av H' σ ss := h.map' fun j o s _ f => fit_mv (.of_ex e) (fun p xs _ vs q => e p _ q) f
theorem Fits.avoid {p : Addr} (h : Fits av H σ ss) (e : Ex H H') (hp : H p = none) : Fits (fun a => av a ∨ a = p) H' σ ss := h.map' fun j o s _ f => fit_mv (.avoid e hp) (fun q xs _ vs z => e q _ z) f
theorem Fits.data (h : Fits av H σ ss) {i : Nat} {x : PyData} (e : ss[i]? = some (.d x)) : ∃ v, σ[i]? = some (some v) ∧ Da av H x v := by
  obtain ⟨o, e1, v, e2, q⟩ := h.get e
  exact ⟨v, by rw [e1, e2], q⟩
theorem Fits.own (h : Fits av H σ ss) {i : Nat} {p : Addr} {xs : List PyData} (e : ss[i]? = some (.own p xs)) : σ[i]? = some (some (.ref p)) ∧ ∃ vs, H p = some (.lst vs) ∧ DaL av H xs vs := by
  obtain ⟨o, e1, e2, q⟩ := h.get e
  exact ⟨by rw [e1, e2], q⟩
theorem Fits.rng (h : Fits av H σ ss) {i : Nat} {lo hi : Int} (e : ss[i]? = some (.rng lo hi)) : ∃ a, σ[i]? = some (some (.ref a)) ∧ ¬ av a ∧ H a = some (.rng lo hi) := by
  obtain ⟨o, e1, a, e2, q⟩ := h.get e
  exact ⟨a, by rw [e1, e2], q⟩
theorem Fits.state (h : Fits av H σ ss) {i : Nat} {a : Addr} (e : ss[i]? = some (.st a)) : σ[i]? = some (some (.ref a)) := by
  obtain ⟨o, e1, e2⟩ := h.get e
  rw [e1, show o = some (.ref a) from e2]
theorem Fits.put (h : Fits av H σ ss) {i : Nat} {x : PyData} {v : V} (hx : Da av H x v) : Fits av H (σ.set i (some v)) (ss.set i (.d x)) := h.set (fun _ _ _ _ _ f => f) ⟨v, rfl, hx⟩
theorem Fits.unset (h : Fits av H σ ss) {i : Nat} {o : Option V} : Fits av H (σ.set i o) (ss.set i .non) := h.set (fun _ _ _ _ _ f => f) trivial
theorem owns_mem {p : Addr} : ∀ {ss : List Slot}, p ∈ owns ss ↔ ∃ (i : Nat) (xs : List PyData), ss[i]? = some (Slot.own p xs)
  | [] => by simp [owns]
  | s :: r => by
    unfold owns
    rw [List.mem_append, owns_mem (ss := r)]
    constructor
    · rintro (h | ⟨i, xs, h⟩)
      · cases s with
        | own q ys =>
          have e : p = q := by simpa [Slot.ow] using h
          exact ⟨0, ys, by rw [e]; rfl⟩
        | _ => simp [Slot.ow] at h
      · exact ⟨i + 1, xs, by simpa using h⟩
    · rintro ⟨i, xs, h⟩
      cases i with
      | zero =>
        have e : s = Slot.own p xs := by simpa using h
        exact .inl (by rw [e]; simp [Slot.ow])
      | succ i => exact .inr ⟨i, xs, by simpa using h⟩
theorem owns_set_sub {s : Slot} (hs : s.ow = []) : ∀ {ss : List Slot} {i : Nat}, (owns (ss.set i s)).Sublist (owns ss)
  | [], _ => by simp [owns]
  | x :: r, 0 => by
    show (s.ow ++ owns r).Sublist (x.ow ++ owns r)
    rw [hs]
    exact List.sublist_append_right _ _
  | x :: r, i + 1 => by
    show (x.ow ++ owns (r.set i s)).Sublist (x.ow ++ owns r)
    exact List.Sublist.append_left (owns_set_sub hs) _
theorem owns_set_own {p : Addr} {xs : List PyData} : ∀ {ss : List Slot} {i : Nat}, (∀ q ∈ owns (ss.set i (.own p xs)), q = p ∨ q ∈ owns ss)
  | [], _, q, h => by simp [owns] at h
  | x :: r, 0, q, h => by
    have h' : q ∈ [p] ++ owns r := h
    rcases List.mem_append.mp h' with e | e
    · exact .inl (by simpa using e)
    · exact .inr (List.mem_append_right _ e)
  | x :: r, i + 1, q, h => by
    have h' : q ∈ x.ow ++ owns (r.set i (.own p xs)) := h
    rcases List.mem_append.mp h' with e | e
    · exact .inr (List.mem_append_left _ e)
    · exact (owns_set_own q e).imp id (List.mem_append_right _)
theorem owns_nd_own {p : Addr} {xs : List PyData} : ∀ {ss : List Slot} {i : Nat}, (owns ss).Nodup → p ∉ owns ss → (owns (ss.set i (.own p xs))).Nodup
  | [], _, _, _ => by simp [owns]
  | x :: r, 0, h, hp => by
    show ([p] ++ owns r).Nodup
    have sub : (owns r).Sublist (owns (x :: r)) := List.sublist_append_right _ _
    exact List.nodup_cons.mpr ⟨fun z => hp (sub.subset z), h.sublist sub⟩
  | x :: r, i + 1, h, hp => by
    show (x.ow ++ owns (r.set i (.own p xs))).Nodup
    have h' : (x.ow ++ owns r).Nodup := h
    rw [List.nodup_append] at h' ⊢
    obtain ⟨h1, h2, h3⟩ := h'
    have hp1 : p ∉ x.ow := fun z => hp (List.mem_append_left _ z)
    have hp2 : p ∉ owns r := fun z => hp (List.mem_append_right _ z)
    refine ⟨h1, owns_nd_own h2 hp2, fun a ha b hb => ?_⟩
    rcases owns_set_own b hb with e | e
    · intro z
      exact hp1 (by rw [← e, ← z]; exact ha)
    · exact h3 a ha b e
theorem owns_set_same {p : Addr} {xs ys : List PyData} : ∀ {ss : List Slot} {i : Nat}, ss[i]? = some (.own p xs) → owns (ss.set i (.own p ys)) = owns ss
  | [], _, h => by simp at h
  | x :: r, 0, h => by
    have e : x = .own p xs := by simpa using h
    subst e
    rfl
  | x :: r, i + 1, h => by
    have ih := owns_set_same (ys := ys) (ss := r) (i := i) (by simpa using h)
    show x.ow ++ owns (r.set i (.own p ys)) = x.ow ++ owns r
    rw [ih]
theorem owns_inj : ∀ {ss : List Slot} {i j : Nat} {p : Addr} {xs ys : List PyData}, (owns ss).Nodup → ss[i]? = some (.own p xs) → ss[j]? = some (.own p ys) → i = j
  | [], _, _, _, _, _, _, h, _ => by simp at h
  | x :: r, 0, 0, p, xs, ys, _, _, _ => rfl
  | x :: r, 0, j + 1, p, xs, ys, nd, h1, h2 => by
    have e : x = .own p xs := by simpa using h1
    subst e
    obtain ⟨q, _⟩ := List.nodup_cons.mp (show (p :: owns r).Nodup from nd)
    exact absurd (owns_mem.mpr ⟨j, ys, by simpa using h2⟩) q
  | x :: r, i + 1, 0, p, xs, ys, nd, h1, h2 => by
    have e : x = .own p ys := by simpa using h2
    subst e
    obtain ⟨q, _⟩ := List.nodup_cons.mp (show (p :: owns r).Nodup from nd)
    exact absurd (owns_mem.mpr ⟨i, xs, by simpa using h1⟩) q
  | x :: r, i + 1, j + 1, p, xs, ys, nd, h1, h2 => by
    have nd' : (owns r).Nodup := nd.sublist (List.sublist_append_right _ _)
    have e := owns_inj (ss := r) (i := i) (j := j) (p := p) (xs := xs) (ys := ys) nd' (by simpa using h1) (by simpa using h2)
    rw [e]
theorem owns_freeze {p : Addr} {xs : List PyData} {s : Slot} (hs : s.ow = []) : ∀ {ss : List Slot} {i : Nat}, (owns ss).Nodup → ss[i]? = some (.own p xs) → p ∉ owns (ss.set i s)
  | [], _, _, h => by simp at h
  | y :: r, 0, nd, h => by
    have e : y = .own p xs := by simpa using h
    subst e
    show p ∉ s.ow ++ owns r
    rw [hs]
    exact (List.nodup_cons.mp (show (p :: owns r).Nodup from nd)).1
  | y :: r, i + 1, nd, h => by
    have h' : r[i]? = some (.own p xs) := by simpa using h
    have nd' : (y.ow ++ owns r).Nodup := nd
    rw [List.nodup_append] at nd'
    obtain ⟨h1, h2, h3⟩ := nd'
    intro z
    have z' : p ∈ y.ow ++ owns (r.set i s) := z
    rcases List.mem_append.mp z' with w | w
    · exact h3 p w p (owns_mem.mpr ⟨i, xs, h'⟩) rfl
    · exact owns_freeze hs h2 h' w
end
/-! ### the world of a frame -/
structure Wd where
  A : Addr → Prop
  M : Addr → Prop
  sub : ∀ a, M a → A a
  stOk : Nat → Hp → Prop
  live : ∀ n H, stOk n H → Live A H
  stab : ∀ n H H', (∀ a o, A a → H a = some o → H' a = some o) → stOk n H → stOk n H'
  /-- what is wished of an exception -/
  xk : L2.WX
def Wd.pure (A : Addr → Prop) : Wd where
  A := A
  M := fun _ => False
  sub := fun _ h => h.elim
  stOk := fun _ H => Live A H
  live := fun _ _ h => h
  stab := fun _ H H' k h a ha => by
    obtain ⟨o, e⟩ := h a ha
    exact ⟨o, k a o ha e⟩
  xk := fun _ _ _ _ => False
/-- the same, another wish of exceptions -/
abbrev Wd.wish (W : Wd) (k : L2.WX) : Wd := { W with xk := k }
def avd (W : Wd) (ow : List Addr) (a : Addr) : Prop := W.A a ∨ a ∈ ow
structure Sl (W : Wd) (n : Nat) (H : Hp) (σ : L2.St) (ss : List Slot) : Prop where
  fits : Fits (avd W (owns ss)) H σ ss
  nd : (owns ss).Nodup
  noA : ∀ p ∈ owns ss, ¬ W.A p
  ok : W.stOk n H
/-- what a step leaves: tuples, and all but what may be changed -/
structure Stp (W : Wd) (ow : List Addr) (H H' : Hp) : Prop where
  tup : ∀ a o, isT o → H a = some o → H' a = some o
  keep : ∀ a o, ¬ W.M a → a ∉ ow → H a = some o → H' a = some o
  there : ∀ a o, H a = some o → ∃ o', H' a = some o'
/-- own lists: the elder ones, or new ones -/
abbrev Fr (ow : List Addr) (H : Hp) (ss : List Slot) : Prop := ∀ p ∈ owns ss, p ∈ ow ∨ H p = none
section
variable {W : Wd} {n n' : Nat} {H H' H1 H2 : Hp} {σ : L2.St} {ss : List Slot} {ow ow' : List Addr}
theorem Stp.refl : Stp W ow H H := ⟨fun _ _ _ h => h, fun _ _ _ _ h => h, fun _ o h => ⟨o, h⟩⟩
theorem Stp.of_ex (e : Ex H H') : Stp W ow H H' := ⟨fun a o _ h => e a _ h, fun a o _ _ h => e a o h, fun a o h => ⟨o, e a o h⟩⟩
theorem Stp.trans (a : Stp W ow H H1) (b : Stp W ow' H1 H2) (h : ∀ p ∈ ow', p ∈ ow ∨ H p = none) : Stp W ow H H2 :=
  ⟨fun x xs t q => b.tup x xs t (a.tup x xs t q), fun x o m nw q => b.keep x o m (fun z => by
    rcases h x z with w | w
    · exact nw w
    · rw [w] at q
      cases q) (a.keep x o m nw q), fun x o q => by
    obtain ⟨o', q'⟩ := a.there x o q
    exact b.there x o' q'⟩
theorem Stp.more (a : Stp W ow H H1) (h : ∀ p ∈ ow, p ∈ ow') : Stp W ow' H H1 := ⟨a.tup, fun x o m nw q => a.keep x o m (fun z => nw (h x z)) q, a.there⟩
theorem Stp.ex {A : Addr → Prop} {k : L2.WX} (a : Stp ((Wd.pure A).wish k) [] H H1) : Ex H H1 := fun x o q => a.keep x o (fun z => z) (by simp) q
theorem Stp.wish {k : L2.WX} (a : Stp (W.wish k) ow H H1) : Stp W ow H H1 := ⟨a.tup, a.keep, a.there⟩
theorem Stp.unwish {k : L2.WX} (a : Stp W ow H H1) : Stp (W.wish k) ow H H1 := ⟨a.tup, a.keep, a.there⟩
theorem Stp.none_back (a : Stp W ow H H1) {p : Addr} (h : H1 p = none) : H p = none := by
  cases e : H p with
  | none => rfl
  | some o =>
    obtain ⟨o', q⟩ := a.there p o e
    rw [h] at q
    cases q
/-- data of the start, carried to a later state of the frame -/
theorem Stp.mv (t : Stp W ow H H') (f : Fr ow H ss) : Mv (avd W ow) H (avd W (owns ss)) H' := by
  have key : ∀ (a : Addr) (o : HO), ¬ avd W ow a → H a = some o → H' a = some o ∧ ¬ avd W (owns ss) a := fun a o m q =>
    ⟨t.keep a o (fun z => m (.inl (W.sub a z))) (fun z => m (.inr z)) q, fun z => z.elim (fun w => m (.inl w)) fun w => by
      rcases f a w with y | y
      · exact m (.inr y)
      · rw [y] at q
        cases q⟩
  exact ⟨t.tup, fun a xs m q => key a _ m q, fun a lo hi m q => key a _ m q⟩
theorem Sl.live (h : Sl W n H σ ss) : Live (avd W (owns ss)) H := fun a z => by
  rcases z with z | z
  · exact W.live n H h.ok a z
  · obtain ⟨i, xs, e⟩ := owns_mem.mp z
    obtain ⟨_, vs, q, _⟩ := h.fits.own e
    exact ⟨_, q⟩
theorem Fr.self : Fr (owns ss) H ss := fun p hp => .inl hp
theorem Sl.stp (h : Sl W n H σ ss) (t : Stp W [] H H') (ok : W.stOk n' H') : Sl W n' H' σ ss := by
  have m : Mv (avd W (owns ss)) H (avd W (owns ss)) H' := (t.more (ow' := owns ss) (by simp)).mv Fr.self
  refine ⟨h.fits.map' fun j o s e f => fit_mv m (fun p xs es vs q => ?_) f, h.nd, h.noA, ok⟩
  subst es
  exact t.keep p _ (fun z => h.noA p (owns_mem.mpr ⟨j, xs, e⟩) (W.sub p z)) (by simp) q
theorem Sl.ext (h : Sl W n H σ ss) (e : Ex H H') : Sl W n H' σ ss := h.stp (.of_ex e) (W.stab n H H' (fun a o _ q => e a o q) h.ok)
theorem Sl.plain (h : Sl W n H σ ss) {i : Nat} {s : Slot} {o : Option V} (hs : s.ow = []) (g : fit (avd W (owns ss)) H o s) : Sl W n H (σ.set i o) (ss.set i s) := by
  have sb := owns_set_sub hs (ss := ss) (i := i)
  have m : Mv (avd W (owns ss)) H (avd W (owns (ss.set i s))) H := .weak fun a z => z.imp id fun w => sb.subset w
  refine ⟨h.fits.set (fun j o s _ _ f => fit_mv m (fun _ _ _ _ q => q) f) (fit_mv m (fun p xs e => by subst e; simp [Slot.ow] at hs) g), h.nd.sublist sb, fun p hp => h.noA p (sb.subset hp), h.ok⟩
theorem Sl.set (h : Sl W n H σ ss) {i : Nat} {x : PyData} {v : V} (hx : Da (avd W (owns ss)) H x v) : Sl W n H (σ.set i (some v)) (ss.set i (.d x)) := h.plain rfl ⟨v, rfl, hx⟩
theorem Sl.wish {k : L2.WX} (h : Sl (W.wish k) n H σ ss) : Sl W n H σ ss := ⟨h.fits, h.nd, h.noA, h.ok⟩
theorem Sl.unwish {k : L2.WX} (h : Sl W n H σ ss) : Sl (W.wish k) n H σ ss := ⟨h.fits, h.nd, h.noA, h.ok⟩
theorem Sl.unset (h : Sl W n H σ ss) {i : Nat} {o : Option V} : Sl W n H (σ.set i o) (ss.set i .non) := h.plain rfl trivial
theorem Fr.plain {i : Nat} {s : Slot} (hs : s.ow = []) (f : Fr ow H ss) : Fr ow H (ss.set i s) := fun p hp => f p ((owns_set_sub hs).subset hp)
theorem Fr.own {i : Nat} {p : Addr} {xs : List PyData} (f : Fr ow H ss) (hp : H p = none) : Fr ow H (ss.set i (.own p xs)) := fun q hq => by
  rcases owns_set_own q hq with e | e
  · rw [e]
    exact .inr hp
  · exact f q e
/-- a new list of one's own -/
theorem Sl.make (h : Sl W n H σ ss) {i : Nat} {p : Addr} {xs : List PyData} {vs : List V} (e : Ex H H') (hp : H p = none) (hq : H' p = some (.lst vs)) (hx : DaL (fun a => avd W (owns ss) a ∨ a = p) H' xs vs) :
    Sl W n H' (σ.set i (some (.ref p))) (ss.set i (.own p xs)) := by
  have np : ¬ W.A p := fun z => h.live.no hp (.inl z)
  have no : p ∉ owns ss := fun z => h.live.no hp (.inr z)
  have wk : ∀ a, avd W (owns (ss.set i (.own p xs))) a → avd W (owns ss) a ∨ a = p := fun a z => by
    rcases z with z | z
    · exact .inl (.inl z)
    · rcases owns_set_own a z with w | w
      · exact .inr w
      · exact .inl (.inr w)
  have m : Mv (avd W (owns ss)) H (avd W (owns (ss.set i (.own p xs)))) H' := (Mv.avoid e hp).trans (.weak wk)
  refine ⟨h.fits.set (fun j o s _ _ f => fit_mv m (fun q ys _ vs z => e q _ z) f) ⟨rfl, vs, hq, hx.weak wk⟩, owns_nd_own h.nd no, fun q hq => ?_, W.stab n H _ (fun a o _ q => e a o q) h.ok⟩
  rcases owns_set_own q hq with w | w
  · rw [w]
    exact np
  · exact h.noA q w
/-- a list of one's own is changed -/
theorem Sl.change (h : Sl W n H σ ss) {i : Nat} {p : Addr} {xs ys : List PyData} {ws : List V} (e : ss[i]? = some (.own p xs)) (hx : DaL (avd W (owns ss)) H ys ws) :
    Sl W n (upd H p (.lst ws)) σ (ss.set i (.own p ys)) ∧ Stp W (owns ss) H (upd H p (.lst ws)) := by
  obtain ⟨e1, vs, q, r⟩ := h.fits.own e
  have hm : p ∈ owns ss := owns_mem.mpr ⟨i, xs, e⟩
  have na := h.noA p hm
  have eo := owns_set_same (ys := ys) e
  have st : Stp W (owns ss) H (upd H p (.lst ws)) := by
    refine ⟨fun a zs t z => ?_, fun a o _ nw z => ?_, fun a o z => ?_⟩
    · have w : a ≠ p := fun w => by
        rw [w, q] at z
        cases z
        exact t
      rw [upd_ne w]
      exact z
    · have w : a ≠ p := fun w => nw (by rw [w]; exact hm)
      rw [upd_ne w]
      exact z
    · by_cases w : a = p
      · exact ⟨_, by rw [w]; exact upd_same⟩
      · exact ⟨o, by rw [upd_ne w]; exact z⟩
  have m : Mv (avd W (owns ss)) H (avd W (owns ss)) (upd H p (.lst ws)) := st.mv Fr.self
  have hs : σ.set i (some (.ref p)) = σ := set_here e1
  refine ⟨⟨?_, by rw [eo]; exact h.nd, by rw [eo]; exact h.noA, W.stab n H _ (fun a o ha z => by
    have w : a ≠ p := fun w => na (by rw [← w]; exact ha)
    rw [upd_ne w]
    exact z) h.ok⟩, st⟩
  rw [eo]
  have g : fit (avd W (owns ss)) (upd H p (.lst ws)) (some (.ref p)) (.own p ys) := ⟨rfl, ws, upd_same, m.dal hx⟩
  have k := h.fits.set (H' := upd H p (.lst ws)) (av' := avd W (owns ss)) (i := i) (o := some (.ref p)) (s := .own p ys) (fun j o s ne ej f => fit_mv m (fun p' zs es us q' => by
    subst es
    have np : p' ≠ p := fun w => ne (by
      subst w
      exact owns_inj h.nd ej e)
    rw [upd_ne np]
    exact q') f) g
  rw [hs] at k
  exact k
/-- a list of one's own is let go: from here on it is a value -/
theorem Sl.freeze (h : Sl W n H σ ss) {i : Nat} {p : Addr} {xs : List PyData} (e : ss[i]? = some (.own p xs)) : Sl W n H σ (ss.set i (.d (.list xs))) := by
  obtain ⟨e1, vs, q, r⟩ := h.fits.own e
  have na := h.noA p (owns_mem.mpr ⟨i, xs, e⟩)
  have sb := owns_set_sub (s := .d (.list xs)) rfl (ss := ss) (i := i)
  have wk : ∀ a, avd W (owns (ss.set i (.d (.list xs)))) a → avd W (owns ss) a := fun a z => z.imp id fun w => sb.subset w
  have m : Mv (avd W (owns ss)) H (avd W (owns (ss.set i (.d (.list xs))))) H := .weak wk
  have hs : σ.set i (some (.ref p)) = σ := set_here e1
  have k := h.fits.set (H' := H) (av' := avd W (owns (ss.set i (.d (.list xs))))) (i := i) (o := some (.ref p)) (s := .d (.list xs)) (fun j o s _ _ f => fit_mv m (fun _ _ _ _ q => q) f) (by
    refine ⟨_, rfl, ?_⟩
    simp only [Da]
    exact ⟨p, vs, rfl, fun z => z.elim na (owns_freeze rfl h.nd e), q, r.weak wk⟩)
  rw [hs] at k
  exact ⟨k, h.nd.sublist sb, fun p hp => h.noA p (sb.subset hp), h.ok⟩
end
end Uh

set_option Elab.async false
set_option linter.all false
set_option maxRecDepth 100000
set_option maxHeartbeats 1000000
/-! Expressions over data. -/
namespace Uh
open PySem L2
open Evl (Ex)
def EvP (te : TE) (ss : List Slot) (d : PyData) : Prop := ∀ (av : Addr → Prop) (H : Hp) (σ : L2.St), Live av H → Fits av H σ ss → ∀ Q : VK, (∀ v H2, Ex H H2 → Da av H2 d v → Q v H2) → te σ H Q
def EvT (tt : TT) (ss : List Slot) (b : Bool) : Prop := ∀ (av : Addr → Prop) (H : Hp) (σ : L2.St), Live av H → Fits av H σ ss → ∀ Q : Bool → Hp → Prop, (∀ H2, Ex H H2 → Q b H2) → tt σ H Q
def EvA (ta : TA) (ss : List Slot) (ds : List PyData) : Prop := ∀ (av : Addr → Prop) (H : Hp) (σ : L2.St), Live av H → Fits av H σ ss → ∀ Q : List V → Hp → Prop, (∀ vs H2, Ex H H2 → DaL av H2 ds vs → Q vs H2) → ta σ H Q
def EvO (to : TO) (ss : List Slot) (o : Option Int) : Prop := ∀ (av : Addr → Prop) (H : Hp) (σ : L2.St), Live av H → Fits av H σ ss → ∀ Q : Option Int → Hp → Prop, (∀ H2, Ex H H2 → Q o H2) → to σ H Q
/-- a new list -/
def EvF (te : TE) (ss : List Slot) (xs : List PyData) : Prop := ∀ (av : Addr → Prop) (H : Hp) (σ : L2.St), Live av H → Fits av H σ ss → ∀ Q : VK,
  (∀ p H2 vs, Ex H H2 → H p = none → H2 p = some (.lst vs) → DaL (fun a => av a ∨ a = p) H2 xs vs → Q (.ref p) H2) → te σ H Q
/-- by values -/
def OpD (r : R2) (x y z : PyData) : Prop := ∀ (av : Addr → Prop) (H : Hp) (v w : V), Live av H → Da av H x v → Da av H y w → ∀ Q : VK, (∀ u H2, Ex H H2 → Da av H2 z u → Q u H2) → r v w H Q
def UnD (r : V → Hp → VK → Prop) (x z : PyData) : Prop := ∀ (av : Addr → Prop) (H : Hp) (v : V), Live av H → Da av H x v → ∀ Q : VK, (∀ u H2, Ex H H2 → Da av H2 z u → Q u H2) → r v H Q
def CaD (r : List V → Hp → VK → Prop) (ds : List PyData) (z : PyData) : Prop := ∀ (av : Addr → Prop) (H : Hp) (vs : List V), Live av H → DaL av H ds vs → ∀ Q : VK, (∀ u H2, Ex H H2 → Da av H2 z u → Q u H2) → r vs H Q
def SlD (r : V → Option Int → Option Int → Hp → VK → Prop) (x : PyData) (lo hi : Option Int) (z : PyData) : Prop := ∀ (av : Addr → Prop) (H : Hp) (v : V), Live av H → Da av H x v → ∀ Q : VK, (∀ u H2, Ex H H2 → Da av H2 z u → Q u H2) → r v lo hi H Q
/-- what a def of plain data promises -/
def SpP (R : List PyData → PyData → Prop) : Sp := fun vs H Q _ => ∃ (A : Addr → Prop) (ds : List PyData) (r : PyData), Live A H ∧ DaL A H ds vs ∧ R ds r ∧ ∀ v H', Ex H H' → Da A H' r v → Q v H'
theorem da_new {av : Addr → Prop} {H : Hp} {p : Addr} {ds : List PyData} {vs : List V} (l : Live av H) (hp : H p = none) (h : DaL av H ds vs) : Da av (upd H p (.tup vs)) (.tuple ds) (.ref p) := by
  simp only [Da]
  exact ⟨p, vs, rfl, .inl upd_same, h.ext (Ex.new hp)⟩
theorem da_newL {av : Addr → Prop} {H : Hp} {p : Addr} {ds : List PyData} {vs : List V} (l : Live av H) (hp : H p = none) (h : DaL av H ds vs) : Da av (upd H p (.lst vs)) (.list ds) (.ref p) := by
  simp only [Da]
  exact ⟨p, vs, rfl, l.no hp, upd_same, h.ext (Ex.new hp)⟩
section
variable {ss : List Slot} {ta tb te tc : TE} {t u : TT} {x y z d : PyData} {ds : List PyData}
theorem EvF.p {xs : List PyData} (h : EvF te ss xs) : EvP te ss (.list xs) := fun av H σ l f Q q => h av H σ l f Q fun p H2 vs e hp h2 r => q _ H2 e (by
  simp only [Da]
  exact ⟨p, vs, rfl, l.no hp, h2, r.weak fun a z => .inl z⟩)
theorem ep_var {i : Nat} (h : ss[i]? = some (.d d)) : EvP (tVar i) ss d := fun av H σ l f Q q => by
  obtain ⟨v, e, r⟩ := f.data h
  exact ⟨v, e, q v H (Ex.refl H) r⟩
theorem ep_int {i : Int} : EvP (tC (.int i)) ss (.int i) := fun av H σ l f Q q => q _ H (Ex.refl H) (by simp [Da])
theorem ep_bl {b : Bool} : EvP (tC (.bl b)) ss (.bool b) := fun av H σ l f Q q => q _ H (Ex.refl H) (by simp [Da])
theorem ep_non : EvP (tC .non) ss .none := fun av H σ l f Q q => q _ H (Ex.refl H) (by simp [Da])
theorem ep_str {s : Str} : EvP (tC (.str s)) ss (.str s) := fun av H σ l f Q q => q _ H (Ex.refl H) (by simp [Da])
theorem ep_op {r : R2} (ha : EvP ta ss x) (hb : EvP tb ss y) (hr : OpD r x y z) : EvP (tOp r ta tb) ss z := fun av H σ l f Q q =>
  ha av H σ l f _ fun v H1 e1 d1 => hb av H1 σ (l.ex e1) (f.ex e1) _ fun w H2 e2 d2 => hr av H2 v w ((l.ex e1).ex e2) (d1.ext e2) d2 Q fun u' H3 e3 d3 => q u' H3 ((e1.trans e2).trans e3) d3
theorem ep_un {r : V → Hp → VK → Prop} (ha : EvP ta ss x) (hr : UnD r x z) : EvP (tUn r ta) ss z := fun av H σ l f Q q =>
  ha av H σ l f _ fun v H1 e1 d1 => hr av H1 v (l.ex e1) d1 Q fun u' H3 e3 d3 => q u' H3 (e1.trans e3) d3
theorem ea_nil : EvA tNil ss [] := fun av H σ l f Q q => q [] H (Ex.refl H) (by simp [DaL])
theorem ea_cons {tr : TA} (h : EvP te ss d) (k : EvA tr ss ds) : EvA (tCons te tr) ss (d :: ds) := fun av H σ l f Q q =>
  h av H σ l f _ fun v H1 e1 d1 => k av H1 σ (l.ex e1) (f.ex e1) _ fun vs H2 e2 d2 => q _ H2 (e1.trans e2) (by simp only [DaL]; exact ⟨d1.ext e2, d2⟩)
theorem ep_tup {ta : TA} (h : EvA ta ss ds) (hz : ds.length ≤ 100000) : EvP (tTup ta) ss (.tuple ds) := fun av H σ l f Q q =>
  h av H σ l f _ fun vs H1 e1 d1 => ⟨Evl.sz_of (by rw [← d1.length]; exact hz), fun p hp => q _ _ (e1.trans (Ex.new hp)) (da_new (l.ex e1) hp d1)⟩
theorem ef_lst {ta : TA} (h : EvA ta ss ds) (hz : ds.length ≤ 100000) : EvF (tLst ta) ss ds := fun av H σ l f Q q =>
  h av H σ l f _ fun vs H1 e1 d1 => ⟨Evl.sz_of (by rw [← d1.length]; exact hz), fun p hp => q p _ vs (e1.trans (Ex.new hp)) (Evl.fresh_back e1 hp) upd_same ((Mv.avoid (Ex.new hp) hp).dal d1)⟩
theorem ep_cb {r : List V → Hp → VK → Prop} {ta : TA} (h : EvA ta ss ds) (hr : CaD r ds z) : EvP (tCB r ta) ss z := fun av H σ l f Q q =>
  h av H σ l f _ fun vs H1 e1 d1 => hr av H1 vs (l.ex e1) d1 Q fun u' H3 e3 d3 => q u' H3 (e1.trans e3) d3
theorem ep_call {R : List PyData → PyData → Prop} {E : XK} {ta : TA} (h : EvA ta ss ds) (hr : R ds z) : EvP (tCall (SpP R) [] E ta) ss z := fun av H σ l f Q q =>
  h av H σ l f _ fun vs H1 e1 d1 => by
    rw [List.append_nil]
    exact ⟨av, ds, z, l.ex e1, d1, hr, fun v H' e d' => q v H' (e1.trans e) d'⟩
theorem eo_none : EvO tNoPart ss none := fun av H σ l f Q q => q H (Ex.refl H)
theorem eo_some {i : Int} (h : EvP te ss (.int i)) : EvO (tPart te) ss (some i) := fun av H σ l f Q q =>
  h av H σ l f _ fun v H1 e1 d1 => ⟨i, by simpa [Da] using d1, q H1 e1⟩
theorem ep_sl {r : V → Option Int → Option Int → Hp → VK → Prop} {tl th : TO} {lo hi : Option Int} (h : EvP te ss x) (h1 : EvO tl ss lo) (h2 : EvO th ss hi) (hr : SlD r x lo hi z) : EvP (tSl r te tl th) ss z := fun av H σ l f Q q =>
  h av H σ l f _ fun v H1 e1 d1 => h1 av H1 σ (l.ex e1) (f.ex e1) _ fun H2 e2 => h2 av H2 σ ((l.ex e1).ex e2) ((f.ex e1).ex e2) _ fun H3 e3 =>
    hr av H3 v (((l.ex e1).ex e2).ex e3) ((d1.ext e2).ext e3) Q fun u' H4 e4 d4 => q u' H4 (((e1.trans e2).trans e3).trans e4) d4
/-! tests -/
theorem et_test {b : Bool} (h : EvP te ss (.bool b)) : EvT (tTest te) ss b := fun av H σ l f Q q => h av H σ l f _ fun v H1 e1 d1 => ⟨b, by simpa [Da] using d1, q H1 e1⟩
theorem et_b {b : Bool} (h : EvP te ss (.bool b)) : EvT (tB te) ss b := fun av H σ l f Q q => h av H σ l f _ fun v H1 e1 d1 => ⟨b, by simpa [Da] using d1, q H1 e1⟩
theorem et_yes : EvT tYes ss true := fun av H σ l f Q q => q H (Ex.refl H)
theorem et_not {a : Bool} (h : EvT t ss a) : EvT (tNot t) ss (!a) := fun av H σ l f Q q => h av H σ l f _ fun H1 e1 => q H1 e1
theorem et_and {a b : Bool} (h : EvT t ss a) (k : a = true → EvT u ss b) : EvT (tAnd t u) ss (a && b) := fun av H σ l f Q q => h av H σ l f _ fun H1 e1 => by
  cases a with
  | true =>
    show u σ H1 Q
    exact k rfl av H1 σ (l.ex e1) (f.ex e1) Q fun H2 e2 => q H2 (e1.trans e2)
  | false =>
    show Q false H1
    exact q H1 e1
theorem et_or {a b : Bool} (h : EvT t ss a) (k : a = false → EvT u ss b) : EvT (tOr t u) ss (a || b) := fun av H σ l f Q q => h av H σ l f _ fun H1 e1 => by
  cases a with
  | true =>
    show Q true H1
    exact q H1 e1
  | false =>
    show u σ H1 Q
    exact k rfl av H1 σ (l.ex e1) (f.ex e1) Q fun H2 e2 => q H2 (e1.trans e2)
theorem et_is {a b : Bool} (h : EvT t ss a) (e : a = b) : EvT t ss b := e ▸ h
theorem ep_is (h : EvP te ss x) (e : x = y) : EvP te ss y := e ▸ h
theorem ep_andV {a b : Bool} (h : EvP ta ss (.bool a)) (k : a = true → EvP tb ss (.bool b)) : EvP (tAndV ta tb) ss (.bool (a && b)) := fun av H σ l f Q q => h av H σ l f _ fun v H1 e1 d1 => ⟨a, by simpa [Da] using d1, by
  cases a with
  | true =>
    show tb σ H1 Q
    exact k rfl av H1 σ (l.ex e1) (f.ex e1) Q fun v2 H2 e2 d2 => q v2 H2 (e1.trans e2) d2
  | false =>
    show Q (.bl false) H1
    exact q _ H1 e1 (by simp [Da])⟩
theorem ep_orV {a b : Bool} (h : EvP ta ss (.bool a)) (k : a = false → EvP tb ss (.bool b)) : EvP (tOrV ta tb) ss (.bool (a || b)) := fun av H σ l f Q q => h av H σ l f _ fun v H1 e1 d1 => ⟨a, by simpa [Da] using d1, by
  cases a with
  | true =>
    show Q (.bl true) H1
    exact q _ H1 e1 (by simp [Da])
  | false =>
    show tb σ H1 Q
    exact k rfl av H1 σ (l.ex e1) (f.ex e1) Q fun v2 H2 e2 d2 => q v2 H2 (e1.trans e2) d2⟩
theorem ep_notV {a : Bool} (h : EvP ta ss (.bool a)) : EvP (tNotV ta) ss (.bool (!a)) := fun av H σ l f Q q => h av H σ l f _ fun v H1 e1 d1 => ⟨a, by simpa [Da] using d1, q _ H1 e1 (by simp [Da])⟩
theorem ep_if {b : Bool} (h : EvT t ss b) (h1 : b = true → EvP ta ss d) (h2 : b = false → EvP tb ss d) : EvP (tIf t ta tb) ss d := fun av H σ l f Q q => h av H σ l f _ fun H1 e1 => by
  cases b with
  | true =>
    show ta σ H1 Q
    exact h1 rfl av H1 σ (l.ex e1) (f.ex e1) Q fun v2 H2 e2 d2 => q v2 H2 (e1.trans e2) d2
  | false =>
    show tb σ H1 Q
    exact h2 rfl av H1 σ (l.ex e1) (f.ex e1) Q fun v2 H2 e2 d2 => q v2 H2 (e1.trans e2) d2
theorem ep_chain {r r' : R2} {b b' : Bool} (ha : EvP ta ss x) (hb : EvP tb ss y) (hr : OpD r x y (.bool b)) (hc : b = true → EvP tc ss z) (hr' : OpD r' y z (.bool b')) : EvP (tChain r r' ta tb tc) ss (.bool (b && b')) := fun av H σ l f Q q =>
  ha av H σ l f _ fun v H1 e1 d1 => hb av H1 σ (l.ex e1) (f.ex e1) _ fun w H2 e2 d2 => hr av H2 v w ((l.ex e1).ex e2) (d1.ext e2) d2 _ fun u' H3 e3 d3 => ⟨b, by simpa [Da] using d3, by
    cases b with
    | true =>
      show tc σ H3 _
      refine hc rfl av H3 σ (((l.ex e1).ex e2).ex e3) (((f.ex e1).ex e2).ex e3) _ fun v4 H4 e4 d4 => ?_
      exact hr' av H4 w v4 ((((l.ex e1).ex e2).ex e3).ex e4) ((d2.ext e3).ext e4) d4 Q fun u5 H5 e5 d5 => q u5 H5 ((((e1.trans e2).trans e3).trans e4).trans e5) d5
    | false =>
      show Q (.bl false) H3
      exact q _ H3 ((e1.trans e2).trans e3) (by simp [Da])⟩
/-- a list of one's own read as a value -/
theorem Fits.freeze {av : Addr → Prop} {H : Hp} {σ : L2.St} {ss : List Slot} (f : Fits av H σ ss) {i : Nat} {p : Addr} {xs : List PyData} (e : ss[i]? = some (.own p xs)) : Fits (fun a => False) H σ (ss.set i (.d (.list xs))) := by
  obtain ⟨e1, vs, q, r⟩ := f.own e
  have m : Mv av H (fun _ => False) H := .weak fun a z => z.elim
  have k := f.set (H' := H) (av' := fun _ => False) (i := i) (o := some (.ref p)) (s := .d (.list xs)) (fun j o s _ _ g => fit_mv m (fun _ _ _ _ q => q) g) ⟨_, rfl, by
    simp only [Da]
    exact ⟨p, vs, rfl, fun z => z, q, m.dal r⟩⟩
  rw [set_here e1] at k
  exact k
/-- data without lists -/
def flat : PyData → Bool
  | .none => true
  | .bool _ => true
  | .int _ => true
  | .str _ => true
  | _ => false
theorem da_flat {av av' : Addr → Prop} {H : Hp} {v : V} : ∀ {d : PyData}, flat d = true → Da av H d v → Da av' H d v
  | .none, _, h => by simpa [Da] using h
  | .bool _, _, h => by simpa [Da] using h
  | .int _, _, h => by simpa [Da] using h
  | .str _, _, h => by simpa [Da] using h
  | .list _, e, _ => by simp [flat] at e
  | .tuple _, e, _ => by simp [flat] at e
  | .dict _, e, _ => by simp [flat] at e
theorem ep_thaw {i : Nat} {p : Addr} {xs : List PyData} (e : ss[i]? = some (.own p xs)) (h : EvP te (ss.set i (.d (.list xs))) d) (hd : flat d = true) : EvP te ss d := fun av H σ l f Q q =>
  h (fun _ => False) H σ (fun a z => z.elim) (f.freeze e) Q fun v H2 e2 d2 => q v H2 e2 (da_flat hd d2)
theorem et_thaw {b : Bool} {i : Nat} {p : Addr} {xs : List PyData} (e : ss[i]? = some (.own p xs)) (h : EvT t (ss.set i (.d (.list xs))) b) : EvT t ss b := fun av H σ l f Q q =>
  h (fun _ => False) H σ (fun a z => z.elim) (f.freeze e) Q q
end
/-! ### operators -/
section
variable {K : PySem.W.Frag} {i j : Int} {x y z : PyData} {xs ys : List PyData}
theorem od_i {g : Int → Int → Int} : OpD (rI0 fun i j => .int (g i j)) (.int i) (.int j) (.int (g i j)) := fun av H v w l a b Q q =>
  ⟨i, j, by simpa [Da] using a, by simpa [Da] using b, q _ H (Ex.refl H) (by simp [Da])⟩
theorem od_b {g : Int → Int → Bool} : OpD (rI0 fun i j => .bl (g i j)) (.int i) (.int j) (.bool (g i j)) := fun av H v w l a b Q q =>
  ⟨i, j, by simpa [Da] using a, by simpa [Da] using b, q _ H (Ex.refl H) (by simp [Da])⟩
theorem od_c {C : Int → Int → Prop} {g : Int → Int → Int} (h : C i j) : OpD (rI C fun i j => .int (g i j)) (.int i) (.int j) (.int (g i j)) := fun av H v w l a b Q q =>
  ⟨i, j, by simpa [Da] using a, by simpa [Da] using b, h, q _ H (Ex.refl H) (by simp [Da])⟩
theorem ud_i {g : Int → Int} : UnD (rU fun i => .int (g i)) (.int i) (.int (g i)) := fun av H v l a Q q => ⟨i, by simpa [Da] using a, q _ H (Ex.refl H) (by simp [Da])⟩
/-- == of two things of one plain kind -/
theorem od_eqI : OpD rEq (.int i) (.int j) (.bool (decide (i = j))) := fun av H v w l a b Q q => by
  have ea : v = .int i := by simpa [Da] using a
  have eb : w = .int j := by simpa [Da] using b
  subst ea eb
  refine ⟨rfl, q _ H (Ex.refl H) ?_⟩
  simp [Da]
theorem od_neI : OpD rNe (.int i) (.int j) (.bool (!decide (i = j))) := fun av H v w l a b Q q => by
  have ea : v = .int i := by simpa [Da] using a
  have eb : w = .int j := by simpa [Da] using b
  subst ea eb
  refine ⟨rfl, q _ H (Ex.refl H) ?_⟩
  simp [Da]
theorem od_eqS {s t : Str} : OpD rEq (.str s) (.str t) (.bool (decide (s = t))) := fun av H v w l a b Q q => by
  have ea : v = .str s := by simpa [Da] using a
  have eb : w = .str t := by simpa [Da] using b
  subst ea eb
  refine ⟨rfl, q _ H (Ex.refl H) ?_⟩
  simp [Da]
theorem od_eqB {s t : Bool} : OpD rEq (.bool s) (.bool t) (.bool (decide (s = t))) := fun av H v w l a b Q q => by
  have ea : v = .bl s := by simpa [Da] using a
  have eb : w = .bl t := by simpa [Da] using b
  subst ea eb
  refine ⟨rfl, q _ H (Ex.refl H) ?_⟩
  simp [Da]
theorem od_neB {s t : Bool} : OpD rNe (.bool s) (.bool t) (.bool (!decide (s = t))) := fun av H v w l a b Q q => by
  have ea : v = .bl s := by simpa [Da] using a
  have eb : w = .bl t := by simpa [Da] using b
  subst ea eb
  refine ⟨rfl, q _ H (Ex.refl H) ?_⟩
  simp [Da]
def isNone : PyData → Bool
  | .none => true
  | _ => false
theorem da_none {av : Addr → Prop} {H : Hp} {v : V} : ∀ {d : PyData}, Da av H d v → decide (v = .non) = isNone d
  | .none, h => by
    have e : v = .non := by simpa [Da] using h
    subst e
    rfl
  | .bool b, h => by
    have e : v = .bl b := by simpa [Da] using h
    subst e
    rfl
  | .int i, h => by
    have e : v = .int i := by simpa [Da] using h
    subst e
    rfl
  | .str z, h => by
    have e : v = .str z := by simpa [Da] using h
    subst e
    rfl
  | .list _, h => by
    simp only [Da] at h
    obtain ⟨a, vs, e, _⟩ := h
    subst e
    rfl
  | .tuple _, h => by
    simp only [Da] at h
    obtain ⟨a, vs, e, _⟩ := h
    subst e
    rfl
  | .dict _, h => by
    simp only [Da] at h
    obtain ⟨_, a, _, _, e, _⟩ := h
    subst e
    rfl
theorem od_isN : OpD (fun x y H Q => y = .non ∧ Q (.bl (decide (x = .non))) H) x .none (.bool (isNone x)) := fun av H v w l a b Q q =>
  ⟨by simpa [Da] using b, q _ H (Ex.refl H) (by rw [da_none a]; simp [Da])⟩
theorem od_notN : OpD (fun x y H Q => y = .non ∧ Q (.bl (!decide (x = .non))) H) x .none (.bool (!isNone x)) := fun av H v w l a b Q q =>
  ⟨by simpa [Da] using b, q _ H (Ex.refl H) (by rw [da_none a]; simp [Da])⟩
theorem od_eqD (px : plainD x = true) (py : plainD y = true) (hx : SeqAt.shaped x = true) (hy : SeqAt.shaped y = true) : OpD (rEqD K) x y (.bool (PyData.eqv x y)) := fun av H v w l a b Q q =>
  ⟨x, y, a.dp _ _ px, b.dp _ _ py, hx, hy, q _ H (Ex.refl H) (by simp [Da])⟩
theorem od_neD (px : plainD x = true) (py : plainD y = true) (hx : SeqAt.shaped x = true) (hy : SeqAt.shaped y = true) : OpD (rNeD K) x y (.bool (!PyData.eqv x y)) := fun av H v w l a b Q q =>
  ⟨x, y, a.dp _ _ px, b.dp _ _ py, hx, hy, q _ H (Ex.refl H) (by simp [Da])⟩
theorem atD {av : Addr → Prop} {H : Hp} {vs : List V} {d : PyData} (r : DaL av H xs vs) (h : atI xs i = some d) : ∃ v, atI vs i = some v ∧ Da av H d v := by
  unfold atI at h ⊢
  rw [← r.length]
  obtain ⟨j, e, q⟩ := Option.bind_eq_some_iff.mp h
  obtain ⟨v, e2, q2⟩ := r.get q
  exact ⟨v, by rw [e]; exact e2, q2⟩
theorem od_ixT (h : atI xs i = some z) : OpD (rIxT K) (.tuple xs) (.int i) z := fun av H v w l a b Q q => by
  simp only [Da] at a
  obtain ⟨p, vs, e, hp, r⟩ := a
  obtain ⟨v', e', d'⟩ := atD r h
  exact ⟨p, vs, i, v', e, by simpa [Da] using b, hp.sq, e', q _ H (Ex.refl H) d'⟩
theorem od_ixL (h : atI xs i = some z) : OpD (rIxL K) (.list xs) (.int i) z := fun av H v w l a b Q q => by
  simp only [Da] at a
  obtain ⟨p, vs, e, _, hp, r⟩ := a
  obtain ⟨v', e', d'⟩ := atD r h
  exact ⟨p, vs, i, v', e, by simpa [Da] using b, SqL.of hp, e', q _ H (Ex.refl H) d'⟩
theorem od_ixST (h : atI xs i = some z) : OpD (rIx K) (.tuple xs) (.int i) z := fun av H v w l a b Q q => .inr (.inl (od_ixT (K := K) h av H v w l a b Q q))
theorem od_ixSL (h : atI xs i = some z) : OpD (rIx K) (.list xs) (.int i) z := fun av H v w l a b Q q => .inl (od_ixL (K := K) h av H v w l a b Q q)
theorem od_cat (hz : xs.length + ys.length ≤ 100000) : OpD rCat (.list xs) (.list ys) (.list (xs ++ ys)) := fun av H v w l a b Q q => by
  simp only [Da] at a b
  obtain ⟨p, vs, e, _, hp, r⟩ := a
  obtain ⟨p2, vs2, e2, _, hp2, r2⟩ := b
  exact ⟨p, p2, vs, vs2, e, e2, hp, hp2, Evl.sz_of (by rw [← r.length, ← r2.length]; exact hz), fun a ha => q _ _ (Ex.new ha) (da_newL l ha (r.append r2))⟩
theorem od_rep {k : Int} (h0 : 0 ≤ k) (h1 : k ≤ 1000) (hz : xs.length ≤ 100) : OpD rRep (.list xs) (.int k) (.list (List.replicate k.toNat xs).flatten) := fun av H v w l a b Q q => by
  simp only [Da] at a b
  obtain ⟨p, vs, e, _, hp, r⟩ := a
  have hk : k.toNat ≤ 1000 := by omega
  have e1 : vs.length = xs.length := r.length.symm
  have hm : vs.length * k.toNat ≤ 100 * 1000 := Nat.mul_le_mul (by omega) hk
  refine ⟨p, k, vs, e, b, hp, by omega, by omega, Evl.sz_of hm, fun a ha => q _ _ (Ex.new ha) (da_newL l ha ?_)⟩
  have : ∀ n, DaL av H (List.replicate n xs).flatten (List.replicate n vs).flatten := fun n => by
    induction n with
    | zero => simp [DaL]
    | succ n ih =>
      rw [List.replicate_succ, List.replicate_succ, List.flatten_cons, List.flatten_cons]
      exact r.append ih
  exact this _
end
end Uh

set_option Elab.async false
set_option linter.all false
set_option maxRecDepth 100000
set_option maxHeartbeats 1000000
/-! Statements over data. -/
namespace Uh
open PySem L2
open Evl (Ex)
/-- an exception: its class, one of its fields and what that holds -/
structure Xc where
  cls : Value
  f : Str
  d : PyData
def XcIs (av : Addr → Prop) (H : Hp) (c : Xc) (cls : Value) (d : Option Addr) : Prop := cls = c.cls ∧ ∃ (dd : Addr) (fs : List (Str × V)) (v : V), d = some dd ∧ H dd = some (.xd fs) ∧ fs.lookup c.f = some v ∧ Da av H c.d v
inductive Out where
  | nx (n : Nat) (ss : List Slot)
  | rt (n : Nat) (d : PyData)
  | bk (n : Nat) (ss : List Slot)
  | ct (n : Nat) (ss : List Slot)
  | xc (n : Nat) (ss : List Slot) (c : Xc)
structure Goes (W : Wd) (ow : List Addr) (H : Hp) (D : Ends) (P : Out → Prop) : Prop where
  nx : ∀ n' ss' H' σ', P (.nx n' ss') → Stp W ow H H' → Fr ow H ss' → Sl W n' H' σ' ss' → D.nx σ' H'
  bk : ∀ n' ss' H' σ', P (.bk n' ss') → Stp W ow H H' → Fr ow H ss' → Sl W n' H' σ' ss' → D.bk σ' H'
  ct : ∀ n' ss' H' σ', P (.ct n' ss') → Stp W ow H H' → Fr ow H ss' → Sl W n' H' σ' ss' → D.ct σ' H'
  rt : ∀ n' d v H', P (.rt n' d) → Stp W ow H H' → W.stOk n' H' → Da W.A H' d v → D.rt v H'
  xc : ∀ n' ss' c cls d H' σ', P (.xc n' ss' c) → Stp W ow H H' → Fr ow H ss' → Sl W n' H' σ' ss' → XcIs (avd W (owns ss')) H' c cls d → W.xk cls d σ' H'
def RunS (W : Wd) (ts : TS) (n : Nat) (ss : List Slot) (P : Out → Prop) : Prop := ∀ (D : Ends) (H : Hp) (σ : L2.St), Sl W n H σ ss → Goes W (owns ss) H D P → ts D σ H
/-- an expression that may change the state -/
def EvS (W : Wd) (te : TE) (n : Nat) (ss : List Slot) (P : Nat → PyData → Prop) : Prop := ∀ (H : Hp) (σ : L2.St), Sl W n H σ ss → ∀ Q : VK,
  (∀ v H2 n' d, P n' d → Stp W [] H H2 → W.stOk n' H2 → Da (avd W (owns ss)) H2 d v → Q v H2) → te σ H Q
section
variable {W : Wd} {n : Nat} {ss : List Slot} {ts tu tw : TS} {P P' : Out → Prop} {te ta ti : TE} {tc : TT} {d : PyData}
theorem RunS.mono (h : RunS W ts n ss P) (k : ∀ o, P o → P' o) : RunS W ts n ss P' := fun D H σ s g => h D H σ s
  ⟨fun n' ss' H' σ' p => g.nx n' ss' H' σ' (k _ p), fun n' ss' H' σ' p => g.bk n' ss' H' σ' (k _ p), fun n' ss' H' σ' p => g.ct n' ss' H' σ' (k _ p), fun n' d v H' p => g.rt n' d v H' (k _ p), fun n' ss' c cls d H' σ' p => g.xc n' ss' c cls d H' σ' (k _ p)⟩
theorem Goes.later {W : Wd} {ow ow' : List Addr} {H H1 : Hp} {D : Ends} {P : Out → Prop} (g : Goes W ow H D P) (t : Stp W ow H H1) (f : ∀ p ∈ ow', p ∈ ow ∨ H p = none) : Goes W ow' H1 D P := by
  have fr : ∀ {s : List Slot}, Fr ow' H1 s → Fr ow H s := fun {s} k p hp => by
    rcases k p hp with w | w
    · exact f p w
    · exact .inr (t.none_back w)
  exact ⟨fun n' ss' H' σ' p t' f' s' => g.nx n' ss' H' σ' p (t.trans t' f) (fr f') s', fun n' ss' H' σ' p t' f' s' => g.bk n' ss' H' σ' p (t.trans t' f) (fr f') s',
    fun n' ss' H' σ' p t' f' s' => g.ct n' ss' H' σ' p (t.trans t' f) (fr f') s', fun n' d v H' p t' ok r => g.rt n' d v H' p (t.trans t' f) ok r, fun n' ss' c cls d H' σ' p t' f' s' => g.xc n' ss' c cls d H' σ' p (t.trans t' f) (fr f') s'⟩
/-- what a first statement is to reach, that the rest may go on -/
def Then (W : Wd) (tu : TS) (P : Out → Prop) : Out → Prop
  | .nx n1 s1 => RunS W tu n1 s1 P
  | o => P o
theorem rs_seq (h : RunS W ts n ss (Then W tu P)) : RunS W (tSeq ts tu) n ss P := fun D H σ s g => by
  show ts { D with nx := tu D } σ H
  refine h _ H σ s ⟨fun n' ss' H' σ' p t f s' => ?_, fun n' ss' H' σ' p t f s' => g.bk n' ss' H' σ' p t f s', fun n' ss' H' σ' p t f s' => g.ct n' ss' H' σ' p t f s', fun n' d v H' p t ok r => g.rt n' d v H' p t ok r, fun n' ss' c cls d H' σ' p t f s' => g.xc n' ss' c cls d H' σ' p t f s'⟩
  exact (show RunS W tu n' ss' P from p) D H' σ' s' (g.later t f)
theorem rs_next (p : P (.nx n ss)) : RunS W tNext n ss P := fun D H σ s g => g.nx n ss H σ p .refl .self s
theorem rs_brk (p : P (.bk n ss)) : RunS W tBreak n ss P := fun D H σ s g => g.bk n ss H σ p .refl .self s
theorem rs_cont (p : P (.ct n ss)) : RunS W tCont n ss P := fun D H σ s g => g.ct n ss H σ p .refl .self s
/-- an expression in a frame -/
theorem EvP.at (h : EvP te ss d) {H : Hp} {σ : L2.St} (s : Sl W n H σ ss) {Q : VK} (q : ∀ v H2, Ex H H2 → Sl W n H2 σ ss → Da (avd W (owns ss)) H2 d v → Q v H2) : te σ H Q :=
  h _ H σ s.live s.fits Q fun v H2 e r => q v H2 e (s.ext e) r
theorem EvP.s (h : EvP te ss d) {P : Nat → PyData → Prop} (p : P n d) : EvS W te n ss P := fun H σ s Q q => h.at s fun v H2 e s2 r => q v H2 n d p (.of_ex e) s2.ok r
theorem rs_asg {i : Nat} (h : EvP te ss d) (p : P (.nx n (ss.set i (.d d)))) : RunS W (tAsg te (gName i)) n ss P := fun D H σ s g => h.at s fun v H2 e s2 r =>
  g.nx n _ H2 _ p (.of_ex e) (Fr.plain rfl .self) (s2.set r)
theorem rs_asgS {i : Nat} {P0 : Nat → PyData → Prop} (h : EvS W te n ss P0) (p : ∀ n' d, P0 n' d → P (.nx n' (ss.set i (.d d)))) : RunS W (tAsg te (gName i)) n ss P := fun D H σ s g => h H σ s _ fun v H2 n' d pd t ok r =>
  g.nx n' _ H2 _ (p n' d pd) (t.more (by simp)) (Fr.plain rfl .self) ((s.stp t ok).set r)
theorem rs_drop (h : EvP te ss d) (p : P (.nx n ss)) : RunS W (tDrop te) n ss P := fun D H σ s g => h.at s fun v H2 e s2 r => g.nx n _ H2 _ p (.of_ex e) .self s2
theorem rs_ret (h : EvP te ss d) (p : P (.rt n d)) : RunS W (tRet te) n ss P := fun D H σ s g => h.at s fun v H2 e s2 r => g.rt n d v H2 p (.of_ex e) s2.ok (r.weak fun a z => .inl z)
theorem rs_retS {P0 : Nat → PyData → Prop} (h : EvS W te n ss P0) (p : ∀ n' d, P0 n' d → P (.rt n' d)) : RunS W (tRet te) n ss P := fun D H σ s g => h H σ s _ fun v H2 n' d pd t ok r => g.rt n' d v H2 (p n' d pd) (t.more (by simp)) ok (r.weak fun a z => .inl z)
theorem EvT.at {b : Bool} (h : EvT tc ss b) {H : Hp} {σ : L2.St} (s : Sl W n H σ ss) {Q : Bool → Hp → Prop} (q : ∀ H2, Ex H H2 → Sl W n H2 σ ss → Q b H2) : tc σ H Q := h _ H σ s.live s.fits Q fun H2 e => q H2 e (s.ext e)
theorem rs_if {b : Bool} (h : EvT tc ss b) (h1 : b = true → RunS W tu n ss P) (h2 : b = false → RunS W tw n ss P) : RunS W (tIfS tc tu tw) n ss P := fun D H σ s g => h.at s fun H1 e s1 => by
  cases b with
  | true =>
    show tu D σ H1
    exact h1 rfl D H1 σ s1 (g.later (.of_ex e) fun p hp => .inl hp)
  | false =>
    show tw D σ H1
    exact h2 rfl D H1 σ s1 (g.later (.of_ex e) fun p hp => .inl hp)
/-- a list of one's own is made -/
theorem rs_new {i : Nat} {xs : List PyData} (h : EvF te ss xs) (p : ∀ a, P (.nx n (ss.set i (.own a xs)))) : RunS W (tAsg te (gName i)) n ss P := fun D H σ s g =>
  h _ H σ s.live s.fits _ fun a H2 vs e ha h2 r => g.nx n _ H2 _ (p a) (.of_ex e) (Fr.own .self ha) (s.make e ha h2 r)
theorem rs_app {K : PySem.W.Frag} {i : Nat} {a : Addr} {xs : List PyData} (hi : ss[i]? = some (.own a xs)) (hz : xs.length < 100000) (h : EvP te ss d) (p : P (.nx n (ss.set i (.own a (xs ++ [d]))))) :
    RunS W (tDrop (tBM K "list" rAppend (tVar i) (tCons te tNil))) n ss P := fun D H σ s g => by
  obtain ⟨e1, vs, q, r⟩ := s.fits.own hi
  refine ⟨_, e1, Or.inl ⟨rfl, vs, SqL.of q⟩, ?_⟩
  refine h.at s fun v H2 e s2 r2 => ?_
  obtain ⟨_, vs2, q2, r3⟩ := s2.fits.own hi
  obtain ⟨s3, t3⟩ := s2.change (ys := xs ++ [d]) (ws := vs2 ++ [v]) hi (r3.append (DaL.one r2))
  refine ⟨a, vs2, v, rfl, rfl, q2, Evl.sz_lt (by rw [← r3.length]; exact hz), ?_⟩
  exact g.nx n _ _ _ p ((Stp.of_ex e).trans t3 fun z hz => .inl hz) (by
    show Fr (owns ss) H (ss.set i (.own a (xs ++ [d])))
    intro z hz
    rw [owns_set_same hi] at hz
    exact .inl hz) s3
theorem rs_pop {K : PySem.W.Frag} {i : Nat} {a : Addr} {xs : List PyData} (hi : ss[i]? = some (.own a xs)) (hne : xs ≠ []) (p : P (.nx n (ss.set i (.own a xs.dropLast)))) :
    RunS W (tDrop (tBM0 K "list" rPop (tVar i))) n ss P := fun D H σ s g => by
  obtain ⟨e1, vs, q, r⟩ := s.fits.own hi
  refine ⟨_, e1, Or.inl ⟨rfl, vs, SqL.of q⟩, ?_⟩
  obtain ⟨s3, t3⟩ := s.change (ys := xs.dropLast) (ws := vs.dropLast) hi r.dropLast
  have hl : 0 < vs.length := by
    rw [← r.length]
    exact List.length_pos_iff.mpr hne
  refine ⟨a, vs, vs[vs.length - 1]'(by omega), rfl, rfl, q, by simp [hl], ?_⟩
  exact g.nx n _ _ _ p t3 (by
    intro z hz
    rw [owns_set_same hi] at hz
    exact .inl hz) s3
theorem rs_seti {i k : Nat} {a : Addr} {xs : List PyData} (hi : ss[i]? = some (.own a xs)) (h : EvP te ss d) (ht : EvP ti ss (.int (k : Int))) (hk : k < xs.length) (p : P (.nx n (ss.set i (.own a (xs.set k d))))) :
    RunS W (tAsg te (gSub (tVar i) ti rSetL)) n ss P := fun D H σ s g => by
  refine h.at s fun v H2 e s2 r2 => ?_
  obtain ⟨e1, _, _, _⟩ := s2.fits.own hi
  refine ⟨_, e1, ?_⟩
  refine ht.at s2 fun w H3 e3 s3 r3 => ?_
  obtain ⟨_, vs2, q2, r4⟩ := s3.fits.own hi
  obtain ⟨s4, t4⟩ := s3.change (ys := xs.set k d) (ws := vs2.set k v) hi (r4.set (r2.ext e3) k)
  have ew : w = .int (k : Int) := by simpa [Da] using r3
  refine ⟨a, vs2, (k : Int), k, rfl, ew, q2, Evl.ixN_nat (by rw [← r4.length]; exact hk), ?_⟩
  exact g.nx n _ _ _ p (((Stp.of_ex e).trans (Stp.of_ex e3) fun z hz => .inl hz).trans t4 fun z hz => .inl hz) (by
    intro z hz
    rw [owns_set_same hi] at hz
    exact .inl hz) s4
/-- from here on a list of one's own is a value -/
theorem rs_freeze {i : Nat} {a : Addr} {xs : List PyData} (hi : ss[i]? = some (.own a xs)) (h : RunS W ts n (ss.set i (.d (.list xs))) P) : RunS W ts n ss P := fun D H σ s g =>
  h D H σ (s.freeze hi) (g.later .refl fun p hp => .inl ((owns_set_sub rfl).subset hp))
theorem rs_raiseNever : RunS W ts n ss (fun _ => False) → RunS W ts n ss P := fun h => h.mono fun _ z => z.elim
/-! loops -/
/-- a walk gives these things, one behind another -/
structure ItOk (J : It) (av : Addr → Prop) (H1 : Hp) (ds : List PyData) : Prop where
  go : ∀ i H' av', Mv av H1 av' H' → i < ds.length → J.go i H'
  stop : ∀ i H' av', Mv av H1 av' H' → ds.length ≤ i → J.stop i H'
  yld : ∀ i H' x H'' d av', Mv av H1 av' H' → Live av' H' → ds[i]? = some d → J.yld i H' x H'' → Ex H' H'' ∧ Da av' H'' d x
def Wk (wi : TI) (ss : List Slot) (ds : List PyData) : Prop := ∀ (av : Addr → Prop) (H : Hp) (σ : L2.St), Live av H → Fits av H σ ss → ∀ R : It → Hp → Prop, (∀ J H1, Ex H H1 → ItOk J av H1 ds → R J H1) → wi σ H R
/-- a target takes such a thing: f tells the slots behind it -/
def TgD (g : TG) (d : PyData) (f : List Slot → List Slot) : Prop := (∀ ss, (owns (f ss)).Sublist (owns ss)) ∧ ∀ (av : Addr → Prop) (H : Hp) (σ : L2.St) (ss : List Slot) (v : V), Fits av H σ ss → Da av H d v → ∀ Q : L2.St → Hp → Prop, (∀ σ', Fits av H σ' (f ss) → Q σ' H) → g v σ H Q
theorem tg_name {j : Nat} {d : PyData} : TgD (gName j) d (fun ss => ss.set j (.d d)) := ⟨fun ss => owns_set_sub rfl, fun av H σ ss v f r Q q => q _ (f.put r)⟩
theorem tg_two {K : PySem.W.Frag} {i j : Nat} {x y : PyData} : TgD (gTup K 2 (gCons (gName i) (gCons (gName j) gNil))) (.tuple [x, y]) (fun ss => (ss.set i (.d x)).set j (.d y)) := by
  refine ⟨fun ss => (owns_set_sub rfl).trans (owns_set_sub rfl), fun av H σ ss v f r Q q => ?_⟩
  simp only [Da] at r
  obtain ⟨a, vs, e, hp, r⟩ := r
  match vs, r with
  | [v1, v2], r =>
    simp only [DaL] at r
    exact ⟨a, _, e, hp.sq, rfl, v1, [v2], rfl, v2, [], rfl, rfl, q _ ((f.put r.1).put r.2.1)⟩
  | [], r => simp [DaL] at r
  | [_], r => simp [DaL] at r
  | _ :: _ :: _ :: _, r => simp [DaL] at r
theorem Sl.tg {H : Hp} {σ σ' : L2.St} {f : List Slot → List Slot} (s : Sl W n H σ ss) (sb : (owns (f ss)).Sublist (owns ss)) (k : Fits (avd W (owns ss)) H σ' (f ss)) : Sl W n H σ' (f ss) := by
  have m : Mv (avd W (owns ss)) H (avd W (owns (f ss))) H := .weak fun a z => z.imp id fun w => sb.subset w
  exact ⟨k.map' fun j o s _ g => fit_mv m (fun _ _ _ _ q => q) g, s.nd.sublist sb, fun p hp => s.noA p (sb.subset hp), s.ok⟩
/-- a turn of a loop -/
def Turn' (P : Out → Prop) (Inv : Nat → List Slot → Prop) : Out → Prop
  | .nx n s => Inv n s
  | .ct n s => Inv n s
  | .bk n s => P (.nx n s)
  | .rt n d => P (.rt n d)
  | .xc n s c => P (.xc n s c)
theorem rs_for {α : Type} {wi : TI} {g : TG} {xs : List α} {enc : α → PyData} {f : α → List Slot → List Slot} (hw : Wk wi ss (xs.map enc)) (hg : ∀ a ∈ xs, TgD g (enc a) (f a)) (Inv : Nat → Nat → List Slot → Prop) (h0 : Inv 0 n ss)
    (hs : ∀ (i : Nat) (a : α) n' ss', xs[i]? = some a → Inv i n' ss' → RunS W tu n' (f a ss') (Turn' P (Inv (i + 1)))) (hd : ∀ n' ss', Inv xs.length n' ss' → P (.nx n' ss')) : RunS W (tFor wi g tu) n ss P := fun D H σ s G => by
  refine hw _ H σ s.live s.fits _ fun J H1 e1 ok => ?_
  have s1 := s.ext e1
  have G1 : Goes W (owns ss) H1 D P := G.later (.of_ex e1) fun p hp => .inl hp
  refine ⟨fun i m σ' H' => m = xs.length - i ∧ i ≤ xs.length ∧ ∃ n' ss', Inv i n' ss' ∧ Sl W n' H' σ' ss' ∧ Stp W (owns ss) H1 H' ∧ Fr (owns ss) H1 ss', ⟨xs.length, by simp, Nat.zero_le _, n, ss, h0, s1, .refl, .self⟩, ?_⟩
  rintro i m σ' H' ⟨rfl, hi, n', ss', inv, s', t', f'⟩
  have mv := t'.mv f'
  by_cases hlt : i < xs.length
  · refine .inr ⟨ok.go i H' _ mv (by simpa using hlt), fun σ2 H2 => ∃ n2 ss2, Inv (i + 1) n2 ss2 ∧ Sl W n2 H2 σ2 ss2 ∧ Stp W (owns ss) H1 H2 ∧ Fr (owns ss) H1 ss2, fun σ2 H2 z => ⟨xs.length - (i + 1), by omega, rfl, hlt, z⟩, fun x H'' y => ?_⟩
    have hget : xs[i]? = some xs[i] := by simp [hlt]
    have hget' : (xs.map enc)[i]? = some (enc xs[i]) := by simp [hlt]
    obtain ⟨e2, r⟩ := ok.yld i H' x H'' _ _ mv s'.live hget' y
    have s2 := s'.ext e2
    obtain ⟨sub, tg⟩ := hg xs[i] (List.getElem_mem hlt)
    refine tg _ H'' σ' ss' x s2.fits r _ fun σ3 k3 => ?_
    have s3 : Sl W n' H'' σ3 (f xs[i] ss') := s2.tg (sub ss') k3
    have t3 : Stp W (owns ss) H1 H'' := t'.trans (.of_ex (ow := owns ss) e2) fun p hp => .inl hp
    have fr : ∀ p ∈ owns (f xs[i] ss'), p ∈ owns ss ∨ H1 p = none := fun p hp => f' p ((sub ss').subset hp)
    refine hs i xs[i] n' ss' hget inv _ H'' σ3 s3 ⟨fun n4 ss4 H4 σ4 p t4 f4 s4 => ?_, fun n4 ss4 H4 σ4 p t4 f4 s4 => ?_, fun n4 ss4 H4 σ4 p t4 f4 s4 => ?_, fun n4 d4 v4 H4 p t4 ok4 r4 => ?_, fun n4 ss4 c4 cls4 d4 H4 σ4 p t4 f4 s4 x4 => ?_⟩
    · refine ⟨n4, ss4, p, s4, t3.trans t4 fr, fun q hq => ?_⟩
      rcases f4 q hq with w | w
      · exact fr q w
      · exact .inr (t3.none_back w)
    · refine G1.nx n4 ss4 H4 σ4 p (t3.trans t4 fr) (fun q hq => ?_) s4
      rcases f4 q hq with w | w
      · exact fr q w
      · exact .inr (t3.none_back w)
    · refine ⟨n4, ss4, p, s4, t3.trans t4 fr, fun q hq => ?_⟩
      rcases f4 q hq with w | w
      · exact fr q w
      · exact .inr (t3.none_back w)
    · exact G1.rt n4 d4 v4 H4 p (t3.trans t4 fr) ok4 r4
    · refine G1.xc n4 ss4 c4 cls4 d4 H4 σ4 p (t3.trans t4 fr) (fun q hq => ?_) s4 x4
      rcases f4 q hq with w | w
      · exact fr q w
      · exact .inr (t3.none_back w)
  · have e : i = xs.length := by omega
    subst e
    exact .inl ⟨ok.stop _ H' _ mv (by simp), G1.nx n' ss' H' σ' (hd n' ss' inv) t' f' s'⟩
theorem rs_while (Inv : Nat → Nat → List Slot → Prop) (m0 : Nat) (h0 : Inv m0 n ss) (hs : ∀ m n' ss', Inv m n' ss' → ∃ b, EvT tc ss' b ∧ (b = true → RunS W tu n' ss' (Turn' P fun n2 ss2 => ∃ m', m' < m ∧ Inv m' n2 ss2)) ∧ (b = false → P (.nx n' ss'))) :
    RunS W (tWhile tc tu) n ss P := fun D H σ s G => by
  refine ⟨fun m σ' H' => ∃ n' ss', Inv m n' ss' ∧ Sl W n' H' σ' ss' ∧ Stp W (owns ss) H H' ∧ Fr (owns ss) H ss', ⟨m0, n, ss, h0, s, .refl, .self⟩, ?_⟩
  rintro m σ' H' ⟨n', ss', inv, s', t', f'⟩
  obtain ⟨b, hb, h1, h2⟩ := hs m n' ss' inv
  refine hb.at s' fun H2 e2 s2 => ?_
  have t2 : Stp W (owns ss) H H2 := t'.trans (.of_ex (ow := owns ss) e2) fun p hp => .inl hp
  cases b with
  | true =>
    refine ⟨fun σ3 H3 => ∃ m', m' < m ∧ ∃ n3 ss3, Inv m' n3 ss3 ∧ Sl W n3 H3 σ3 ss3 ∧ Stp W (owns ss) H H3 ∧ Fr (owns ss) H ss3, fun σ3 H3 ⟨m', lt, z⟩ => ⟨m', lt, z⟩, ?_⟩
    refine h1 rfl _ H2 σ' s2 ⟨fun n4 ss4 H4 σ4 p t4 f4 s4 => ?_, fun n4 ss4 H4 σ4 p t4 f4 s4 => ?_, fun n4 ss4 H4 σ4 p t4 f4 s4 => ?_, fun n4 d4 v4 H4 p t4 ok4 r4 => ?_, fun n4 ss4 c4 cls4 d4 H4 σ4 p t4 f4 s4 x4 => ?_⟩
    · obtain ⟨m', lt, i'⟩ := (show ∃ m', m' < m ∧ Inv m' n4 ss4 from p)
      refine ⟨m', lt, n4, ss4, i', s4, t2.trans t4 f', fun q hq => ?_⟩
      rcases f4 q hq with w | w
      · exact f' q w
      · exact .inr (t2.none_back w)
    · refine G.nx n4 ss4 H4 σ4 p (t2.trans t4 f') (fun q hq => ?_) s4
      rcases f4 q hq with w | w
      · exact f' q w
      · exact .inr (t2.none_back w)
    · obtain ⟨m', lt, i'⟩ := (show ∃ m', m' < m ∧ Inv m' n4 ss4 from p)
      refine ⟨m', lt, n4, ss4, i', s4, t2.trans t4 f', fun q hq => ?_⟩
      rcases f4 q hq with w | w
      · exact f' q w
      · exact .inr (t2.none_back w)
    · exact G.rt n4 d4 v4 H4 p (t2.trans t4 f') ok4 r4
    · refine G.xc n4 ss4 c4 cls4 d4 H4 σ4 p (t2.trans t4 f') (fun q hq => ?_) s4 x4
      rcases f4 q hq with w | w
      · exact f' q w
      · exact .inr (t2.none_back w)
  | false => exact G.nx n' ss' H2 σ' (h2 rfl) t2 f' s2
end
end Uh

set_option Elab.async false
set_option linter.all false
set_option maxRecDepth 100000
set_option maxHeartbeats 1000000
/-! Walks, comprehensions, calls of built-ins, over data; the promise of a def by its body. -/
namespace Uh
open PySem L2
open Evl (Ex)
section
variable {K : PySem.W.Frag} {ss : List Slot} {te tl : TE} {ta : TA} {ds : List PyData}
theorem da_one {av : Addr → Prop} {H : Hp} {d : PyData} {vs : List V} (h : DaL av H [d] vs) : ∃ v, vs = [v] ∧ Da av H d v := by
  match vs, h with
  | [v], h =>
    simp only [DaL] at h
    exact ⟨v, rfl, h.1⟩
  | [], h => simp [DaL] at h
  | _ :: _ :: _, h => simp [DaL] at h
theorem da_two {av : Addr → Prop} {H : Hp} {d e : PyData} {vs : List V} (h : DaL av H [d, e] vs) : ∃ v w, vs = [v, w] ∧ Da av H d v ∧ Da av H e w := by
  match vs, h with
  | [v, w], h =>
    simp only [DaL] at h
    exact ⟨v, w, rfl, h.1, h.2.1⟩
  | [], h => simp [DaL] at h
  | [_], h => simp [DaL] at h
  | _ :: _ :: _ :: _, h => simp [DaL] at h
/-! ### walks -/
theorem wk_list (h : EvP tl ss (.list ds)) : Wk (iList K tl) ss ds := fun av H σ l f R q => h av H σ l f _ fun v H1 e r => by
  simp only [Da] at r
  obtain ⟨a, vs, ev, na, hp, r⟩ := r
  refine ⟨a, ev, ⟨vs, SqL.of hp⟩, q _ H1 e ⟨fun i H' av' m lt => ?_, fun i H' av' m le => ?_, fun i H' x H'' d av' m l' hd y => ?_⟩⟩
  · have h' := (m.lst a vs na hp).1
    have lt' : i < vs.length := by rw [← r.length]; exact lt
    exact ⟨vs, vs[i], SqL.of h', by simp [lt']⟩
  · exact ⟨vs, SqL.of (m.lst a vs na hp).1, by rw [← r.length]; exact le⟩
  · obtain ⟨e', y⟩ := y
    subst e'
    obtain ⟨v, e2, r2⟩ := (m.dal r).get hd
    have e3 := y vs (SqL.of (m.lst a vs na hp).1)
    rw [e2] at e3
    cases e3
    exact ⟨Ex.refl _, r2⟩
theorem wk_tup (h : EvP tl ss (.tuple ds)) : Wk (iTup K tl) ss ds := fun av H σ l f R q => h av H σ l f _ fun v H1 e r => by
  simp only [Da] at r
  obtain ⟨a, vs, ev, hp, r⟩ := r
  refine ⟨a, ev, ⟨vs, hp.sq⟩, q _ H1 e ⟨fun i H' av' m lt => ?_, fun i H' av' m le => ?_, fun i H' x H'' d av' m l' hd y => ?_⟩⟩
  · have lt' : i < vs.length := by rw [← r.length]; exact lt
    exact ⟨vs, vs[i], (hp.go m.tup).sq, by simp [lt']⟩
  · exact ⟨vs, (hp.go m.tup).sq, by rw [← r.length]; exact le⟩
  · obtain ⟨e', y⟩ := y
    subst e'
    obtain ⟨v, e2, r2⟩ := (m.dal r).get hd
    have e3 := y vs ((hp.go m.tup).sq)
    rw [e2] at e3
    cases e3
    exact ⟨Ex.refl _, r2⟩
/-- lo, lo + 1, .. -/
def irange (lo : Int) (n : Nat) : List Int := (List.range n).map fun (i : Nat) => lo + (i : Int)
theorem irange_len {lo : Int} {n : Nat} : (irange lo n).length = n := by simp [irange]
theorem irange_get {lo : Int} {n i : Nat} {z : Int} (h : (irange lo n)[i]? = some z) : i < n ∧ z = lo + i := by
  unfold irange at h
  rw [List.getElem?_map] at h
  obtain ⟨j, e, ez⟩ := Option.map_eq_some_iff.mp h
  have lt : i < n := by
    rcases Nat.lt_or_ge i n with q | q
    · exact q
    · rw [List.getElem?_eq_none (by simpa using q)] at e
      cases e
  rw [List.getElem?_range lt] at e
  cases e
  exact ⟨lt, ez.symm⟩
theorem itr_ok {lo : Int} {n : Nat} {av : Addr → Prop} {H1 : Hp} : ItOk (Itr lo n) av H1 ((irange lo n).map PyData.int) :=
  ⟨fun i H' av' m lt => by
    rw [List.length_map, irange_len] at lt
    exact lt, fun i H' av' m le => by
    rw [List.length_map, irange_len] at le
    exact le, fun i H' x H'' d av' m l' hd y => by
    obtain ⟨e', e2⟩ := y
    subst e' e2
    rw [List.getElem?_map] at hd
    obtain ⟨z, ez, e⟩ := Option.map_eq_some_iff.mp hd
    obtain ⟨_, e3⟩ := irange_get ez
    subst e e3
    exact ⟨Ex.refl _, by simp [Da]⟩⟩
theorem wk_r1 {n : Int} (h : EvA ta ss [.int n]) (hn : n ≤ 100000) (h0 : -100000 ≤ n) : Wk (iRng1 ta) ss ((irange 0 n.toNat).map PyData.int) := fun av H σ l f R q => h av H σ l f _ fun vs H1 e r => by
  refine ⟨n, ?_, by omega, by omega, q _ H1 e itr_ok⟩
  have k := r.length
  match vs, r, k with
  | [v], r, _ =>
    simp only [DaL, Da] at r
    rw [r.1]
theorem wk_r2 {lo n : Int} (h : EvA ta ss [.int lo, .int n]) (hl : -100000 ≤ lo ∧ lo ≤ 100000) (hn : -100000 ≤ n ∧ n ≤ 100000) : Wk (iRng2 ta) ss ((irange lo (n - lo).toNat).map PyData.int) := fun av H σ l f R q => h av H σ l f _ fun vs H1 e r => by
  refine ⟨lo, n, ?_, ⟨by omega, by omega, by omega, by omega⟩, q _ H1 e itr_ok⟩
  have k := r.length
  match vs, r, k with
  | [v, w], r, _ =>
    simp only [DaL, Da] at r
    rw [r.1, r.2.1]
/-- n - 1, .., 0 -/
theorem wk_rr {n : Int} (h : EvP te ss (.int n)) (h0 : 0 ≤ n) (hn : n ≤ 100000) : Wk (iRevR (tRg1 te)) ss ((irange 0 n.toNat).reverse.map PyData.int) := fun av H σ l f R q => h av H σ l f _ fun v H1 e r => by
  have ev : v = .int n := by simpa [Da] using r
  refine ⟨n, ev, by omega, by omega, by omega, by omega, q _ H1 e ⟨fun i H' av' m lt => ?_, fun i H' av' m le => ?_, fun i H' x H'' d av' m l' hd y => ?_⟩⟩
  · rw [List.length_map, List.length_reverse, irange_len] at lt
    show i < (n - 0).toNat
    rw [Int.sub_zero]
    exact lt
  · rw [List.length_map, List.length_reverse, irange_len] at le
    show (n - 0).toNat ≤ i
    rw [Int.sub_zero]
    exact le
  · obtain ⟨e', e2⟩ := y
    rw [Int.sub_zero] at e2
    subst e' e2
    rw [List.getElem?_map] at hd
    obtain ⟨z, ez, e⟩ := Option.map_eq_some_iff.mp hd
    have li : i < n.toNat := by
      have := (List.getElem?_eq_some_iff.mp ez).1
      rw [List.length_reverse, irange_len] at this
      exact this
    rw [List.getElem?_reverse (by rw [irange_len]; exact li)] at ez
    obtain ⟨_, e3⟩ := irange_get ez
    rw [irange_len] at e3
    subst e e3
    refine ⟨Ex.refl _, ?_⟩
    simp only [Da]
    congr 1
    omega
/-- the things of a list, from its end -/
theorem wk_revL (h : EvP te ss (.list ds)) : Wk (RT.iRevA K te) ss ds.reverse := fun av H σ l f R q => h av H σ l f _ fun v H1 e r => by
  simp only [Da] at r
  obtain ⟨a, vs, ev, na, hp, r⟩ := r
  refine ⟨a, vs, ev, .inl ⟨SqL.of hp, q _ H1 e ⟨fun i H' av' m lt => ?_, fun i H' av' m le => ?_, fun i H' x H'' d av' m l' hd y => ?_⟩⟩⟩
  · rw [List.length_reverse, r.length] at lt
    have h' := (m.lst a vs na hp).1
    exact ⟨lt, vs, vs[vs.length - 1 - i], SqL.of h', by simp⟩
  · rw [List.length_reverse, r.length] at le
    exact le
  · obtain ⟨e', y⟩ := y
    subst e'
    have li : i < ds.length := by
      have := (List.getElem?_eq_some_iff.mp hd).1
      rw [List.length_reverse] at this
      exact this
    rw [List.getElem?_reverse li] at hd
    obtain ⟨v, e2, r2⟩ := (m.dal r).get hd
    have e3 := y vs (SqL.of (m.lst a vs na hp).1)
    rw [← r.length, e2] at e3
    cases e3
    exact ⟨Ex.refl _, r2⟩
/-- pairs of two tuples' things -/
theorem wk_zipT {xs ys : List PyData} (h : EvA ta ss [.tuple xs, .tuple ys]) : Wk (RZ.iZipA K ta) ss ((xs.zip ys).map fun p => .tuple [p.1, p.2]) := fun av H σ l f R q => h av H σ l f _ fun vs H1 e r => by
  obtain ⟨v, w, e0, d1, d2⟩ := da_two r
  simp only [Da] at d1 d2
  obtain ⟨a, us, ev, hp, r1⟩ := d1
  obtain ⟨b, ws, ew, hq, r2⟩ := d2
  subst e0 ev ew
  refine ⟨a, b, us, ws, rfl, .inr ⟨hp.sq, hq.sq, q _ H1 e ⟨fun i H' av' m lt => ?_, fun i H' av' m le => ?_, fun i H' x H'' d av' m l' hd y => ?_⟩⟩⟩
  · rw [List.length_map, List.length_zip, r1.length, r2.length] at lt
    exact ⟨us, ws, us[i]'(by omega), ws[i]'(by omega), (hp.go m.tup).sq, (hq.go m.tup).sq, by simp, by simp⟩
  · rw [List.length_map, List.length_zip, r1.length, r2.length] at le
    exact ⟨us, ws, (hp.go m.tup).sq, (hq.go m.tup).sq, by omega⟩
  · obtain ⟨T, x1, y1, e1, hT, e2, k1, k2⟩ := y
    subst e1 e2
    rw [List.getElem?_map] at hd
    obtain ⟨p, ep, e3⟩ := Option.map_eq_some_iff.mp hd
    subst e3
    rw [List.getElem?_zip_eq_some] at ep
    obtain ⟨v1, z1, d1⟩ := (m.dal r1).get ep.1
    obtain ⟨v2, z2, d2⟩ := (m.dal r2).get ep.2
    have y1 := k1 us ((hp.go m.tup).sq)
    have y2 := k2 ws ((hq.go m.tup).sq)
    rw [z1] at y1
    rw [z2] at y2
    cases y1
    cases y2
    refine ⟨Ex.new hT, ?_⟩
    exact da_new l' hT (by simp only [DaL]; exact ⟨d1, d2, trivial⟩)
/-! ### comprehensions -/
def wipeS (ss : List Slot) : List Nat → List Slot
  | [] => ss
  | v :: vs => (wipeS ss vs).set v .non
theorem Fits.wipe {av : Addr → Prop} {H : Hp} {σ : L2.St} {ss : List Slot} (f : Fits av H σ ss) : ∀ vs : List Nat, Fits av H (L2.wipe σ vs) (wipeS ss vs)
  | [] => f
  | _ :: vs => (Fits.wipe f vs).unset
/-- a comprehension's target -/
def TgC (g : TG) (d : PyData) (f : List Slot → List Slot) (vs : List Nat) : Prop := ∀ (av : Addr → Prop) (H : Hp) (σ : L2.St) (ss : List Slot) (v : V), Fits av H (L2.wipe σ vs) (wipeS ss vs) → Da av H d v → ∀ Q : L2.St → Hp → Prop, (∀ σ', Fits av H σ' (f (wipeS ss vs)) → L2.wipe σ' vs = L2.wipe σ vs → Q σ' H) → g v (L2.wipe σ vs) H Q
theorem tc_name {j : Nat} {d : PyData} : TgC (gName j) d (fun ss => ss.set j (.d d)) [j] := fun av H σ ss v f r Q q => q _ (f.put r) (by
  show ((σ.set j none).set j (some v)).set j none = σ.set j none
  simp)
theorem tc_two {i j : Nat} {x y : PyData} (hij : i ≠ j) : TgC (gTup K 2 (gCons (gName i) (gCons (gName j) gNil))) (.tuple [x, y]) (fun ss => (ss.set i (.d x)).set j (.d y)) [i, j] := fun av H σ ss v f r Q q => by
  simp only [Da] at r
  obtain ⟨a, vs, e, hp, r⟩ := r
  match vs, r with
  | [v1, v2], r =>
    simp only [DaL] at r
    refine ⟨a, _, e, hp.sq, rfl, v1, [v2], rfl, v2, [], rfl, rfl, q _ ((f.put r.1).put r.2.1) ?_⟩
    show ((((((σ.set j none).set i none).set i (some v1)).set j (some v2)).set j none).set i none) = (σ.set j none).set i none
    rw [List.set_set, List.set_set, List.set_comm _ _ (Ne.symm hij), List.set_set, List.set_comm _ _ hij, List.set_set]
  | [], r => simp [DaL] at r
  | [_], r => simp [DaL] at r
  | _ :: _ :: _ :: _, r => simp [DaL] at r
theorem ef_lc {α : Type} {wi : TI} {g : TG} {tt : TT} {vs : List Nat} {xs : List α} {enc : α → PyData} {f : α → List Slot → List Slot} (p : α → Bool) (F : α → PyData) (hw : Wk wi ss (xs.map enc)) (hz : xs.length ≤ 40000)
    (hg : ∀ a ∈ xs, TgC g (enc a) (f a) vs) (ht : ∀ a ∈ xs, EvT tt (f a (wipeS ss vs)) (p a)) (he : ∀ a ∈ xs, p a = true → EvP te (f a (wipeS ss vs)) (F a)) : EvF (tLc wi g tt te vs) ss ((xs.filter p).map F) := fun av H σ l f0 Q q => by
  refine hw av H σ l f0 _ fun J H1 e1 ok => fun D hD => ?_
  have hD0 : H D = none := Evl.fresh_back e1 hD
  refine ⟨fun i m H' => m = xs.length - i ∧ i ≤ xs.length ∧ Ex H1 H' ∧ ∃ acc, H' D = some (.lst acc) ∧ DaL (fun a => av a ∨ a = D) H' (((xs.take i).filter p).map F) acc, ⟨xs.length, by simp, Nat.zero_le _, Ex.new hD, [], upd_same, by simp [DaL]⟩, ?_⟩
  rintro i m H' ⟨rfl, hi, e', acc, hacc, ra⟩
  have mv : Mv av H1 (fun a => av a ∨ a = D) H' := .avoid e' hD
  have lv : Live (fun a => av a ∨ a = D) H' := fun a z => by
    rcases z with z | z
    · exact ((l.ex e1).ex e') a z
    · exact ⟨_, by rw [z]; exact hacc⟩
  have fv : Fits (fun a => av a ∨ a = D) H' σ ss := (f0.ex e1).avoid e' hD
  by_cases hlt : i < xs.length
  · refine .inr ⟨ok.go i H' _ mv (by simpa using hlt), fun H2 => i + 1 ≤ xs.length ∧ Ex H1 H2 ∧ ∃ acc, H2 D = some (.lst acc) ∧ DaL (fun a => av a ∨ a = D) H2 (((xs.take (i + 1)).filter p).map F) acc, fun H2 z => ⟨xs.length - (i + 1), by omega, rfl, z⟩, fun x H'' y => ?_⟩
    have hget : xs[i]? = some xs[i] := by simp [hlt]
    have hget' : (xs.map enc)[i]? = some (enc xs[i]) := by simp [hlt]
    obtain ⟨e2, r⟩ := ok.yld i H' x H'' _ _ mv lv hget' y
    have hm : xs[i] ∈ xs := List.getElem_mem hlt
    have tk : xs.take (i + 1) = xs.take i ++ [xs[i]] := by rw [List.take_succ, hget]; rfl
    refine hg xs[i] hm _ H'' σ ss x ((fv.ex e2).wipe vs) r _ fun σ3 f3 hw3 => ⟨hw3, ?_⟩
    refine ht xs[i] hm _ H'' σ3 (lv.ex e2) f3 _ fun H3 e3 => ?_
    have e03 : Ex H' H3 := e2.trans e3
    cases hp : p xs[i] with
    | true =>
      show te σ3 H3 _
      refine he xs[i] hm hp _ H3 σ3 (lv.ex e03) (f3.ex e3) _ fun v H4 e4 r4 => ?_
      have e04 := e03.trans e4
      have hl : acc.length ≤ 40000 := by
        rw [← ra.length, List.length_map]
        have h1 := List.length_filter_le p (xs.take i)
        rw [List.length_take] at h1
        omega
      refine ⟨acc, e04 D _ hacc, Evl.sz_lt (by omega), hlt, (e'.trans e04).mut hD, acc ++ [v], upd_same, ?_⟩
      rw [tk, List.filter_append, List.map_append, List.filter_cons, if_pos hp]
      have mv2 : Mv (fun a => av a ∨ a = D) H4 (fun a => av a ∨ a = D) (upd H4 D (.lst (acc ++ [v]))) := by
        refine ⟨fun a ys t z => ?_, fun a ys n z => ⟨?_, n⟩, fun a lo hi n z => ⟨?_, n⟩⟩
        · have w : a ≠ D := fun w => by
            rw [w, e04 D _ hacc] at z
            cases z
            exact t
          rw [upd_ne w]
          exact z
        · rw [upd_ne fun w => n (.inr w)]
          exact z
        · rw [upd_ne fun w => n (.inr w)]
          exact z
      exact mv2.dal ((ra.ext e04).append (DaL.one r4))
    | false =>
      show (_ ∧ _)
      refine ⟨hlt, e'.trans e03, acc, e03 D _ hacc, ?_⟩
      rw [tk, List.filter_append, List.map_append, List.filter_cons, if_neg (by rw [hp]; decide)]
      show DaL _ H3 (_ ++ []) acc
      rw [List.append_nil]
      exact ra.ext e03
  · have e : i = xs.length := by omega
    subst e
    refine .inl ⟨ok.stop _ H' _ mv (by simp), ?_⟩
    rw [List.take_length] at ra
    exact q D H' acc (e1.trans e') hD0 hacc ra
theorem ef_map {α : Type} {wi : TI} {g : TG} {vs : List Nat} {xs : List α} {enc : α → PyData} {f : α → List Slot → List Slot} (F : α → PyData) (hw : Wk wi ss (xs.map enc)) (hz : xs.length ≤ 40000)
    (hg : ∀ a ∈ xs, TgC g (enc a) (f a) vs) (he : ∀ a ∈ xs, EvP te (f a (wipeS ss vs)) (F a)) : EvF (tLc wi g tYes te vs) ss (xs.map F) := by
  have h := ef_lc (tt := tYes) (te := te) (fun _ => true) F hw hz hg (fun _ _ => et_yes) fun a ha _ => he a ha
  rw [List.filter_eq_self.mpr (fun _ _ => rfl)] at h
  exact h
/-! ### built-in calls -/
def rLen (K : PySem.W.Frag) : List V → Hp → VK → Prop := fun xs H Q => ∃ p ys, xs = [.ref p] ∧ (SqL K H p ys ∨ SqT K H p ys) ∧ Q (.int ys.length) H
def rListOf (K : PySem.W.Frag) : List V → Hp → VK → Prop := fun xs H Q => ∃ p ys, xs = [.ref p] ∧ (SqL K H p ys ∨ SqT K H p ys) ∧ ∀ l, H l = none → Q (.ref l) (upd H l (.lst ys))
def rTupleOf (K : PySem.W.Frag) : List V → Hp → VK → Prop := fun xs H Q => ∃ p ys, xs = [.ref p] ∧ ((SqL K H p ys ∧ ∀ l, H l = none → Q (.ref l) (upd H l (.tup ys))) ∨ (SqT K H p ys ∧ Q (.ref p) H))
theorem ca_lenT : CaD (rLen K) [.tuple ds] (.int ds.length) := fun av H vs l h0 Q q => by
  obtain ⟨v, rfl, h⟩ := da_one h0
  simp only [Da] at h
  obtain ⟨a, us, e, hp, r⟩ := h
  exact ⟨a, us, by rw [e], .inr (hp.sq), q _ H (Ex.refl H) (by simp [Da, r.length])⟩
theorem ca_lenL : CaD (rLen K) [.list ds] (.int ds.length) := fun av H vs l h0 Q q => by
  obtain ⟨v, rfl, h⟩ := da_one h0
  simp only [Da] at h
  obtain ⟨a, us, e, _, hp, r⟩ := h
  exact ⟨a, us, by rw [e], .inl (SqL.of hp), q _ H (Ex.refl H) (by simp [Da, r.length])⟩
theorem ca_tuple : CaD (rTupleOf K) [.list ds] (.tuple ds) := fun av H vs l h0 Q q => by
  obtain ⟨v, rfl, h⟩ := da_one h0
  simp only [Da] at h
  obtain ⟨a, us, e, _, hp, r⟩ := h
  exact ⟨a, us, by rw [e], .inl ⟨SqL.of hp, fun p ha => q _ _ (Ex.new ha) (da_new l ha r)⟩⟩
theorem ef_listT (h : EvA ta ss [.tuple ds]) : EvF (tCB (rListOf K) ta) ss ds := fun av H σ l f Q q => h av H σ l f _ fun vs H1 e1 h0 => by
  obtain ⟨v, rfl, h⟩ := da_one h0
  simp only [Da] at h
  obtain ⟨a, us, e, hp, r⟩ := h
  exact ⟨a, us, by rw [e], .inr (hp.sq), fun p ha => q p _ us (e1.trans (Ex.new ha)) (Evl.fresh_back e1 ha) upd_same ((Mv.avoid (Ex.new ha) ha).dal r)⟩
theorem ef_listL (h : EvA ta ss [.list ds]) : EvF (tCB (rListOf K) ta) ss ds := fun av H σ l f Q q => h av H σ l f _ fun vs H1 e1 h0 => by
  obtain ⟨v, rfl, h⟩ := da_one h0
  simp only [Da] at h
  obtain ⟨a, us, e, _, hp, r⟩ := h
  exact ⟨a, us, by rw [e], .inl (SqL.of hp), fun p ha => q p _ us (e1.trans (Ex.new ha)) (Evl.fresh_back e1 ha) upd_same ((Mv.avoid (Ex.new ha) ha).dal r)⟩
def rMin : List V → Hp → VK → Prop := fun xs H Q => ∃ i j, xs = [.int i, .int j] ∧ Q (.int (if j < i then j else i)) H
def rMax : List V → Hp → VK → Prop := fun xs H Q => ∃ i j, xs = [.int i, .int j] ∧ Q (.int (if j > i then j else i)) H
theorem ca_min {i j : Int} : CaD rMin [.int i, .int j] (.int (min i j)) := fun av H vs l h Q q => by
  obtain ⟨v, w, rfl, h1, h2⟩ := da_two h
  simp only [Da] at h1 h2
  refine ⟨i, j, by rw [h1, h2], q _ H (Ex.refl H) ?_⟩
  simp only [Da]
  congr 1
  by_cases hc : j < i
  · rw [if_pos hc]; omega
  · rw [if_neg hc]; omega
theorem ca_max {i j : Int} : CaD rMax [.int i, .int j] (.int (max i j)) := fun av H vs l h Q q => by
  obtain ⟨v, w, rfl, h1, h2⟩ := da_two h
  simp only [Da] at h1 h2
  refine ⟨i, j, by rw [h1, h2], q _ H (Ex.refl H) ?_⟩
  simp only [Da]
  congr 1
  by_cases hc : j > i
  · rw [if_pos hc]; omega
  · rw [if_neg hc]; omega
def rInt : List V → Hp → VK → Prop := fun xs H Q => (∃ i, xs = [.int i] ∧ Q (.int i) H) ∨ ∃ k, xs = [.bl k] ∧ Q (.int (if k then 1 else 0)) H
theorem ca_int {i : Int} : CaD rInt [.int i] (.int i) := fun av H vs l h0 Q q => by
  obtain ⟨v, rfl, h⟩ := da_one h0
  simp only [Da] at h
  exact .inl ⟨i, by rw [h], q _ H (Ex.refl H) (by simp [Da])⟩
/-- isinstance of data -/
def tyD : PyData → String
  | .none => "NoneType"
  | .bool _ => "bool"
  | .int _ => "int"
  | .str _ => "str"
  | .list _ => "list"
  | .tuple _ => "tuple"
  | .dict _ => "tuple"
theorem ca_isi {x : PyData} {T : String} {b : Bool} {ta tb : TE} (hx : EvP ta ss x) (hb : ∀ σ H (Q : VK), Q (.ty T) H → tb σ H Q) (hk : kitB (tyD x) T = some b) : EvP (tCB (rIsi K) (tCons ta (tCons tb tNil))) ss (.bool b) := fun av H σ l f Q q => by
  refine hx av H σ l f _ fun v H1 e r => hb σ H1 _ ?_
  have ty : TyX K H1 v (.type (tyD x)) := by
    cases x with
    | none => have e : v = .non := by simpa [Da] using r
              subst e; exact .base .non
    | bool b => have e : v = .bl b := by simpa [Da] using r
                subst e; exact .base (.bl b)
    | int i => have e : v = .int i := by simpa [Da] using r
               subst e; exact .base (.int i)
    | str s => have e : v = .str s := by simpa [Da] using r
               subst e; exact .base (.str s)
    | list ds =>
      simp only [Da] at r
      obtain ⟨a, us, e, _, hp, _⟩ := r
      subst e; exact .base (.lst hp)
    | tuple ds =>
      simp only [Da] at r
      obtain ⟨a, us, e, hp | ⟨o, hp⟩, _⟩ := r
      · subst e; exact .base (.tup hp)
      · subst e; exact .fTuple hp
    | dict ds =>
      simp only [Da] at r
      obtain ⟨_, a, _, _, e, hp, _⟩ := r
      subst e; exact .fTuple hp
  exact ⟨v, .ty T, .type (tyD x), .type T, b, rfl, .ty T, ty, kit_ty hk, q _ H1 e (by simp [Da])⟩
/-! ### slices, + of tuples, in -/
/-- a slice of data -/
def cutD (xs : List PyData) (lo hi : Option Int) : List PyData := (xs.drop (HT.sIx xs.length 0 lo)).take (HT.sIx xs.length xs.length hi - HT.sIx xs.length 0 lo)
theorem cut_da {av : Addr → Prop} {H : Hp} {us : List V} {lo hi : Option Int} (r : DaL av H ds us) : DaL av H (cutD ds lo hi) (cutV us lo hi) := by
  unfold cutD cutV
  rw [r.length]
  exact (r.drop _).take _
theorem sd_tup {lo hi : Option Int} : SlD (rSlA K) (.tuple ds) lo hi (.tuple (cutD ds lo hi)) := fun av H v l h Q q => by
  simp only [Da] at h
  obtain ⟨a, us, e, hp, r⟩ := h
  refine ⟨a, us, e, hp.sq, fun w => q _ H (Ex.refl H) ?_, fun w p ha => q _ _ (Ex.new ha) (da_new l ha (cut_da r))⟩
  have : cutV us lo hi = us := by
    unfold cutV
    rw [w.1, w.2]
    simp
  simp only [Da]
  refine ⟨a, us, rfl, hp, ?_⟩
  have k := cut_da (lo := lo) (hi := hi) r
  rw [this] at k
  exact k
theorem sd_lst {lo hi : Option Int} : SlD (rSlL K) (.list ds) lo hi (.list (cutD ds lo hi)) := fun av H v l h Q q => by
  simp only [Da] at h
  obtain ⟨a, us, e, _, hp, r⟩ := h
  exact ⟨a, us, e, SqL.of hp, fun p ha => q _ _ (Ex.new ha) (da_newL l ha (cut_da r))⟩
theorem od_catA {xs ys : List PyData} (hz : xs.length + ys.length ≤ 100000) : OpD (rCatA K) (.tuple xs) (.tuple ys) (.tuple (xs ++ ys)) := fun av H v w l a b Q q => by
  simp only [Da] at a b
  obtain ⟨p, vs, e, hp, r⟩ := a
  obtain ⟨p2, vs2, e2, hp2, r2⟩ := b
  refine ⟨p, p2, vs, vs2, e, e2, hp.sq, hp2.sq, Evl.sz_of (by rw [← r.length, ← r2.length]; exact hz), fun w => q _ H (Ex.refl H) ?_, fun _ w => q _ H (Ex.refl H) ?_, fun _ _ a ha => q _ _ (Ex.new ha) (da_new l ha (r.append r2))⟩
  · have : xs = [] := by
      have k := r.length
      rw [w] at k
      simpa using k
    simp only [Da]
    rw [this]
    exact ⟨p2, vs2, rfl, hp2, r2⟩
  · have : ys = [] := by
      have k := r2.length
      rw [w] at k
      simpa using k
    simp only [Da]
    rw [this, List.append_nil]
    exact ⟨p, vs, rfl, hp, r⟩
/-- x in t, irange -/
theorem inV_ints {k : Int} : ∀ {ns : List Int}, inV (.int k) (ns.map V.int) = ns.contains k
  | [] => rfl
  | n :: ns => by
    show (eqV (.int n) (.int k) || inV (.int k) (ns.map V.int)) = _
    rw [inV_ints, List.contains_cons]
    congr 1
    show (n == k) = (k == n)
    exact Bool.beq_comm
theorem flat_ints {ns : List Int} : (ns.map V.int).all flatV = true := by
  induction ns with
  | nil => rfl
  | cons n ns ih => simpa [flatV] using ih
theorem od_inT {k : Int} {ns : List Int} : OpD (rIn K false) (.int k) (.tuple (ns.map PyData.int)) (.bool (ns.contains k)) := fun av H v w l a b Q q => by
  simp only [Da] at a b
  obtain ⟨p, vs, e, hp, r⟩ := b
  have ev := r.ints_eq
  subst a ev
  refine ⟨p, _, e, .inr (hp.sq), rfl, flat_ints, q _ H (Ex.refl H) ?_⟩
  simp [Da, inV_ints]
/-- a text in a tuple of texts -/
theorem od_inS {s : Str} {zs : List Str} : OpD (rIn K false) (.str s) (.tuple (zs.map PyData.str)) (.bool (zs.any fun z => decide (z = s))) := fun av H v w l a b Q q => by
  simp only [Da] at a b
  obtain ⟨p, vs, e, hp, r⟩ := b
  have ev : ∀ {zs : List Str} {vs : List V}, DaL av H (zs.map PyData.str) vs → vs = zs.map V.str := by
    intro zs
    induction zs with
    | nil => intro vs h; cases vs with
      | nil => rfl
      | cons => simp [DaL] at h
    | cons z zs ih => intro vs h; cases vs with
      | nil => simp [DaL] at h
      | cons v vs =>
        simp only [List.map_cons, DaL, Da] at h
        rw [h.1, ih h.2]
        rfl
  have e2 := ev r
  subst a e2
  refine ⟨p, _, e, .inr (hp.sq), rfl, ?_, q _ H (Ex.refl H) ?_⟩
  · induction zs with
    | nil => rfl
    | cons z zs ih => simp [flatV]
  · simp only [Da, Bool.false_eq_true, if_false]
    congr 1
    unfold inV
    rw [List.any_map]
    congr 1
end
/-- a letter tuple is a tuple -/
theorem da_lt {av : Addr → Prop} {H : Hp} {ns : List Int} {v : V} (h : Da av H (ltD ns) v) : Da av H (.tuple (ns.map .int)) v := by
  simp only [Da, ltD] at h ⊢
  obtain ⟨ms, a, o, e, ev, hp, _⟩ := h
  have e2 : ns = ms := by
    have e3 : ns.map PyData.int = ms.map PyData.int := by simpa using e
    exact (List.map_inj_right (fun _ _ z => PyData.int.inj z)).mp e3
  subst e2
  exact ⟨a, _, ev, .inr ⟨o, hp⟩, DaL.ints⟩
theorem ep_lt {te : TE} {ss : List Slot} {ns : List Int} (h : EvP te ss (ltD ns)) : EvP te ss (.tuple (ns.map .int)) := fun av H σ l f Q q => h av H σ l f Q fun v H2 e r => q v H2 e (da_lt r)
/-! ### a def by its body -/
theorem fits_start {A : Addr → Prop} {H : Hp} : ∀ {ds : List PyData} {vs : List V} {k : Nat}, DaL A H ds vs → Fits A H (vs.map some ++ List.replicate k none) (ds.map Slot.d ++ List.replicate k .non)
  | [], [], k, _ => by
    show Fits A H (List.replicate k none) (List.replicate k .non)
    induction k with
    | zero => trivial
    | succ k ih => exact ⟨trivial, ih⟩
  | [], _ :: _, _, h => by simp [DaL] at h
  | _ :: _, [], _, h => by simp [DaL] at h
  | d :: ds, v :: vs, k, h => by
    simp only [DaL] at h
    exact ⟨⟨v, rfl, h.1⟩, fits_start h.2⟩
theorem owns_start : ∀ (ds : List PyData) (k : Nat), owns (ds.map Slot.d ++ List.replicate k .non) = []
  | [], 0 => rfl
  | [], k + 1 => owns_start [] k
  | _ :: ds, k => owns_start ds k
/-- a frame that starts -/
theorem sl_start {N : List Str} {A : Addr → Prop} {k : L2.WX} {ds : List PyData} {vs : List V} {H : Hp} (l : Live A H) (d : DaL A H ds vs) : Sl ((Wd.pure A).wish k) 0 H (L2.start N vs) (ds.map Slot.d ++ List.replicate (N.length - ds.length) .non) := by
  have ow := owns_start ds (N.length - ds.length)
  refine ⟨?_, by rw [ow]; exact List.nodup_nil, fun p hp => by rw [ow] at hp; simp at hp, l⟩
  rw [ow]
  unfold L2.start
  rw [← d.length]
  exact (fits_start d).map' fun j o s _ f => fit_mv (.weak fun a z => z.elim id fun w => by simp at w) (fun _ _ _ _ q => q) f
/-- the promise of plain data, by the body's run -/
theorem pure_of {N : List Str} {ts : TS} {R : List PyData → PyData → Prop} {vs : List V} {H : Hp} {Q : VK} {E : XK} (h : SpP R vs H Q E)
    (run : ∀ (W : Wd) n ds r, R ds r → RunS W ts n (ds.map Slot.d ++ List.replicate (N.length - ds.length) .non) (fun o => o = .rt n r)) : ts { nx := fun _ H' => Q .non H', rt := Q } (L2.start N vs) H := by
  obtain ⟨A, ds, r, l, d, hr, q⟩ := h
  have ow := owns_start ds (N.length - ds.length)
  refine run ((Wd.pure A).wish fun _ _ _ _ => False) 0 ds r hr _ H _ (sl_start l d) ⟨fun n' ss' H' σ' p => (nomatch p), fun n' ss' H' σ' p => (nomatch p), fun n' ss' H' σ' p => (nomatch p), fun n' d' v H' p t ok r' => ?_, fun n' ss' c cls d H' σ' p => (nomatch p)⟩
  injection p with e1 e2
  subst e2
  rw [ow] at t
  exact q v H' t.ex r'
/-! ### promises with exceptions -/
inductive Rs where
  | val (d : PyData)
  | exc (c : Xc)
/-- what a def of plain data promises that may raise -/
def SpX (R : List PyData → Rs → Prop) : Sp := fun vs H Q E => ∃ (A : Addr → Prop) (ds : List PyData) (r : Rs), Live A H ∧ DaL A H ds vs ∧ R ds r ∧ match r with
  | .val d => ∀ v H', Ex H H' → Da A H' d v → Q v H'
  | .exc c => ∀ cls d H', Ex H H' → XcIs A H' c cls d → E cls d H'
def rsOut (n : Nat) : Rs → Out → Prop
  | .val d, o => o = .rt n d
  | .exc c, o => ∃ ss', o = .xc n ss' c
theorem XcIs.weak {av av' : Addr → Prop} {H : Hp} {c : Xc} {cls : Value} {d : Option Addr} (s : ∀ a, av' a → av a) (x : XcIs av H c cls d) : XcIs av' H c cls d := by
  obtain ⟨e, dd, fs, v, e1, e2, e3, r⟩ := x
  exact ⟨e, dd, fs, v, e1, e2, e3, r.weak s⟩
theorem pureX_of {N : List Str} {ts : L2.WX → TS} {R : List PyData → Rs → Prop} {vs : List V} {H : Hp} {Q : VK} {E : XK} (h : SpX R vs H Q E)
    (run : ∀ (W : Wd) n ds r, R ds r → RunS W (ts W.xk) n (ds.map Slot.d ++ List.replicate (N.length - ds.length) .non) (rsOut n r)) : ts (fun cls d _ H' => E cls d H') { nx := fun _ H' => Q .non H', rt := Q } (L2.start N vs) H := by
  obtain ⟨A, ds, r, l, d, hr, q⟩ := h
  have ow := owns_start ds (N.length - ds.length)
  refine run ((Wd.pure A).wish fun cls d _ H' => E cls d H') 0 ds r hr _ H _ (sl_start l d) ⟨fun n' ss' H' σ' p => ?_, fun n' ss' H' σ' p => ?_, fun n' ss' H' σ' p => ?_, fun n' d' v H' p t ok r' => ?_, fun n' ss' c cls d' H' σ' p t f s x => ?_⟩
  · cases r with
    | val d => cases p
    | exc c => obtain ⟨_, p⟩ := p; cases p
  · cases r with
    | val d => cases p
    | exc c => obtain ⟨_, p⟩ := p; cases p
  · cases r with
    | val d => cases p
    | exc c => obtain ⟨_, p⟩ := p; cases p
  · cases r with
    | val d =>
      injection (show Out.rt n' d' = Out.rt 0 d from p) with e1 e2
      subst e2
      rw [ow] at t
      exact q v H' t.ex r'
    | exc c => obtain ⟨_, p⟩ := p; cases p
  · cases r with
    | val d => cases p
    | exc c0 =>
      obtain ⟨_, p⟩ := p
      injection p with e1 e2 e3
      subst e3
      rw [ow] at t
      exact q cls d' H' t.ex (x.weak fun a z => .inl z)
end Uh

set_option Elab.async false
set_option linter.all false
set_option maxRecDepth 100000
set_option maxHeartbeats 1000000
/-! Tables as data. -/
namespace Uh
open PySem L2
open Evl (Ex)
abbrev Row := List Int
abbrev Tab := List (List Int)
def rowD (r : Row) : PyData := .tuple (r.map .int)
def tabD (T : Tab) : PyData := .tuple (T.map rowD)
theorem at_nat {α : Type} {xs : List α} {j : Nat} {x : α} (h : xs[j]? = some x) : atI xs (j : Int) = some x := L2.atI_nat h
theorem at_row {r : Row} {c : Nat} (h : c < r.length) : atI (r.map PyData.int) (c : Int) = some (.int (r.getD c 0)) := by
  refine at_nat ?_
  simp [List.getD, h]
theorem at_tab {T : Tab} {c : Nat} (h : c < T.length) : atI (T.map rowD) (c : Int) = some (rowD (T.getD c [])) := by
  refine at_nat ?_
  simp [List.getD, h]
theorem kit_int (x : PyData) : kitB (tyD x) "int" = some (match x with | .int _ => true | .bool _ => true | _ => false) := by
  cases x with
  | none => exact (by decide +kernel : kitB "NoneType" "int" = some false)
  | bool b => exact (by decide +kernel : kitB "bool" "int" = some true)
  | int i => exact (by decide +kernel : kitB "int" "int" = some true)
  | str s => exact (by decide +kernel : kitB "str" "int" = some false)
  | list l => exact (by decide +kernel : kitB "list" "int" = some false)
  | tuple l => exact (by decide +kernel : kitB "tuple" "int" = some false)
  | dict l => exact (by decide +kernel : kitB "tuple" "int" = some false)
theorem kit_bool (x : PyData) : kitB (tyD x) "bool" = some (match x with | .bool _ => true | _ => false) := by
  cases x with
  | none => exact (by decide +kernel : kitB "NoneType" "bool" = some false)
  | bool b => exact (by decide +kernel : kitB "bool" "bool" = some true)
  | int i => exact (by decide +kernel : kitB "int" "bool" = some false)
  | str s => exact (by decide +kernel : kitB "str" "bool" = some false)
  | list l => exact (by decide +kernel : kitB "list" "bool" = some false)
  | tuple l => exact (by decide +kernel : kitB "tuple" "bool" = some false)
  | dict l => exact (by decide +kernel : kitB "tuple" "bool" = some false)
theorem kit_tuple (x : PyData) : kitB (tyD x) "tuple" = some (match x with | .tuple _ => true | .dict _ => true | _ => false) := by
  cases x with
  | none => exact (by decide +kernel : kitB "NoneType" "tuple" = some false)
  | bool b => exact (by decide +kernel : kitB "bool" "tuple" = some false)
  | int i => exact (by decide +kernel : kitB "int" "tuple" = some false)
  | str s => exact (by decide +kernel : kitB "str" "tuple" = some false)
  | list l => exact (by decide +kernel : kitB "list" "tuple" = some false)
  | tuple l => exact (by decide +kernel : kitB "tuple" "tuple" = some true)
  | dict l => exact (by decide +kernel : kitB "tuple" "tuple" = some true)
theorem kit_str (x : PyData) : kitB (tyD x) "str" = some (match x with | .str _ => true | _ => false) := by
  cases x with
  | none => exact (by decide +kernel : kitB "NoneType" "str" = some false)
  | bool b => exact (by decide +kernel : kitB "bool" "str" = some false)
  | int i => exact (by decide +kernel : kitB "int" "str" = some false)
  | str s => exact (by decide +kernel : kitB "str" "str" = some true)
  | list l => exact (by decide +kernel : kitB "list" "str" = some false)
  | tuple l => exact (by decide +kernel : kitB "tuple" "str" = some false)
  | dict l => exact (by decide +kernel : kitB "tuple" "str" = some false)
theorem ev_ty {T : String} : ∀ (σ : L2.St) (H : Hp) (Q : VK), Q (.ty T) H → (tC (.ty T)) σ H Q := fun _ _ _ h => h
theorem spP_len {R : List PyData → PyData → Prop} {n : Nat} {vs : List V} {H : Hp} {Q : VK} {E : XK} (h : SpP R vs H Q E) (k : ∀ ds r, R ds r → ds.length = n) : vs.length = n := by
  obtain ⟨A, ds, r, _, d, hr, _⟩ := h
  rw [← d.length, k ds r hr]
end Uh

set_option Elab.async false
set_option linter.all false
set_option maxRecDepth 100000
set_option maxHeartbeats 1000000
/-! The text's facts by name. -/
namespace Uh
open PySem PySem.Spec PyProof.Rows L2
structure Tx (K : PySem.W.Frag) (mg : Str → Option Value) : Prop where
  says : obsK K = valU
  mgs : ∀ x v, PySem.W.nsIn K mainGlobals x = some (some v) → mg x = some v
  mgn : ∀ x, PySem.W.nsIn K mainGlobals x = some none → mg x = none
namespace Tx
variable {K : PySem.W.Frag} {mg : Str → Option Value} (T : Tx K mg)
include T
theorem sd : He.SaysD fa fn K := congrArg Prod.fst T.says
theorem ex_ : ex K = true := congrArg Prod.snd T.says
theorem fact (i : Nat) {f : He.Fa} (h : fa[i]? = some f) : f.ok K = true := T.sd.fact i h
theorem glo (i : Nat) {x : Str} (h : fa[i]? = some (.glo x)) : mg x = some (.ref (He.ga K x)) := T.mgs _ _ (He.eqO_ok (T.fact i h))
theorem fre (i : Nat) {x : Str} (h : fa[i]? = some (.free x)) : mg x = none := T.mgn _ (He.eqO_ok (T.fact i h))
theorem intc (i : Nat) {x : Str} {v : Int} (h : fa[i]? = some (.int x v)) : ∃ t, mg x = some (.int v t) := by
  have c2 : (match PySem.W.nsIn K mainGlobals x with
    | some (some (.int j _)) => decide (j = v)
    | _ => false) = true := T.fact i h
  split at c2
  · rename_i j t e
    have ej : j = v := of_decide_eq_true c2
    exact ⟨t, by rw [← ej]; exact T.mgs _ _ e⟩
  · cases c2
theorem g_is_from : mg "is_from" = some (.ref (He.ga K "is_from")) := T.glo 0 rfl
theorem g_need_many : mg "need_many" = some (.ref (He.ga K "need_many")) := T.glo 1 rfl
theorem g_need_pair : mg "need_pair" = some (.ref (He.ga K "need_pair")) := T.glo 2 rfl
theorem g_part_places : mg "part_places" = some (.ref (He.ga K "part_places")) := T.glo 3 rfl
theorem g_walked : mg "walked" = some (.ref (He.ga K "walked")) := T.glo 4 rfl
theorem g_marks_of : mg "marks_of" = some (.ref (He.ga K "marks_of")) := T.glo 5 rfl
theorem g_width_of : mg "width_of" = some (.ref (He.ga K "width_of")) := T.glo 6 rfl
theorem g_choices : mg "choices" = some (.ref (He.ga K "choices")) := T.glo 7 rfl
theorem g_bare_size : mg "bare_size" = some (.ref (He.ga K "bare_size")) := T.glo 8 rfl
theorem g_size_of : mg "size_of" = some (.ref (He.ga K "size_of")) := T.glo 9 rfl
theorem g_need_sort : mg "need_sort" = some (.ref (He.ga K "need_sort")) := T.glo 10 rfl
theorem g_rising : mg "rising" = some (.ref (He.ga K "rising")) := T.glo 11 rfl
theorem g_all_like : mg "all_like" = some (.ref (He.ga K "all_like")) := T.glo 12 rfl
theorem g_member_like : mg "member_like" = some (.ref (He.ga K "member_like")) := T.glo 13 rfl
theorem g_is_member : mg "is_member" = some (.ref (He.ga K "is_member")) := T.glo 14 rfl
theorem g_need_member : mg "need_member" = some (.ref (He.ga K "need_member")) := T.glo 15 rfl
theorem g_in_stead : mg "in_stead" = some (.ref (He.ga K "in_stead")) := T.glo 16 rfl
theorem g_name_places : mg "name_places" = some (.ref (He.ga K "name_places")) := T.glo 17 rfl
theorem g_places : mg "places" = some (.ref (He.ga K "places")) := T.glo 18 rfl
theorem g_free_numbers : mg "free_numbers" = some (.ref (He.ga K "free_numbers")) := T.glo 19 rfl
theorem g_moved_readings : mg "moved_readings" = some (.ref (He.ga K "moved_readings")) := T.glo 20 rfl
theorem g_need_two : mg "need_two" = some (.ref (He.ga K "need_two")) := T.glo 21 rfl
theorem g_transfer : mg "transfer" = some (.ref (He.ga K "transfer")) := T.glo 22 rfl
theorem g_is_side : mg "is_side" = some (.ref (He.ga K "is_side")) := T.glo 23 rfl
theorem g_is_item : mg "is_item" = some (.ref (He.ga K "is_item")) := T.glo 24 rfl
theorem g_is_table_row : mg "is_table_row" = some (.ref (He.ga K "is_table_row")) := T.glo 25 rfl
theorem g_need_table : mg "need_table" = some (.ref (He.ga K "need_table")) := T.glo 26 rfl
theorem g_column_items : mg "column_items" = some (.ref (He.ga K "column_items")) := T.glo 27 rfl
theorem g_paired : mg "paired" = some (.ref (He.ga K "paired")) := T.glo 28 rfl
theorem g_sort_of : mg "sort_of" = some (.ref (He.ga K "sort_of")) := T.glo 29 rfl
theorem g_member_of : mg "member_of" = some (.ref (He.ga K "member_of")) := T.glo 30 rfl
theorem g_table_of : mg "table_of" = some (.ref (He.ga K "table_of")) := T.glo 31 rfl
theorem g_quarter_rows : mg "quarter_rows" = some (.ref (He.ga K "quarter_rows")) := T.glo 32 rfl
theorem g_quarter_rows_back : mg "quarter_rows_back" = some (.ref (He.ga K "quarter_rows_back")) := T.glo 33 rfl
theorem g_transposed_rows : mg "transposed_rows" = some (.ref (He.ga K "transposed_rows")) := T.glo 34 rfl
theorem g_crossed : mg "crossed" = some (.ref (He.ga K "crossed")) := T.glo 35 rfl
theorem g_crossed_back : mg "crossed_back" = some (.ref (He.ga K "crossed_back")) := T.glo 36 rfl
theorem g_moved_tables : mg "moved_tables" = some (.ref (He.ga K "moved_tables")) := T.glo 37 rfl
theorem g_way_up : mg "way_up" = some (.ref (He.ga K "way_up")) := T.glo 38 rfl
theorem g_up_names : mg "up_names" = some (.ref (He.ga K "up_names")) := T.glo 39 rfl
theorem g_up_columns : mg "up_columns" = some (.ref (He.ga K "up_columns")) := T.glo 40 rfl
theorem g_names_root : mg "names_root" = some (.ref (He.ga K "names_root")) := T.glo 41 rfl
theorem g_columns_root : mg "columns_root" = some (.ref (He.ga K "columns_root")) := T.glo 42 rfl
theorem g_corner : mg "corner" = some (.ref (He.ga K "corner")) := T.glo 43 rfl
theorem g_is_corner : mg "is_corner" = some (.ref (He.ga K "is_corner")) := T.glo 44 rfl
theorem g_l_mixed : mg "_law_mixed" = some (.ref (He.ga K "_law_mixed")) := T.glo 45 rfl
theorem g_l_begin : mg "_law_begin" = some (.ref (He.ga K "_law_begin")) := T.glo 46 rfl
theorem g_l_draw : mg "_law_draw" = some (.ref (He.ga K "_law_draw")) := T.glo 47 rfl
theorem g_l_of : mg "_law_of" = some (.ref (He.ga K "_law_of")) := T.glo 48 rfl
theorem g_l_like : mg "_law_like" = some (.ref (He.ga K "_law_like")) := T.glo 49 rfl
theorem g_l_spots : mg "_law_spots" = some (.ref (He.ga K "_law_spots")) := T.glo 50 rfl
theorem g_l_loose : mg "_law_loose" = some (.ref (He.ga K "_law_loose")) := T.glo 51 rfl
theorem g_l_moved : mg "_law_moved" = some (.ref (He.ga K "_law_moved")) := T.glo 52 rfl
theorem g_l_step : mg "_law_step" = some (.ref (He.ga K "_law_step")) := T.glo 53 rfl
theorem g_l_backs : mg "_law_backs" = some (.ref (He.ga K "_law_backs")) := T.glo 54 rfl
theorem g_l_end : mg "_law_end" = some (.ref (He.ga K "_law_end")) := T.glo 55 rfl
theorem g_l_table : mg "_law_table" = some (.ref (He.ga K "_law_table")) := T.glo 56 rfl
theorem g_l_fault : mg "_law_fault" = some (.ref (He.ga K "_law_fault")) := T.glo 57 rfl
theorem g_l_bent : mg "_law_bent" = some (.ref (He.ga K "_law_bent")) := T.glo 58 rfl
theorem g_l_formed : mg "_law_formed" = some (.ref (He.ga K "_law_formed")) := T.glo 59 rfl
theorem g_l_asked : mg "_law_asked" = some (.ref (He.ga K "_law_asked")) := T.glo 60 rfl
theorem g_l_right : mg "_law_right" = some (.ref (He.ga K "_law_right")) := T.glo 61 rfl
theorem g_l_refused : mg "_law_refused" = some (.ref (He.ga K "_law_refused")) := T.glo 62 rfl
theorem g_law : mg "law" = some (.ref (He.ga K "law")) := T.glo 63 rfl
theorem g_TooGreat : mg "TooGreat" = some (.ref (He.ga K "TooGreat")) := T.glo 64 rfl
theorem g_NoFree : mg "NoFree" = some (.ref (He.ga K "NoFree")) := T.glo 65 rfl
theorem g_BadTable : mg "BadTable" = some (.ref (He.ga K "BadTable")) := T.glo 66 rfl
theorem g_UnitError : mg "UnitError" = some (.ref (He.ga K "UnitError")) := T.glo 67 rfl
theorem f_len : mg "len" = none := T.fre 68 rfl
theorem f_range : mg "range" = none := T.fre 69 rfl
theorem f_tuple : mg "tuple" = none := T.fre 70 rfl
theorem f_list : mg "list" = none := T.fre 71 rfl
theorem f_isinstance : mg "isinstance" = none := T.fre 72 rfl
theorem f_int : mg "int" = none := T.fre 73 rfl
theorem f_bool : mg "bool" = none := T.fre 74 rfl
theorem f_str : mg "str" = none := T.fre 75 rfl
theorem f_sum : mg "sum" = none := T.fre 76 rfl
theorem f_max : mg "max" = none := T.fre 77 rfl
theorem f_min : mg "min" = none := T.fre 78 rfl
theorem f_enumerate : mg "enumerate" = none := T.fre 79 rfl
theorem f_zip : mg "zip" = none := T.fre 80 rfl
theorem f_reversed : mg "reversed" = none := T.fre 81 rfl
theorem f_sorted : mg "sorted" = none := T.fre 82 rfl
theorem f_repr : mg "repr" = none := T.fre 83 rfl
theorem m_MOST_DEEP : ∃ t, mg "MOST_DEEP" = some (.int 10 t) := T.intc 84 rfl
theorem m_MOST_PARTS : ∃ t, mg "MOST_PARTS" = some (.int 60 t) := T.intc 85 rfl
theorem m_MOST_MARKS_sorts : ∃ t, mg "MOST_MARKS_sorts" = some (.int 12 t) := T.intc 86 rfl
theorem m_MOST_WIDTH : ∃ t, mg "MOST_WIDTH" = some (.int 40 t) := T.intc 87 rfl
theorem m_MOST_MEMBERS : ∃ t, mg "MOST_MEMBERS" = some (.int 1000000000000000000000000000000 t) := T.intc 88 rfl
theorem m_MOST_NUMBER : ∃ t, mg "MOST_NUMBER" = some (.int 12 t) := T.intc 89 rfl
theorem m_LEAST_SIDE : ∃ t, mg "LEAST_SIDE" = some (.int 2 t) := T.intc 90 rfl
theorem m_MOST_SIDE : ∃ t, mg "MOST_SIDE" = some (.int 5 t) := T.intc 91 rfl
theorem m_MOST_MARKS_tables : ∃ t, mg "MOST_MARKS_tables" = some (.int 12 t) := T.intc 92 rfl
theorem d_is_from : ∃ fd, FnP K "is_from" "is_from" s_is_from (He.ga K "is_from") fd := T.sd.def_ 0 (d := Uh.d_is_from) rfl
theorem k_is_from : PySem.W.keepIn K (.ref (He.ga K "is_from")) = true := (T.d_is_from).choose_spec.kp
theorem d_need_many : ∃ fd, FnP K "need_many" "need_many" s_need_many (He.ga K "need_many") fd := T.sd.def_ 1 (d := Uh.d_need_many) rfl
theorem k_need_many : PySem.W.keepIn K (.ref (He.ga K "need_many")) = true := (T.d_need_many).choose_spec.kp
theorem d_need_pair : ∃ fd, FnP K "need_pair" "need_pair" s_need_pair (He.ga K "need_pair") fd := T.sd.def_ 2 (d := Uh.d_need_pair) rfl
theorem k_need_pair : PySem.W.keepIn K (.ref (He.ga K "need_pair")) = true := (T.d_need_pair).choose_spec.kp
theorem d_part_places : ∃ fd, FnP K "part_places" "part_places" s_part_places (He.ga K "part_places") fd := T.sd.def_ 3 (d := Uh.d_part_places) rfl
theorem k_part_places : PySem.W.keepIn K (.ref (He.ga K "part_places")) = true := (T.d_part_places).choose_spec.kp
theorem d_walked : ∃ fd, FnP K "walked" "walked" s_walked (He.ga K "walked") fd := T.sd.def_ 4 (d := Uh.d_walked) rfl
theorem k_walked : PySem.W.keepIn K (.ref (He.ga K "walked")) = true := (T.d_walked).choose_spec.kp
theorem d_marks_of : ∃ fd, FnP K "marks_of" "marks_of" s_marks_of (He.ga K "marks_of") fd := T.sd.def_ 5 (d := Uh.d_marks_of) rfl
theorem k_marks_of : PySem.W.keepIn K (.ref (He.ga K "marks_of")) = true := (T.d_marks_of).choose_spec.kp
theorem d_width_of : ∃ fd, FnP K "width_of" "width_of" s_width_of (He.ga K "width_of") fd := T.sd.def_ 6 (d := Uh.d_width_of) rfl
theorem k_width_of : PySem.W.keepIn K (.ref (He.ga K "width_of")) = true := (T.d_width_of).choose_spec.kp
theorem d_choices : ∃ fd, FnP K "choices" "choices" s_choices (He.ga K "choices") fd := T.sd.def_ 7 (d := Uh.d_choices) rfl
theorem k_choices : PySem.W.keepIn K (.ref (He.ga K "choices")) = true := (T.d_choices).choose_spec.kp
theorem d_bare_size : ∃ fd, FnP K "bare_size" "bare_size" s_bare_size (He.ga K "bare_size") fd := T.sd.def_ 8 (d := Uh.d_bare_size) rfl
theorem k_bare_size : PySem.W.keepIn K (.ref (He.ga K "bare_size")) = true := (T.d_bare_size).choose_spec.kp
theorem d_size_of : ∃ fd, FnP K "size_of" "size_of" s_size_of (He.ga K "size_of") fd := T.sd.def_ 9 (d := Uh.d_size_of) rfl
theorem k_size_of : PySem.W.keepIn K (.ref (He.ga K "size_of")) = true := (T.d_size_of).choose_spec.kp
theorem d_need_sort : ∃ fd, FnP K "need_sort" "need_sort" s_need_sort (He.ga K "need_sort") fd := T.sd.def_ 10 (d := Uh.d_need_sort) rfl
theorem k_need_sort : PySem.W.keepIn K (.ref (He.ga K "need_sort")) = true := (T.d_need_sort).choose_spec.kp
theorem d_rising : ∃ fd, FnP K "rising" "rising" s_rising (He.ga K "rising") fd := T.sd.def_ 11 (d := Uh.d_rising) rfl
theorem k_rising : PySem.W.keepIn K (.ref (He.ga K "rising")) = true := (T.d_rising).choose_spec.kp
theorem d_all_like : ∃ fd, FnP K "all_like" "all_like" s_all_like (He.ga K "all_like") fd := T.sd.def_ 12 (d := Uh.d_all_like) rfl
theorem k_all_like : PySem.W.keepIn K (.ref (He.ga K "all_like")) = true := (T.d_all_like).choose_spec.kp
theorem d_member_like : ∃ fd, FnP K "member_like" "member_like" s_member_like (He.ga K "member_like") fd := T.sd.def_ 13 (d := Uh.d_member_like) rfl
theorem k_member_like : PySem.W.keepIn K (.ref (He.ga K "member_like")) = true := (T.d_member_like).choose_spec.kp
theorem d_is_member : ∃ fd, FnP K "is_member" "is_member" s_is_member (He.ga K "is_member") fd := T.sd.def_ 14 (d := Uh.d_is_member) rfl
theorem k_is_member : PySem.W.keepIn K (.ref (He.ga K "is_member")) = true := (T.d_is_member).choose_spec.kp
theorem d_need_member : ∃ fd, FnP K "need_member" "need_member" s_need_member (He.ga K "need_member") fd := T.sd.def_ 15 (d := Uh.d_need_member) rfl
theorem k_need_member : PySem.W.keepIn K (.ref (He.ga K "need_member")) = true := (T.d_need_member).choose_spec.kp
theorem d_in_stead : ∃ fd, FnP K "in_stead" "in_stead" s_in_stead (He.ga K "in_stead") fd := T.sd.def_ 16 (d := Uh.d_in_stead) rfl
theorem k_in_stead : PySem.W.keepIn K (.ref (He.ga K "in_stead")) = true := (T.d_in_stead).choose_spec.kp
theorem d_name_places : ∃ fd, FnP K "name_places" "name_places" s_name_places (He.ga K "name_places") fd := T.sd.def_ 17 (d := Uh.d_name_places) rfl
theorem k_name_places : PySem.W.keepIn K (.ref (He.ga K "name_places")) = true := (T.d_name_places).choose_spec.kp
theorem d_places : ∃ fd, FnP K "places" "places" s_places (He.ga K "places") fd := T.sd.def_ 18 (d := Uh.d_places) rfl
theorem k_places : PySem.W.keepIn K (.ref (He.ga K "places")) = true := (T.d_places).choose_spec.kp
theorem d_free_numbers : ∃ fd, FnP K "free_numbers" "free_numbers" s_free_numbers (He.ga K "free_numbers") fd := T.sd.def_ 19 (d := Uh.d_free_numbers) rfl
theorem k_free_numbers : PySem.W.keepIn K (.ref (He.ga K "free_numbers")) = true := (T.d_free_numbers).choose_spec.kp
theorem d_moved_readings : ∃ fd, FnP K "moved" "moved" s_moved_readings (He.ga K "moved_readings") fd := T.sd.def_ 20 (d := Uh.d_moved_readings) rfl
theorem k_moved_readings : PySem.W.keepIn K (.ref (He.ga K "moved_readings")) = true := (T.d_moved_readings).choose_spec.kp
theorem d_need_two : ∃ fd, FnP K "need_two" "need_two" s_need_two (He.ga K "need_two") fd := T.sd.def_ 21 (d := Uh.d_need_two) rfl
theorem k_need_two : PySem.W.keepIn K (.ref (He.ga K "need_two")) = true := (T.d_need_two).choose_spec.kp
theorem d_transfer : ∃ fd, FnP K "transfer" "transfer" s_transfer (He.ga K "transfer") fd := T.sd.def_ 22 (d := Uh.d_transfer) rfl
theorem k_transfer : PySem.W.keepIn K (.ref (He.ga K "transfer")) = true := (T.d_transfer).choose_spec.kp
theorem d_is_side : ∃ fd, FnP K "is_side" "is_side" s_is_side (He.ga K "is_side") fd := T.sd.def_ 23 (d := Uh.d_is_side) rfl
theorem k_is_side : PySem.W.keepIn K (.ref (He.ga K "is_side")) = true := (T.d_is_side).choose_spec.kp
theorem d_is_item : ∃ fd, FnP K "is_item" "is_item" s_is_item (He.ga K "is_item") fd := T.sd.def_ 24 (d := Uh.d_is_item) rfl
theorem k_is_item : PySem.W.keepIn K (.ref (He.ga K "is_item")) = true := (T.d_is_item).choose_spec.kp
theorem d_is_table_row : ∃ fd, FnP K "is_table_row" "is_table_row" s_is_table_row (He.ga K "is_table_row") fd := T.sd.def_ 25 (d := Uh.d_is_table_row) rfl
theorem k_is_table_row : PySem.W.keepIn K (.ref (He.ga K "is_table_row")) = true := (T.d_is_table_row).choose_spec.kp
theorem d_need_table : ∃ fd, FnP K "need_table" "need_table" s_need_table (He.ga K "need_table") fd := T.sd.def_ 26 (d := Uh.d_need_table) rfl
theorem k_need_table : PySem.W.keepIn K (.ref (He.ga K "need_table")) = true := (T.d_need_table).choose_spec.kp
theorem d_column_items : ∃ fd, FnP K "column_items" "column_items" s_column_items (He.ga K "column_items") fd := T.sd.def_ 27 (d := Uh.d_column_items) rfl
theorem k_column_items : PySem.W.keepIn K (.ref (He.ga K "column_items")) = true := (T.d_column_items).choose_spec.kp
theorem d_paired : ∃ fd, FnP K "paired" "paired" s_paired (He.ga K "paired") fd := T.sd.def_ 28 (d := Uh.d_paired) rfl
theorem k_paired : PySem.W.keepIn K (.ref (He.ga K "paired")) = true := (T.d_paired).choose_spec.kp
theorem d_sort_of : ∃ fd, FnP K "sort_of" "sort_of" s_sort_of (He.ga K "sort_of") fd := T.sd.def_ 29 (d := Uh.d_sort_of) rfl
theorem k_sort_of : PySem.W.keepIn K (.ref (He.ga K "sort_of")) = true := (T.d_sort_of).choose_spec.kp
theorem d_member_of : ∃ fd, FnP K "member_of" "member_of" s_member_of (He.ga K "member_of") fd := T.sd.def_ 30 (d := Uh.d_member_of) rfl
theorem k_member_of : PySem.W.keepIn K (.ref (He.ga K "member_of")) = true := (T.d_member_of).choose_spec.kp
theorem d_table_of : ∃ fd, FnP K "table_of" "table_of" s_table_of (He.ga K "table_of") fd := T.sd.def_ 31 (d := Uh.d_table_of) rfl
theorem k_table_of : PySem.W.keepIn K (.ref (He.ga K "table_of")) = true := (T.d_table_of).choose_spec.kp
theorem d_quarter_rows : ∃ fd, FnP K "quarter_rows" "quarter_rows" s_quarter_rows (He.ga K "quarter_rows") fd := T.sd.def_ 32 (d := Uh.d_quarter_rows) rfl
theorem k_quarter_rows : PySem.W.keepIn K (.ref (He.ga K "quarter_rows")) = true := (T.d_quarter_rows).choose_spec.kp
theorem d_quarter_rows_back : ∃ fd, FnP K "quarter_rows_back" "quarter_rows_back" s_quarter_rows_back (He.ga K "quarter_rows_back") fd := T.sd.def_ 33 (d := Uh.d_quarter_rows_back) rfl
theorem k_quarter_rows_back : PySem.W.keepIn K (.ref (He.ga K "quarter_rows_back")) = true := (T.d_quarter_rows_back).choose_spec.kp
theorem d_transposed_rows : ∃ fd, FnP K "transposed_rows" "transposed_rows" s_transposed_rows (He.ga K "transposed_rows") fd := T.sd.def_ 34 (d := Uh.d_transposed_rows) rfl
theorem k_transposed_rows : PySem.W.keepIn K (.ref (He.ga K "transposed_rows")) = true := (T.d_transposed_rows).choose_spec.kp
theorem d_crossed : ∃ fd, FnP K "crossed" "crossed" s_crossed (He.ga K "crossed") fd := T.sd.def_ 35 (d := Uh.d_crossed) rfl
theorem k_crossed : PySem.W.keepIn K (.ref (He.ga K "crossed")) = true := (T.d_crossed).choose_spec.kp
theorem d_crossed_back : ∃ fd, FnP K "crossed_back" "crossed_back" s_crossed_back (He.ga K "crossed_back") fd := T.sd.def_ 36 (d := Uh.d_crossed_back) rfl
theorem k_crossed_back : PySem.W.keepIn K (.ref (He.ga K "crossed_back")) = true := (T.d_crossed_back).choose_spec.kp
theorem d_moved_tables : ∃ fd, FnP K "moved" "moved" s_moved_tables (He.ga K "moved_tables") fd := T.sd.def_ 37 (d := Uh.d_moved_tables) rfl
theorem k_moved_tables : PySem.W.keepIn K (.ref (He.ga K "moved_tables")) = true := (T.d_moved_tables).choose_spec.kp
theorem d_way_up : ∃ fd, FnP K "way_up" "way_up" s_way_up (He.ga K "way_up") fd := T.sd.def_ 38 (d := Uh.d_way_up) rfl
theorem k_way_up : PySem.W.keepIn K (.ref (He.ga K "way_up")) = true := (T.d_way_up).choose_spec.kp
theorem d_up_names : ∃ fd, FnP K "up_names" "up_names" s_up_names (He.ga K "up_names") fd := T.sd.def_ 39 (d := Uh.d_up_names) rfl
theorem k_up_names : PySem.W.keepIn K (.ref (He.ga K "up_names")) = true := (T.d_up_names).choose_spec.kp
theorem d_up_columns : ∃ fd, FnP K "up_columns" "up_columns" s_up_columns (He.ga K "up_columns") fd := T.sd.def_ 40 (d := Uh.d_up_columns) rfl
theorem k_up_columns : PySem.W.keepIn K (.ref (He.ga K "up_columns")) = true := (T.d_up_columns).choose_spec.kp
theorem d_names_root : ∃ fd, FnP K "names_root" "names_root" s_names_root (He.ga K "names_root") fd := T.sd.def_ 41 (d := Uh.d_names_root) rfl
theorem k_names_root : PySem.W.keepIn K (.ref (He.ga K "names_root")) = true := (T.d_names_root).choose_spec.kp
theorem d_columns_root : ∃ fd, FnP K "columns_root" "columns_root" s_columns_root (He.ga K "columns_root") fd := T.sd.def_ 42 (d := Uh.d_columns_root) rfl
theorem k_columns_root : PySem.W.keepIn K (.ref (He.ga K "columns_root")) = true := (T.d_columns_root).choose_spec.kp
theorem d_corner : ∃ fd, FnP K "corner" "corner" s_corner (He.ga K "corner") fd := T.sd.def_ 43 (d := Uh.d_corner) rfl
theorem k_corner : PySem.W.keepIn K (.ref (He.ga K "corner")) = true := (T.d_corner).choose_spec.kp
theorem d_is_corner : ∃ fd, FnP K "is_corner" "is_corner" s_is_corner (He.ga K "is_corner") fd := T.sd.def_ 44 (d := Uh.d_is_corner) rfl
theorem k_is_corner : PySem.W.keepIn K (.ref (He.ga K "is_corner")) = true := (T.d_is_corner).choose_spec.kp
theorem d_l_mixed : ∃ fd, FnP K "_law_mixed" "_law_mixed" s_l_mixed (He.ga K "_law_mixed") fd := T.sd.def_ 45 (d := Uh.d_l_mixed) rfl
theorem k_l_mixed : PySem.W.keepIn K (.ref (He.ga K "_law_mixed")) = true := (T.d_l_mixed).choose_spec.kp
theorem d_l_begin : ∃ fd, FnP K "_law_begin" "_law_begin" s_l_begin (He.ga K "_law_begin") fd := T.sd.def_ 46 (d := Uh.d_l_begin) rfl
theorem k_l_begin : PySem.W.keepIn K (.ref (He.ga K "_law_begin")) = true := (T.d_l_begin).choose_spec.kp
theorem d_l_draw : ∃ fd, FnP K "_law_draw" "_law_draw" s_l_draw (He.ga K "_law_draw") fd := T.sd.def_ 47 (d := Uh.d_l_draw) rfl
theorem k_l_draw : PySem.W.keepIn K (.ref (He.ga K "_law_draw")) = true := (T.d_l_draw).choose_spec.kp
theorem d_l_of : ∃ fd, FnP K "_law_of" "_law_of" s_l_of (He.ga K "_law_of") fd := T.sd.def_ 48 (d := Uh.d_l_of) rfl
theorem k_l_of : PySem.W.keepIn K (.ref (He.ga K "_law_of")) = true := (T.d_l_of).choose_spec.kp
theorem d_l_like : ∃ fd, FnP K "_law_like" "_law_like" s_l_like (He.ga K "_law_like") fd := T.sd.def_ 49 (d := Uh.d_l_like) rfl
theorem k_l_like : PySem.W.keepIn K (.ref (He.ga K "_law_like")) = true := (T.d_l_like).choose_spec.kp
theorem d_l_spots : ∃ fd, FnP K "_law_spots" "_law_spots" s_l_spots (He.ga K "_law_spots") fd := T.sd.def_ 50 (d := Uh.d_l_spots) rfl
theorem k_l_spots : PySem.W.keepIn K (.ref (He.ga K "_law_spots")) = true := (T.d_l_spots).choose_spec.kp
theorem d_l_loose : ∃ fd, FnP K "_law_loose" "_law_loose" s_l_loose (He.ga K "_law_loose") fd := T.sd.def_ 51 (d := Uh.d_l_loose) rfl
theorem k_l_loose : PySem.W.keepIn K (.ref (He.ga K "_law_loose")) = true := (T.d_l_loose).choose_spec.kp
theorem d_l_moved : ∃ fd, FnP K "_law_moved" "_law_moved" s_l_moved (He.ga K "_law_moved") fd := T.sd.def_ 52 (d := Uh.d_l_moved) rfl
theorem k_l_moved : PySem.W.keepIn K (.ref (He.ga K "_law_moved")) = true := (T.d_l_moved).choose_spec.kp
theorem d_l_step : ∃ fd, FnP K "_law_step" "_law_step" s_l_step (He.ga K "_law_step") fd := T.sd.def_ 53 (d := Uh.d_l_step) rfl
theorem k_l_step : PySem.W.keepIn K (.ref (He.ga K "_law_step")) = true := (T.d_l_step).choose_spec.kp
theorem d_l_backs : ∃ fd, FnP K "_law_backs" "_law_backs" s_l_backs (He.ga K "_law_backs") fd := T.sd.def_ 54 (d := Uh.d_l_backs) rfl
theorem k_l_backs : PySem.W.keepIn K (.ref (He.ga K "_law_backs")) = true := (T.d_l_backs).choose_spec.kp
theorem d_l_end : ∃ fd, FnP K "_law_end" "_law_end" s_l_end (He.ga K "_law_end") fd := T.sd.def_ 55 (d := Uh.d_l_end) rfl
theorem k_l_end : PySem.W.keepIn K (.ref (He.ga K "_law_end")) = true := (T.d_l_end).choose_spec.kp
theorem d_l_table : ∃ fd, FnP K "_law_table" "_law_table" s_l_table (He.ga K "_law_table") fd := T.sd.def_ 56 (d := Uh.d_l_table) rfl
theorem k_l_table : PySem.W.keepIn K (.ref (He.ga K "_law_table")) = true := (T.d_l_table).choose_spec.kp
theorem d_l_fault : ∃ fd, FnP K "_law_fault" "_law_fault" s_l_fault (He.ga K "_law_fault") fd := T.sd.def_ 57 (d := Uh.d_l_fault) rfl
theorem k_l_fault : PySem.W.keepIn K (.ref (He.ga K "_law_fault")) = true := (T.d_l_fault).choose_spec.kp
theorem d_l_bent : ∃ fd, FnP K "_law_bent" "_law_bent" s_l_bent (He.ga K "_law_bent") fd := T.sd.def_ 58 (d := Uh.d_l_bent) rfl
theorem k_l_bent : PySem.W.keepIn K (.ref (He.ga K "_law_bent")) = true := (T.d_l_bent).choose_spec.kp
theorem d_l_formed : ∃ fd, FnP K "_law_formed" "_law_formed" s_l_formed (He.ga K "_law_formed") fd := T.sd.def_ 59 (d := Uh.d_l_formed) rfl
theorem k_l_formed : PySem.W.keepIn K (.ref (He.ga K "_law_formed")) = true := (T.d_l_formed).choose_spec.kp
theorem d_l_asked : ∃ fd, FnP K "_law_asked" "_law_asked" s_l_asked (He.ga K "_law_asked") fd := T.sd.def_ 60 (d := Uh.d_l_asked) rfl
theorem k_l_asked : PySem.W.keepIn K (.ref (He.ga K "_law_asked")) = true := (T.d_l_asked).choose_spec.kp
theorem d_l_right : ∃ fd, FnP K "_law_right" "_law_right" s_l_right (He.ga K "_law_right") fd := T.sd.def_ 61 (d := Uh.d_l_right) rfl
theorem k_l_right : PySem.W.keepIn K (.ref (He.ga K "_law_right")) = true := (T.d_l_right).choose_spec.kp
theorem d_l_refused : ∃ fd, FnP K "_law_refused" "_law_refused" s_l_refused (He.ga K "_law_refused") fd := T.sd.def_ 62 (d := Uh.d_l_refused) rfl
theorem k_l_refused : PySem.W.keepIn K (.ref (He.ga K "_law_refused")) = true := (T.d_l_refused).choose_spec.kp
theorem d_law : ∃ fd, FnP K "law" "law" s_law (He.ga K "law") fd := T.sd.def_ 63 (d := Uh.d_law) rfl
theorem k_law : PySem.W.keepIn K (.ref (He.ga K "law")) = true := (T.d_law).choose_spec.kp
theorem d_iTooGreat : ∃ fd, FnP K "__init__" "TooGreat.__init__" s_iTooGreat (He.ma K (He.ga K "TooGreat") "__init__") fd := T.sd.def_ 64 (d := Uh.d_iTooGreat) rfl
theorem d_iNoFree : ∃ fd, FnP K "__init__" "NoFree.__init__" s_iNoFree (He.ma K (He.ga K "NoFree") "__init__") fd := T.sd.def_ 65 (d := Uh.d_iNoFree) rfl
theorem d_iBadTable : ∃ fd, FnP K "__init__" "BadTable.__init__" s_iBadTable (He.ma K (He.ga K "BadTable") "__init__") fd := T.sd.def_ 66 (d := Uh.d_iBadTable) rfl
end Tx
end Uh

set_option Elab.async false
set_option linter.all false
set_option maxRecDepth 100000
set_option maxHeartbeats 1000000
/-! Further rules of the layer. -/
namespace Uh
open PySem PySem.Spec PyProof.Rows L2
/-! ### sum -/
section
variable {prog : Program} {w : World} {A : Around} {E : Value → Shared → Prop} {s : Shared} {l : Addr} {its : List Value} {ns : List Int} {Q : Value → Shared → Prop}
theorem sum_tup (hh : A.handled = none) (ht : s.heap.IsTuple l its.toArray) (hi : IntsAre its ns)
    (k : ∀ h' tk t', (∀ b o, s.heap.get? b = some o → h'.get? b = some o) → Q (.int ns.sum t') { s with heap := h', toks := tk }) : wpAny (model prog w) A (call (.builtin "sum") [.ref l]) Q E s := by
  obtain ⟨xs, e⟩ := hi.allInts.items
  have hn : numsOf (intItems xs).toList = ns := by
    rw [← e]
    exact hi.numsOf
  rw [nums_intItems] at hn
  rw [e] at ht
  have hlt : l < s.heap.objs.size := by
    obtain ⟨_, q, _⟩ := ht
    exact Heap.lt_size q
  refine call_sum_walkG (wpAny_pyIter_tuple ht ⟨_, [s.heap.objs.size, l], [s.heap.objs.size], _, _, _, numAt xs, rfl, Walks.tuple (A := A.in1) hh _ l (Nat.ne_of_lt hlt) (intItems xs), ⟨⟨_, Heap.get?_push_size _ rfl, rfl, rfl⟩, ht.at fun o q => Heap.get?_push_of_some _ q⟩, fun b hb => ?_, fun _ _ => intItems_at, fun h' tk t' hk => ?_⟩)
  · rw [Heap.size_push]
    rcases List.mem_cons.mp hb with r | r
    · rw [r]; exact Nat.lt_succ_self _
    · have r2 : b = l := by simpa using r
      rw [r2]; exact Nat.lt_succ_of_lt hlt
  · have q := k h' tk t' (fun b o z => hk b o (fun m => by
      have r : b = s.heap.objs.size := by simpa using m
      rw [r] at z
      exact absurd (Heap.lt_size z) (Nat.lt_irrefl _)) (Heap.get?_push_of_some _ z))
    rw [← hn] at q
    have e2 : (preSum (numAt xs) (intItems xs).size) = ((xs.toList.map (·.1))).sum := by
      rw [preSum_eq, List.take_of_length_le (by simp [intItems])]
    rw [e2]
    exact q
end
section
variable {X : Cx}
def rSumA (K : PySem.W.Frag) : List V → Hp → VK → Prop := fun vs H Q => ∃ (a : Addr) (ns : List Int), vs = [.ref a] ∧ (SqL K H a (ns.map V.int) ∨ SqT K H a (ns.map V.int)) ∧ Q (.int ns.sum) H
theorem cr_sumA (hc : X.calm = true) : CallR X (.builtin "sum") (rSumA X.K) := by
  intro pins s σ H vs us Q I r h
  obtain ⟨a, ns, rfl, hs | hs, q⟩ := h
  · exact cr_sum hc pins s σ H _ us Q I r ⟨a, ns, rfl, hs, q⟩
  · obtain ⟨its, rv, pl, _⟩ := I.tuple hs
    rw [Vals.ref1 r]
    exact sum_tup (I.ok.hd hc) pl rv.ints fun h' tk t' hk => ⟨.int _, H, I.kept hk, ⟨_, rfl⟩, q⟩
end
/-! ### sorted of a tuple of ints -/
section
variable {prog : Program} {w : World} {A : Around} {E : Value → Shared → Prop} {s : Shared}
theorem coll_tup {l : Addr} {vs : List Value} {Q : List Value → Shared → Prop} (hl : s.heap.IsTuple l vs.toArray)
    (k : Q vs { s with heap := (s.heap.push (seqObj "list" #[] 0)).update s.heap.objs.size (Obj.mapSeq (· ++ vs.toArray)) }) (hsz : vs.length ≤ sizeLine) :
    wpAny (model prog w) A (collect (.ref l)) Q E s := by
  obtain ⟨o, ho, hc, n, hd⟩ := id hl
  have hp := Heap.get?_push_size s.heap (o := seqObj "list" #[] 0) rfl
  have ho' : (s.heap.push (seqObj "list" #[] 0)).get? l = some o := Heap.get?_push_of_some _ ho
  unfold collect
  refine wpAny_bind (wpAny_runValue (codeAny_builtin entry_proto_collect' ?_))
  show wpAny _ _ (do again (.builtin "list.__iadd__" ⟨[← newList [], .ref l], []⟩)) _ _ s
  refine wpAny_bind (wpAny_newList (wpAny_pure ⟨Code.quiet_builtin _ (by decide +kernel), codeAny_builtin entry_list_iadd' ?_⟩))
  show wpAny _ _ (Builtin.List.listExtendWith (.ref s.heap.objs.size) (.ref l) (.ref s.heap.objs.size)) _ _ { s with heap := s.heap.push (seqObj "list" #[] 0) }
  unfold Builtin.List.listExtendWith
  refine wpAny_bind (wpAny_typeOf (T := "tuple") ⟨o, ho', hc⟩ ?_)
  have ht : (Value.type "tuple" == Value.type "tuple") = true := by rfl
  rw [if_pos (by rw [ht]; simp)]
  refine wpAny_bind (listItems_at ho' hd ?_)
  refine wpAny_bind (listItems_at (xs := #[]) (n := 0) hp rfl ?_)
  rw [if_neg (by simp)]
  refine wpAny_bind (listUpdate_at (xs := #[]) (n := 0) hp rfl ?_ (Nat.zero_le _) (by show (#[] ++ vs.toArray).size ≤ sizeLine + 1; simp only [Array.size_append, List.size_toArray, List.length_nil]; omega))
  refine wpAny_pure ?_
  refine wpAny_bind (wpAny_load (get?_update_seq hp _) ?_)
  show wpAny _ _ (pure ((#[] : Array Value) ++ vs.toArray).toList) Q E _
  rw [show ((#[] : Array Value) ++ vs.toArray).toList = vs by simp]
  exact wpAny_pure k
theorem sorted_tup {l : Addr} {vs : List Value} {ltv : Value → Value → Bool} {Q : Value → Shared → Prop} (O : SrtO.Swo ltv) (hl : s.heap.IsTuple l vs.toArray) (hz : vs.length ≤ sizeLine)
    (hS : 2 ≤ vs.length → ∀ (h₁ : Heap) (a : Addr), h₁.get? a = some (seqObj "list" vs.toArray 0) → (∀ b o, s.heap.get? b = some o → b ≠ a ∧ h₁.get? b = some o) → SrtO.SortableO prog w A.in1.in1 { s with heap := h₁ } a vs ltv)
    (k : ∀ out : List Value, SrtO.Srtd ltv out → SrtO.Stb ltv out vs → Q (.ref (s.heap.objs.size + 1)) { s with heap := sortedAll s.heap vs out.toArray }) :
    wpAny (model prog w) A (call (.builtin "sorted") [.ref l]) Q E s := by
  refine Calls.call_function_entry kind_sorted plain_sorted entry_sorted (args_sorted1 _) ?_
  unfold Builtin.«sorted»
  refine wpAny_bind (m := checkCount "sorted" 1 1 _) (wpAny_pure ?_)
  refine wpAny_bind (coll_tup hl ?_ hz)
  refine wpAny_bind (wpAny_newList ?_ hz)
  have hsz : ((s.heap.push (seqObj "list" #[] 0)).update s.heap.objs.size (Obj.mapSeq (· ++ vs.toArray))).objs.size = s.heap.objs.size + 1 := by
    rw [Heap.size_update, Heap.size_push]
  have hoL : (((s.heap.push (seqObj "list" #[] 0)).update s.heap.objs.size (Obj.mapSeq (· ++ vs.toArray))).push (seqObj "list" vs.toArray 0)).get? (s.heap.objs.size + 1) = some (seqObj "list" vs.toArray 0) := by
    rw [← hsz]
    exact Heap.get?_push_size _ rfl
  have old : ∀ b o, s.heap.get? b = some o → b ≠ s.heap.objs.size + 1 ∧ (((s.heap.push (seqObj "list" #[] 0)).update s.heap.objs.size (Obj.mapSeq (· ++ vs.toArray))).push (seqObj "list" vs.toArray 0)).get? b = some o := fun b o q => by
    have lt : b < s.heap.objs.size := Heap.lt_size q
    refine ⟨Nat.ne_of_lt (Nat.lt_succ_of_lt lt), Heap.get?_push_of_some _ ?_⟩
    rw [Heap.get?_update_ne _ _ _ _ (Nat.ne_of_lt lt)]
    exact Heap.get?_push_of_some _ q
  show wpAny _ _ _ _ _ { s with heap := ((s.heap.push (seqObj "list" #[] 0)).update s.heap.objs.size (Obj.mapSeq (· ++ vs.toArray))).push (seqObj "list" vs.toArray 0) }
  rw [hsz]
  refine wpAny_bind (wpAny_holding (wpAny_call_entry slot_list_sort ⟨_, hoL, rfl⟩ entry_list_sort (SrtO.list_sort_ord O hoL hz (fun h2 => hS h2 _ _ hoL old) fun out hs hb => ⟨_, rfl, ?_⟩) (args_list_sort _)))
  exact wpAny_pure ⟨_, rfl, k out hs hb⟩
end
section
variable {X : Cx}
def rSortT (K : PySem.W.Frag) : List V → Hp → VK → Prop := fun vs H Q => ∃ (a : Addr) (ns : List Int), vs = [.ref a] ∧ SqT K H a (ns.map V.int) ∧
  ∀ (ms : List Int) (p : Addr), ms.Perm ns → ms.Pairwise (· ≤ ·) → H p = none → Q (.ref p) (upd H p (.lst (ms.map V.int)))
theorem cr_sortT : CallR X (.builtin "sorted") (rSortT X.K) := by
  intro pins s σ H vs us Q I r h
  obtain ⟨a, ns, rfl, hs, q⟩ := h
  obtain ⟨its, rv, pl, hz⟩ := I.tuple hs
  rw [Vals.ref1 r]
  have hi := rv.ints
  refine sorted_tup SrtO.swo_int pl (by rw [← rv.length]; exact hz) (fun h2 h₁ a' _ _ => SrtO.ints_sortable hi h2) fun out h1 h2 => ?_
  obtain ⟨k1, k2, k3⟩ := SrtO.ints_out hi h1 h2
  obtain ⟨ep, he'⟩ := sortedAll_at s.heap its out.toArray
  have hl : ((out.map SrtO.iv).map V.int).length ≤ sizeLine := by
    rw [List.length_map, k2.length_eq]
    rw [List.length_map] at hz
    exact hz
  exact ⟨.ref _, upd H (s.heap.objs.size + 1) (.lst ((out.map SrtO.iv).map V.int)), I.laid (t' := s.toks) (fun _ _ => sortedAll_old) (Nat.le_succ _) ⟨hl, out, ep, vals_of_ints k1, he'⟩, rfl, q _ _ k2 k3 (I.hok.fresh (Nat.le_succ _))⟩
end
/-! ### tuple(xs), the new tuple known to have no dict -/
section
variable {X : Cx}
def rTupleFz (K : PySem.W.Frag) : List V → Hp → VK → Prop := fun xs H Q => ∃ p ys, xs = [.ref p] ∧ SqL K H p ys ∧ ∀ (l : Addr) (o : Obj), o.dict = none → H l = none → Q (.ref l) (upd H l (.frz o (.tup ys)))
theorem call_tupleFz : CallR X (.type "tuple") (rTupleFz X.K) := by
  intro pins s σ H xs us Q I r h
  obtain ⟨p, ys, rfl, hq, q⟩ := h
  rw [Vals.ref1 r]
  obtain ⟨its, r', pl, hz⟩ := I.list hq
  have hlen := r'.length
  refine call_tuple_list pl.isList (fun h' kp => ?_) (by simp only [List.size_toArray] <;> omega)
  have I1 : Inv X pins σ H { s with heap := h' } := I.kept (t' := s.toks) kp
  have hg := Heap.get?_push_size h' (o := { cls := .type "tuple", data := .seq its.toArray }) rfl
  have I2 : Inv X pins σ (upd H h'.objs.size (.frz { cls := .type "tuple", data := .seq its.toArray } (.tup ys))) { s with heap := h'.push { cls := .type "tuple", data := .seq its.toArray } } :=
    I1.laid (t' := s.toks) (fun b o e => Heap.get?_push_of_some _ e) (Nat.le_refl _) ⟨hg, hz, its, r', IsTup.new _ _⟩
  exact ⟨.ref h'.objs.size, _, I2, rfl, q _ _ rfl (I1.hok.fresh (Nat.le_refl _))⟩
theorem ca_tupleFz {K : PySem.W.Frag} {ns : List Int} : CaD (rTupleFz K) [.list (ns.map .int)] (ltD ns) := fun av H vs l h0 Q q => by
  obtain ⟨v, rfl, h⟩ := da_one h0
  simp only [Da] at h
  obtain ⟨a, us, e, _, hp, r⟩ := h
  have eu := r.ints_eq
  subst eu
  refine ⟨a, _, by rw [e], SqL.of hp, fun p o ho ha => q _ _ (Evl.Ex.new ha) ?_⟩
  simp only [Da, ltD]
  exact ⟨ns, p, o, rfl, rfl, upd_same, ho⟩
end
/-! ### methods of such tuples -/
def tTM (K : PySem.W.Frag) (r : V → List V → Hp → VK → Prop) (to : TE) (t : TA) : TE := fun σ H Q => to σ H fun x H1 => (∃ a o xs, x = .ref a ∧ H1 a = some (.frz o (.tup xs)) ∧ o.dict = none) ∧ t σ H1 fun ys H2 => r x ys H2 Q
section
variable {X : Cx} {o e : Expr} {es : List Expr} {to : TE} {t : TA} {name : Str} {apos cpos : Pos} {id : String} {r : V → List V → Hp → VK → Prop}
theorem pe_tm (pa : PlainAttrs "tuple") (slot : PySem.Slot "tuple" name id) (hty : typeOf (.builtin id) = pure (.type "method_descriptor")) (hm : MtR X id r) (ho : PE X o to) (ha : PA X (e :: es) t)
    (hbase : attributeBase o name X.env (eval o X.env) = eval o X.env := by rfl)
    (hfew : ((backTo cpos (starEach (e :: es) X.env)).all (fun x => !x.1) && (backToKw cpos (keywordEach [] X.env)).all (fun x => x.1.isSome)
      && decide ((e :: es).length + ([] : List Keyword).length + (if ([] : List Keyword).isEmpty then 0 else 1) < 30)) = true := by rfl)
    (hline : (apos.endLine == cpos.line) = true := by rfl) (hs : starEach (e :: es) X.env = (false, eval e X.env) :: starEach es X.env := by rfl) (hplain : (backTo cpos (starEach es X.env)).any (·.1) = false := by rfl) :
    PE X (.Call (.Attribute o name apos) (e :: es) [] cpos) (tTM X.K r to t) := by
  refine ⟨fun pins s σ H Q I h => ?_⟩
  refine wpAny_Call_method_late hbase hfew hline rfl (thn (ho.run pins s σ H _ I h) fun v s1 ⟨x, H1, I1, r1, ty, q1⟩ => ?_)
  obtain ⟨a, ob, xs, ex, hx, hd⟩ := ty
  subst ex
  obtain rfl : v = Value.ref a := r1
  obtain ⟨hget, _, its, _, o2, hg2, hc2, _⟩ := I1.hok a _ hx
  rw [hget] at hg2
  cases hg2
  refine ⟨"tuple", id, pa, slot, hty, ⟨ob, hget, hc2⟩, fun b eb => ?_, ?_⟩
  · cases eb
    exact ⟨ob, hget, hd⟩
  have hA := ha.run cpos pins s1 σ H1 _ I1 q1
  rw [hs] at hA ⊢
  refine Calls.callWith_builtin (by show (false || (backTo cpos (starEach es X.env)).any (·.1)) = false; rw [hplain] <;> rfl) (Calls.evalArgs_plain ?_)
  exact thn hA fun us s2 ⟨vs, H2, I2, r2, q2⟩ => hm pins s2 σ H2 (.ref a) vs _ us Q I2 rfl r2 q2
def rTIdx (K : PySem.W.Frag) : V → List V → Hp → VK → Prop := fun x xs H Q => ∃ (p : Addr) (ns : List Int) (k : Int) (j : Nat), x = .ref p ∧ xs = [.int k] ∧ SqT K H p (ns.map V.int) ∧ ns[j]? = some k ∧ (∀ m : Nat, m < j → ns[m]? ≠ some k) ∧ Q (.int (j : Nat)) H
def rTCnt (K : PySem.W.Frag) : V → List V → Hp → VK → Prop := fun x xs H Q => ∃ (p : Addr) (ns : List Int) (k : Int), x = .ref p ∧ xs = [.int k] ∧ SqT K H p (ns.map V.int) ∧ Q (.int (ns.count k : Nat)) H
theorem mt_tup_countI : MtR X "tuple.count" (rTCnt X.K) := by
  intro pins s σ H x xs v us Q I rx rxs h
  obtain ⟨p, ns, k, rfl, rfl, hs, q⟩ := h
  cases rx
  obtain ⟨u, rfl, ru⟩ := rxs.one
  obtain ⟨t, rfl⟩ := ru
  obtain ⟨its, rv, pl, hz⟩ := I.tuple hs
  obtain ⟨⟨cls, dd, dt, sl⟩, ho, hc, n, hd⟩ := pl
  simp only at hc hd
  subst hc hd
  have hi := ints_of_vals rv
  refine call_meets PySem.F.slot_tuple_count ⟨_, ho, rfl⟩ PySem.F.entry_tuple_count (PySem.F.args_tuple_count_2 _ _)
    (SeqAt.tuple_countAt p its.toArray n dd sl (.int k t) (eqk k)) ⟨ho, fun y hy => (eqk_gives hi y (by simpa using hy)).at _ _, ?_⟩
  have ec : its.toArray.toList.countP (eqk k) = ns.count k := eqk_count hi
  rw [ec]
  exact ⟨.int (ns.count k : Nat), H, I.tok _, ⟨_, rfl⟩, q⟩
theorem mt_tup_indexI : MtR X "tuple.index" (rTIdx X.K) := by
  intro pins s σ H x xs v us Q I rx rxs h
  obtain ⟨p, ns, k, j, rfl, rfl, hs, hj, hno, q⟩ := h
  cases rx
  obtain ⟨u, rfl, ru⟩ := rxs.one
  obtain ⟨t, rfl⟩ := ru
  obtain ⟨its, rv, pl, hz⟩ := I.tuple hs
  obtain ⟨⟨cls, dd, dt, sl⟩, ho, hc, n, hd⟩ := pl
  simp only at hc hd
  subst hc hd
  have hi := ints_of_vals rv
  have hl : its.length = ns.length := by
    have := rv.length
    rw [List.length_map] at this
    exact this.symm
  have at' : ∀ (m : Nat) (hm : m < its.toArray.size), ∃ y t', ns[m]? = some y ∧ its.toArray[m] = Value.int y t' := fun m hm => by
    have hm' : m < ns.length := by
      rw [← hl]
      simpa using hm
    obtain ⟨tm, hmt⟩ := hi.get m _ (List.getElem?_eq_getElem hm')
    obtain ⟨h1, h2⟩ := List.getElem?_eq_some_iff.mp hmt
    exact ⟨ns[m], tm, List.getElem?_eq_getElem hm', by simpa using h2⟩
  have hjl : j < its.toArray.size := by
    have := (List.getElem?_eq_some_iff.mp hj).1
    rw [List.size_toArray, hl]
    exact this
  refine call_meets PySem.F.slot_tuple_index ⟨_, ho, rfl⟩ PySem.F.entry_tuple_index (PySem.F.args_tuple_index_2 _ _) (TI.tuple_indexAt p its.toArray n dd sl (.int k t) (eqk k) j hjl ?_ ?_)
    ⟨ho, fun y hy => (eqk_gives hi y (by simpa using hy)).at _ _, ⟨.int (j : Nat), H, I.tok _, ⟨_, rfl⟩, q⟩⟩
  · obtain ⟨y, t', h1, h2⟩ := at' j hjl
    rw [hj] at h1
    cases h1
    rw [h2]
    exact beq_self_eq_true k
  · intro m hm hmj
    obtain ⟨y, t', h1, h2⟩ := at' m hm
    rw [h2]
    show (y == k) = false
    exact beq_eq_false_iff_ne.mpr fun e => hno m hmj (e ▸ h1)
end
section
variable {K : PySem.W.Frag} {ss : List Slot} {to te : TE} {ns : List Int} {k : Int}
theorem ep_count (h : EvP to ss (ltD ns)) (hk : EvP te ss (.int k)) : EvP (tTM K (rTCnt K) to (tCons te tNil)) ss (.int (ns.count k : Nat)) := fun av H σ l f Q q => h av H σ l f _ fun v H1 e1 r1 => by
  have r2 := r1
  simp only [Da, ltD] at r2
  obtain ⟨ms, a, o, em, ev, hp, hd⟩ := r2
  refine ⟨⟨a, o, _, ev, hp, hd⟩, hk av H1 σ (l.ex e1) (f.ex e1) _ fun w H2 e2 r3 => ?_⟩
  have ew : w = .int k := by simpa [Da] using r3
  have r4 := da_lt (r1.ext e2)
  simp only [Da] at r4
  obtain ⟨b, us, eb, hb, rb⟩ := r4
  have eu := rb.ints_eq
  subst eu
  exact ⟨b, ns, k, eb, by rw [ew], hb.sq, q _ H2 (e1.trans e2) (by simp [Da])⟩
theorem ep_index {j : Nat} (h : EvP to ss (ltD ns)) (hk : EvP te ss (.int k)) (hj : ns[j]? = some k) (hno : ∀ m : Nat, m < j → ns[m]? ≠ some k) : EvP (tTM K (rTIdx K) to (tCons te tNil)) ss (.int (j : Nat)) := fun av H σ l f Q q => h av H σ l f _ fun v H1 e1 r1 => by
  have r2 := r1
  simp only [Da, ltD] at r2
  obtain ⟨ms, a, o, em, ev, hp, hd⟩ := r2
  refine ⟨⟨a, o, _, ev, hp, hd⟩, hk av H1 σ (l.ex e1) (f.ex e1) _ fun w H2 e2 r3 => ?_⟩
  have ew : w = .int k := by simpa [Da] using r3
  have r4 := da_lt (r1.ext e2)
  simp only [Da] at r4
  obtain ⟨b, us, eb, hb, rb⟩ := r4
  have eu := rb.ints_eq
  subst eu
  exact ⟨b, ns, k, j, eb, by rw [ew], hb.sq, hj, hno, q _ H2 (e1.trans e2) (by simp [Da])⟩
theorem ca_sumT : CaD (rSumA K) [.tuple (ns.map .int)] (.int ns.sum) := fun av H vs l h0 Q q => by
  obtain ⟨v, rfl, h⟩ := da_one h0
  simp only [Da] at h
  obtain ⟨a, us, e, hp, r⟩ := h
  have eu := r.ints_eq
  subst eu
  exact ⟨a, ns, by rw [e], .inr hp.sq, q _ H (Evl.Ex.refl H) (by simp [Da])⟩
theorem ca_sumL : CaD (rSumA K) [.list (ns.map .int)] (.int ns.sum) := fun av H vs l h0 Q q => by
  obtain ⟨v, rfl, h⟩ := da_one h0
  simp only [Da] at h
  obtain ⟨a, us, e, _, hp, r⟩ := h
  have eu := r.ints_eq
  subst eu
  exact ⟨a, ns, by rw [e], .inl (SqL.of hp), q _ H (Evl.Ex.refl H) (by simp [Da])⟩
/-- sorted of a tuple of ints, ms its one order -/
theorem ca_sortT {ms : List Int} (hm : ∀ ms' : List Int, ms'.Perm ns → ms'.Pairwise (· ≤ ·) → ms' = ms) : CaD (rSortT K) [.tuple (ns.map .int)] (.list (ms.map .int)) := fun av H vs l h0 Q q => by
  obtain ⟨v, rfl, h⟩ := da_one h0
  simp only [Da] at h
  obtain ⟨a, us, e, hp, r⟩ := h
  have eu := r.ints_eq
  subst eu
  refine ⟨a, ns, by rw [e], hp.sq, fun ms' p h1 h2 ha => ?_⟩
  rw [hm ms' h1 h2]
  exact q _ _ (Evl.Ex.new ha) (da_newL l ha DaL.ints)
end
/-! ### ranges as values -/
section
variable {X : Cx}
def rRange1 : List V → Hp → VK → Prop := fun vs H Q => ∃ i, vs = [V.int i] ∧ ∀ p, H p = none → Q (.ref p) (upd H p (.rng 0 i))
theorem cr_range1 : CallR X (.type "range") rRange1 := by
  intro pins s σ H vs us Q I r h
  obtain ⟨i, rfl, q⟩ := h
  obtain ⟨u1, rfl, t, rfl⟩ := vals1 r
  refine call_range_1 ⟨.ref s.heap.objs.size, upd H s.heap.objs.size (.rng 0 i), I.laid (t' := s.toks + 2) (fun b o e => Heap.get?_push_of_some _ e) (Nat.le_refl _) ?_, rfl, q _ (I.hok.fresh (Nat.le_refl _))⟩
  exact ⟨_, _, _, Heap.get?_push_size _ rfl⟩
def iRngO (te : TE) : TI := fun σ H R => te σ H fun x H1 => ∃ (a : Addr) (lo hi : Int), x = .ref a ∧ H1 a = some (.rng lo hi) ∧ -(2 ^ 62) ≤ lo ∧ lo < 2 ^ 62 ∧ -(2 ^ 62) ≤ hi ∧ hi < 2 ^ 62 ∧ R (Itr lo (hi - lo).toNat) H1
theorem pi_rngO {tg e : Expr} {te : TE} (he : PE X e te) : PI X tg e (iRngO te) := by
  refine ⟨fun pins s σ H R I h => ?_⟩
  refine thn (he.run pins s σ H _ I h) fun u s1 ⟨x, H1, I1, r1, a, lo, hi, ex, ha, h1, h2, h3, h4, q⟩ => ?_
  subst ex
  obtain rfl : u = Value.ref a := r1
  obtain ⟨t, u, v, ho⟩ := I1.hok a _ ha
  refine wpAny_pyIter_range ho (small_one h1 h2 h3 h4) ?_
  refine ⟨s1.heap.objs.size, [s1.heap.objs.size], _, _, H1, rfl, I1.kept (t' := s1.toks) fun b o e => Heap.get?_push_of_some _ e, turn_range _ lo (hi - lo).toNat, ?_, fun b hb => ?_, q⟩
  · have e1 : lo + ((0 : Nat) : Int) * 1 = lo := by simp
    have e2 : (((hi - lo).toNat : Nat) : Int) - ((0 : Nat) : Int) = Builtin.Range.rangeSize lo hi 1 := by
      rw [rangeSize_one]
      split <;> omega
    show IsRangeIter _ _ (lo + ((0 : Nat) : Int) * 1) ((((hi - lo).toNat : Nat) : Int) - ((0 : Nat) : Int)) 1
    rw [e1, e2]
    exact Heap.get?_push_size _ rfl
  · have e : b = s1.heap.objs.size := by simpa using hb
    subst e
    exact I1.fpOk (Nat.le_refl _) (I1.hok.fresh (Nat.le_refl _))
end
end Uh

set_option Elab.async false
set_option linter.all false
set_option maxRecDepth 100000
set_option maxHeartbeats 1000000
namespace Uh
open PySem PySem.Spec PyProof.Rows L2
open Evl (Ex)
/-! ### enumerate of a tuple -/
theorem meets_enumerate_newT {v : Value} {o : Obj} {H : Heap → Prop} (B : Begins v o H) :
    Meets (Builtin.«enumerate.__new__» ⟨[.type "enumerate", v], []⟩) (fun _ R s => H s.heap ∧
      R (.ok (.ret (.ref (s.heap.push o).objs.size))) { s with heap := (s.heap.push o).push { cls := .type "enumerate", data := .fields #[.none, .bool false, .ref s.heap.objs.size, rawInt 0, .none, .none] } }) :=
  .of_wp fun prog w A R s h => by
    obtain ⟨hp, g, d, tk, os⟩ := s; obtain ⟨h1, h⟩ := h
    have hsub := sub_enumerate
    have q1 : ∀ {A' : Around} {E : Value → Shared → Prop} {Q : Value → Shared → Prop}, Q (.ref hp.objs.size) ⟨hp.push o, g, d, tk, os⟩ → wpAny (model prog w) A' (pyIter v) Q E ⟨hp, g, d, tk, os⟩ :=
      fun q => B.iter prog w _ _ ⟨hp, g, d, tk, os⟩ _ h1 q
    wp_walk using q1
    refine wpAny_stack_any fun st => wpAny_pure ?_
    split
    · rename_i c _ _ _ _ _
      cases (c == Value.type "enumerate")
      · wp_walk using q1
        exact ⟨_, rfl, h⟩
      · wp_walk using q1
        exact ⟨_, rfl, h⟩
    · wp_walk using q1
      exact ⟨_, rfl, h⟩
section
variable {prog : Program} {w : World} {A : Around} {E : Value → Shared → Prop} {s : Shared}
theorem call_enumerate_tup {l : Addr} {items : Array Value} {Q : Value → Shared → Prop} (hL : s.heap.IsTuple l items)
    (h : ∀ h', IsEnum h' (s.heap.objs.size + 1) s.heap.objs.size 0 .none → h'.IsTupleIter s.heap.objs.size l 0 → h'.objs.size = s.heap.objs.size + 2 →
      (∀ b o, s.heap.get? b = some o → h'.get? b = some o) → Q (.ref (s.heap.objs.size + 1)) { s with heap := h' }) :
    wpAny (model prog w) A (call (.type "enumerate") [.ref l]) Q E s := by
  refine callType_new F.called_enumerate (by decide) (F.typeCall_enumerate_1 _) (F.newCall_enumerate_1 _) (fun obj => F.args_object_init_2 obj _) F.entry_enumerate_new
    (meets_enumerate_newT (begins_tuple l items)) ⟨hL, ?_⟩
  have hz : (s.heap.push { cls := .type "tuple_iterator", data := .fields #[.ref l, .int 0 0] }).objs.size = s.heap.objs.size + 1 := Heap.size_push ..
  show _ ∧ _
  rw [hz]
  have he : IsEnum ((s.heap.push { cls := .type "tuple_iterator", data := .fields #[.ref l, .int 0 0] }).push
      { cls := .type "enumerate", data := .fields #[.none, .bool false, .ref s.heap.objs.size, rawInt 0, .none, .none] }) (s.heap.objs.size + 1) s.heap.objs.size 0 .none := by
    have := Heap.get?_push_size (s.heap.push { cls := .type "tuple_iterator", data := .fields #[.ref l, .int 0 0] })
      (o := { cls := .type "enumerate", data := .fields #[.none, .bool false, .ref s.heap.objs.size, rawInt 0, .none, .none] }) rfl
    rw [hz] at this; exact this
  refine ⟨⟨_, he, rfl⟩, h _ he ⟨_, Heap.get?_push_of_some _ (Heap.get?_push_size _ rfl), rfl, rfl⟩ (by rw [Heap.size_push, hz]) fun b o x => Heap.get?_push_of_some _ (Heap.get?_push_of_some _ x)⟩
theorem enum_end_tup {e it a : Addr} {items : Array Value} {i : Nat} {c : Int} {old : Value} {Q : Option Value → Shared → Prop} (hh : A.handled = none)
    (he : IsEnum s.heap e it c old) (hit : s.heap.IsTupleIter it a i) (ht : s.heap.IsTuple a items) (hx : items[i]? = none)
    (hQ : ∀ h', Heap.ExtBut it s.heap h' → Q none { s with heap := h' }) : wpAny (model prog w) A (pyNext (.ref e)) Q E s := by
  have hT : s.TypeIs (.ref e) "enumerate" := ⟨_, he, rfl⟩
  unfold pyNext
  refine wpAny_bind (wpAny_attempt (wpAny_callSpecial?_slot (name := Str.ofString "__next__") hT F.slot_enumerate_next
    (wpAny_call_entry F.slot_enumerate_next hT F.entry_enumerate_next ?_ (F.args_enumerate_next_1 _))))
  show wpAny _ _ (field (.ref e) 2 >>= _) _ _ _
  refine wpAny_bind (wpAny_field he rfl (x := .ref it) rfl ?_)
  refine wpAny_bind (wpAny_nextOf_tuple_end (A := A.in1) hh hit ht hx fun h' x he' hx' => ?_)
  obtain ⟨o, ho, hc⟩ := hx'
  refine wpAny_bind (wpAny_isInstance (T := "StopIteration") (b := true) ⟨o, ho, hc⟩ isSubtype_stop ?_)
  exact wpAny_pure (hQ _ he')
end
def Iet (K : PySem.W.Frag) (a : Addr) : It :=
  ⟨fun i H => ∃ (xs : List V) (x : V), SqT K H a xs ∧ xs[i]? = some x, fun i H v H' => ∃ T x, v = .ref T ∧ H T = none ∧ H' = upd H T (.tup [.int (i : Nat), x]) ∧ ∀ xs, SqT K H a xs → xs[i]? = some x, fun i H => ∃ xs : List V, SqT K H a xs ∧ xs.length ≤ i⟩
theorem turn_enumT {P : Program} {w : World} {K : PySem.W.Frag} {elts : List Expr} {kk : Nat} {tpos : Pos} (a e it : Addr) (hae : a ≠ e) (hai : a ≠ it) :
    Turn P w K (.Tuple elts kk tpos) (Iet K a) [e, it] e (fun i h => (∃ old, IsEnum h e it ((i : Nat) : Int) old) ∧ h.IsTupleIter it a i ∧ e ≠ it) where
  mem := by simp
  obj := fun i h st b hb => by
    obtain ⟨⟨old, he⟩, ⟨o, ho, hc, hd⟩, _⟩ := st
    have e' : b = e ∨ b = it := by simpa using hb
    rcases e' with z | z
    · rw [z]; exact ⟨_, he, fun v q => nomatch q⟩
    · rw [z]; exact ⟨o, ho, fun v q => by rw [hd] at q; cases q⟩
  keep := fun i h h' st k => let ⟨⟨old, he⟩, hi, hne⟩ := st; ⟨⟨old, k e (by simp) _ he⟩, hi.at fun o q => k it (by simp) o q, hne⟩
  item := by
    intro X hP hw hK hc i pins s σ H E I hf st hg
    subst hP hw hK
    obtain ⟨⟨old, he⟩, hit, hne⟩ := st
    obtain ⟨xs, x, hq, hx⟩ := hg
    obtain ⟨its, rv, p, hz⟩ := I.tuple hq
    obtain ⟨u, hu, ru⟩ := rv.get hx
    have hel : e < s.heap.objs.size := Heap.lt_size he
    have hil : it < s.heap.objs.size := by obtain ⟨_, q, _⟩ := hit; exact Heap.lt_size q
    have hlt : i < its.toArray.size := by
      rw [List.size_toArray]
      exact (List.getElem?_eq_some_iff.mp hu).1
    refine wpAny_pyNext_enum_itemD (Draws.tuple (A := X.A.in1) (I.ok.hd hc) it a hai its.toArray) he ⟨hit, show s.heap.IsTuple a its.toArray from p⟩ hlt hne (by simp [hne, Ne.symm hae]) fun x' h' tk hx' ho hst' hT hsz hk => ?_
    obtain ⟨hit', _⟩ := hst'
    have ex : x' = u := by
      have h1 : its.toArray[i]? = some u := by simpa using hu
      rw [h1] at hx'
      exact (Option.some.inj hx').symm
    subst ex
    refine ⟨_, rfl, wpAny_letOwnedTupleGo_enum (s := { s with heap := h', toks := tk + 1 }) ho fun h'' he' sb => ?_⟩
    have hT2 : h''.get? s.heap.objs.size = some { cls := .type "tuple", data := .seq #[.int i tk, x'] } := (sb.2 _ (Nat.ne_of_gt hel)).trans hT
    have new : ObjOk X.prog X.w (upd H s.heap.objs.size (.tup [.int (i : Nat), x])) h'' s.heap.objs.size (.tup [.int (i : Nat), x]) :=
      ⟨by show 2 ≤ sizeLine; decide, [.int i tk, x'], .cons ⟨_, rfl⟩ (.cons ru .nil), ⟨_, hT2, rfl, _, rfl⟩⟩
    have I1 : Inv X pins σ (upd H s.heap.objs.size (.tup [.int (i : Nat), x])) { s with heap := h'', toks := tk + 1 } :=
      I.turnedNew (ch := [e, it]) (fun b ob hb q => (sb.2 b (fun z => hb (by simp [z]))).trans (hk b ob (fun z => hb (by simp [z])) (fun z => hb (by simp [z])) q)) hf (Nat.le_refl _) new
    refine ⟨.ref s.heap.objs.size, _, I1, rfl, ⟨_, x, rfl, I.hok.fresh (Nat.le_refl _), rfl, fun ys hy => by rw [I.tuple_inj hy hq]; exact hx⟩, ⟨⟨x', ?_⟩, hit'.at fun o q => (sb.2 it (Ne.symm hne)).trans q, hne⟩, fun b hb => ?_⟩
    · have e1 : ((i + 1 : Nat) : Int) = (i : Int) + 1 := by omega
      rw [e1]; exact he'
    · have hb' : b < s.heap.objs.size := by
        have e' : b = e ∨ b = it := by simpa using hb
        rcases e' with z | z
        · rw [z]; exact hel
        · rw [z]; exact hil
      rw [upd_ne (Nat.ne_of_lt hb')]
      exact (hf b hb).1
  done := by
    intro X hP hw hK hc i pins s σ H E I hf st hg
    subst hP hw hK
    obtain ⟨⟨old, he⟩, hit, hne⟩ := st
    obtain ⟨xs, hq, hx⟩ := hg
    obtain ⟨its, rv, p, hz⟩ := I.tuple hq
    obtain ⟨f0, f1, f2, f3, f4, f5⟩ := hf it (by simp)
    have hl := rv.length
    exact enum_end_tup (I.ok.hd hc) he hit (show s.heap.IsTuple a its.toArray from p) (by simp; omega) fun h' eb => ⟨rfl, I.turned (t' := s.toks) (fun b o hb q => eb b o hb q) f0 f1 f3 f4 f5⟩
  self := fun A i s Q E st h => let ⟨⟨_, he⟩, _⟩ := st; wpAny_pyIter_enum he h
def iEnumT (K : PySem.W.Frag) (ta : TA) : TI := fun σ H R => ta σ H fun vs H1 => ∃ a xs, vs = [.ref a] ∧ SqT K H1 a xs ∧ R (Iet K a) H1
theorem pi_enumT {X : Cx} {e : Expr} {ta : TA} {p pos tpos : Pos} {elts : List Expr} {kk : Nat} (hg : Gl X "enumerate") (hm : X.mg "enumerate" = none) (ha : PA X [e] ta) (hs : starEach [e] X.env = [(false, eval e X.env)] := by rfl) :
    PI X (.Tuple elts kk tpos) (.Call (.Name "enumerate" p) [e] [] pos) (iEnumT X.K ta) := by
  refine ⟨fun pins s σ H R I h => ?_⟩
  refine Call_ (ld_blt I hg hm boot_enumerate (PyProof.Rows.callWith_type1 (thn (ha.run pos pins s σ H _ I h) fun us s1 ⟨vs, H1, I1, r1, q1⟩ => ?_) hs rfl))
  obtain ⟨a, xs, ex, hq, q⟩ := q1
  subst ex
  cases r1 with
  | cons r rr =>
    cases rr
    cases r
    obtain ⟨its, rv, p', hz⟩ := I1.tuple hq
    have hal : a < s1.heap.objs.size := by obtain ⟨_, q, _⟩ := (show s1.heap.IsTuple a its.toArray from p'); exact Heap.lt_size q
    refine call_enumerate_tup p' fun h' he hit hsz hk => wpAny_pyIter_enum he ?_
    have I2 : Inv X pins σ H1 { s1 with heap := h' } := I1.kept (t' := s1.toks) hk
    refine ⟨s1.heap.objs.size + 1, [s1.heap.objs.size + 1, s1.heap.objs.size], _, _, H1, rfl, I2, turn_enumT a (s1.heap.objs.size + 1) s1.heap.objs.size (Nat.ne_of_lt (Nat.lt_succ_of_lt hal)) (Nat.ne_of_lt hal), ⟨⟨.none, he⟩, hit, Nat.succ_ne_self _⟩, fun b hb => ?_, q⟩
    have e' : b = s1.heap.objs.size + 1 ∨ b = s1.heap.objs.size := by simpa using hb
    have hle : s1.heap.objs.size ≤ b := by
      rcases e' with z | z
      · rw [z]; exact Nat.le_add_right _ _
      · rw [z]; exact Nat.le_refl _
    exact I1.fpOk hle (I1.hok.fresh hle)
/-! over data -/
def enumD : Nat → List PyData → List PyData
  | _, [] => []
  | i, d :: ds => .tuple [.int (i : Nat), d] :: enumD (i + 1) ds
theorem enumD_len : ∀ {ds : List PyData} {k : Nat}, (enumD k ds).length = ds.length
  | [], _ => rfl
  | _ :: ds, k => congrArg (· + 1) (enumD_len (ds := ds) (k := k + 1))
theorem enumD_get : ∀ {ds : List PyData} {k i : Nat} {d : PyData}, (enumD k ds)[i]? = some d → ∃ x, ds[i]? = some x ∧ d = .tuple [.int ((k + i : Nat) : Int), x]
  | [], _, _, _, h => by simp [enumD] at h
  | x :: ds, k, 0, d, h => ⟨x, rfl, by
    have h' : (PyData.tuple [.int (k : Nat), x]) = d := by simpa [enumD] using h
    exact h'.symm⟩
  | x :: ds, k, i + 1, d, h => by
    obtain ⟨y, e, q⟩ := enumD_get (ds := ds) (k := k + 1) (i := i) (by simpa [enumD] using h)
    exact ⟨y, by simpa using e, by rw [q, show k + 1 + i = k + (i + 1) by omega]⟩
section
variable {K : PySem.W.Frag} {ss : List Slot} {te : TE} {ta : TA} {ds : List PyData}
theorem da_pair {av : Addr → Prop} {H : Hp} {T : Addr} {i : Nat} {v : V} {x : PyData} (l : Live av H) (hT : H T = none) (r : Da av H x v) : Da av (upd H T (.tup [.int (i : Nat), v])) (.tuple [.int (i : Nat), x]) (.ref T) :=
  da_new l hT (by simp only [DaL, Da]; exact ⟨trivial, r, trivial⟩)
theorem wk_enumT (h : EvA ta ss [.tuple ds]) : Wk (iEnumT K ta) ss (enumD 0 ds) := fun av H σ l f R q => h av H σ l f _ fun vs H1 e r0 => by
  obtain ⟨v, rfl, r⟩ := da_one r0
  simp only [Da] at r
  obtain ⟨a, us, ev, hp, r⟩ := r
  refine ⟨a, us, by rw [ev], hp.sq, q _ H1 e ⟨fun i H' av' m lt => ?_, fun i H' av' m le => ?_, fun i H' x H'' d av' m l' hd y => ?_⟩⟩
  · have lt' : i < us.length := by rw [← r.length, ← enumD_len (ds := ds) (k := 0)]; exact lt
    exact ⟨us, us[i], (hp.go m.tup).sq, by simp [lt']⟩
  · exact ⟨us, (hp.go m.tup).sq, by rw [← r.length, ← enumD_len (ds := ds) (k := 0)]; exact le⟩
  · obtain ⟨T, z, ex, hT, e', y⟩ := y
    subst e' ex
    obtain ⟨x0, e0, ed⟩ := enumD_get hd
    obtain ⟨v, e2, r2⟩ := (m.dal r).get e0
    have e3 := y us ((hp.go m.tup).sq)
    rw [e2] at e3
    cases e3
    subst ed
    rw [Nat.zero_add]
    exact ⟨Ex.new hT, da_pair l' hT r2⟩
theorem wk_enumL (h : EvA ta ss [.list ds]) : Wk (iEnum K ta) ss (enumD 0 ds) := fun av H σ l f R q => h av H σ l f _ fun vs H1 e r0 => by
  obtain ⟨v, rfl, r⟩ := da_one r0
  simp only [Da] at r
  obtain ⟨a, us, ev, na, hp, r⟩ := r
  refine ⟨a, us, by rw [ev], SqL.of hp, q _ H1 e ⟨fun i H' av' m lt => ?_, fun i H' av' m le => ?_, fun i H' x H'' d av' m l' hd y => ?_⟩⟩
  · have lt' : i < us.length := by rw [← r.length, ← enumD_len (ds := ds) (k := 0)]; exact lt
    exact ⟨us, us[i], SqL.of (m.lst a us na hp).1, by simp [lt']⟩
  · exact ⟨us, SqL.of (m.lst a us na hp).1, by rw [← r.length, ← enumD_len (ds := ds) (k := 0)]; exact le⟩
  · obtain ⟨T, z, ex, hT, e', y⟩ := y
    subst e' ex
    obtain ⟨x0, e0, ed⟩ := enumD_get hd
    obtain ⟨v, e2, r2⟩ := (m.dal r).get e0
    have e3 := y us (SqL.of (m.lst a us na hp).1)
    rw [e2] at e3
    cases e3
    subst ed
    rw [Nat.zero_add]
    exact ⟨Ex.new hT, da_pair l' hT r2⟩
/-! xs[::-1] -/
theorem ep_revL (h : EvP te ss (.list ds)) : EvF (tRevL K te) ss ds.reverse := fun av H σ l f Q q => h av H σ l f _ fun v H1 e r => by
  simp only [Da] at r
  obtain ⟨a, us, ev, _, hp, r⟩ := r
  exact ⟨a, us, ev, SqL.of hp, fun p ha => q p _ us.reverse (e.trans (Ex.new ha)) (Evl.fresh_back e ha) upd_same ((Mv.avoid (Ex.new ha) ha).dal r.reverse)⟩
end
section
variable {prog : Program} {w : World} {A : Around} {E : Value → Shared → Prop} {s : Shared}
theorem places_rev (n : Nat) : Builtin.Slice.slicePlaces ((n : Int) - 1) (-1) (-1) = n := by
  unfold Builtin.Slice.slicePlaces
  rw [if_neg (by decide)]
  by_cases h : (n : Int) - 1 > -1
  · rw [if_pos h, show (-(-1) : Int) = 1 by decide, Int.ediv_one]
    omega
  · rw [if_neg h]
    omega
theorem pick_rev (xs : Array Value) : ((List.range xs.size).filterMap fun (m : Nat) => xs[((xs.size : Int) - 1 + (m : Int) * (-1)).toNat]?).toArray = xs.toList.reverse.toArray := by
  have e : ∀ l : List Nat, (∀ m ∈ l, m < xs.size) → (l.filterMap fun (m : Nat) => xs[((xs.size : Int) - 1 + (m : Int) * (-1)).toNat]?) = (l.map fun k => xs.size - 1 - k).filterMap (xs[·]?) := by
    intro l
    induction l with
    | nil => intro _; rfl
    | cons a l ih =>
      intro hl
      have e1 : ((xs.size : Int) - 1 + (a : Int) * (-1)).toNat = xs.size - 1 - a := by
        have := hl a (by simp)
        omega
      rw [List.map_cons, List.filterMap_cons, List.filterMap_cons, e1, ih fun m hm => hl m (by simp [hm])]
  rw [e _ (fun m hm => List.mem_range.mp hm), PySem.W.krv_range, List.filterMap_reverse, PySem.W.krv_all]
theorem getItem_tuple_rev {t sl : Addr} {items : Array Value} {tk : Tok} {Q : Value → Shared → Prop} (ht : IsTup s.heap t items) (hs : s.heap.IsSliceOf sl .none .none (.int (-1) tk))
    (h : Q (.ref s.heap.objs.size) { s with heap := s.heap.push { cls := .type "tuple", data := .seq items.toList.reverse.toArray } })
    (hsz : items.size ≤ sizeLine) : wpAny (model prog w) A (getItem (.ref t) (.ref sl)) Q E s := by
  have htake : sizeOk (.seq items.toList.reverse.toArray) := by
    show items.toList.reverse.toArray.size ≤ sizeLine
    rw [List.size_toArray, List.length_reverse, Array.length_toList]
    omega
  obtain ⟨os, hos, hcs, hds⟩ := id hs
  have hTs : s.TypeIs (.ref sl) "slice" := ⟨os, hos, hcs⟩
  unfold getItem
  try with_reducible refine wpAny_holding ?_
  first | refine wpAny_bind (wpAny_pure ?_) | skip
  refine wpAny_bind (wpAny_sequenceKey ht.typeIs (by decide) ?_)
  refine wpAny_bind (wpAny_callSpecial?_slot (name := Str.ofString "__getitem__") ht.typeIs PyProof.Rows.slot_tuple_getitem
    (wpAny_call_entry PyProof.Rows.slot_tuple_getitem ht.typeIs entry_tuple_getitem ?_ (args_tuple_getitem _ _)))
  show wpAny _ _ (Builtin.Tuple.tupleItemsOf (.ref t) >>= _) _ _ s
  refine wpAny_bind (tupleItemsOf_ ht ?_)
  refine wpAny_bind (wpAny_typeOf hTs ?_)
  rw [if_pos (by decide)]
  refine wpAny_bind ?_
  · unfold Builtin.Slice.sliceApplied Builtin.Slice.sliceFields
    refine wpAny_bind (wpAny_bind (wpAny_field hos hds (x := .none) rfl (wpAny_bind (wpAny_field hos hds (x := .none) rfl (wpAny_bind (wpAny_field hos hds (x := .int (-1) tk) rfl (wpAny_pure ?_)))))))
    refine wpAny_bind (slicePart_int ?_)
    show wpAny _ _ (if ((-1 : Int) == 0) = true then _ else _) _ _ s
    rw [if_neg (by decide)]
    refine wpAny_bind (slicePart_none (wpAny_bind (slicePart_none (wpAny_bind (wpAny_pure ?_)))))
    show wpAny _ _ (match Builtin.Slice.sliceAdjust none none (-1) (items.size : Int) with | (lo, hi) => pure (lo, (-1 : Int), Builtin.Slice.slicePlaces lo hi (-1))) _ _ s
    have e1 : Builtin.Slice.sliceAdjust none none (-1) (items.size : Int) = ((items.size : Int) - 1, -1) := by
      unfold Builtin.Slice.sliceAdjust
      simp
    rw [e1]
    show wpAny _ _ (pure ((items.size : Int) - 1, (-1 : Int), Builtin.Slice.slicePlaces ((items.size : Int) - 1) (-1) (-1))) _ _ s
    rw [places_rev]
    exact wpAny_pure (by
      have hno : ¬ ((((items.size : Int) - 1) == 0 && (-1 : Int) == 1 && items.size == items.size) = true) := by
        simp
      show wpAny _ _ (if (((items.size : Int) - 1) == 0 && (-1 : Int) == 1 && items.size == items.size) = true then _ else _) _ _ s
      rw [if_neg hno, pick_rev]
      first
        | exact wpAny_bind (m := Builtin.Tuple.tupleExact _) (wpAny_newObj_type (wpAny_pure ⟨_, rfl, wpAny_pure h⟩) htake)
        | exact wpAny_bind (m := Builtin.Tuple.tupleExact _) (wpAny_newObj_type (wpAny_bind (wpAny_pure (wpAny_pure ⟨_, rfl, wpAny_pure h⟩))) htake)
        | exact wpAny_bind (wpAny_bind (m := Builtin.Tuple.tupleExact _) (wpAny_newObj_type (wpAny_pure (wpAny_pure ⟨_, rfl, wpAny_pure h⟩)) htake))
        | exact wpAny_bind (wpAny_bind (m := Builtin.Tuple.tupleExact _) (wpAny_newObj_type (wpAny_pure ⟨_, rfl, wpAny_pure h⟩) htake)))
end
section
variable {X : Cx}
def tRevT (K : PySem.W.Frag) (te : TE) : TE := fun σ H Q => te σ H fun x H1 => ∃ a xs, x = .ref a ∧ SqT K H1 a xs ∧ ∀ p, H1 p = none → Q (.ref p) (upd H1 p (.tup xs.reverse))
theorem pe_revT {e : Expr} {te : TE} {k : Nat} {p1 p2 p3 pos : Pos} (he : PE X e te) : PE X (.Subscript e (.Slice none none (some (.UnaryOp .USub (.Constant (.int 1) k p1) p2)) p3) pos) (tRevT X.K te) := by
  refine ⟨fun pins s σ H Q I h => ?_⟩
  refine Subscript_ (thn (he.run pins s σ H _ I h) fun v s1 ⟨x, H1, I1, r1, q1⟩ => ?_)
  obtain ⟨a, xs, ex, hx, q⟩ := q1
  subst ex
  cases r1
  have hst : PO X (some (.UnaryOp .USub (.Constant (.int 1) k p1) p2)) (tPart (tUn (rU fun i => .int (-i)) (tC (.int 1)))) := po_some (pe_un un_neg pe_int)
  refine wpAny_Slice (thn (po_none.run pins s1 σ H1 (fun o H2 => o = none ∧ H2 = H1) I1 ⟨rfl, rfl⟩) fun vl s2 ⟨l, H2, I2, pl, el, e2⟩ => ?_)
  subst el e2
  refine thn (po_none.run pins s2 σ H2 (fun o H3 => o = none ∧ H3 = H2) I2 ⟨rfl, rfl⟩) fun vu s3 ⟨u, H3, I3, pu, eu, e3⟩ => ?_
  subst eu e3
  refine thn (hst.run pins s3 σ H3 (fun o H4 => o = some (-1) ∧ H4 = H3) I3 ⟨1, rfl, -1, rfl, rfl, rfl⟩) fun vs s4 ⟨o, H4, I4, ps, eo, e4⟩ => ?_
  subst eo e4
  cases pl
  cases pu
  cases ps with | int _ tk => ?_
  have I5 : Inv X pins σ H4 { s4 with heap := s4.heap.push { cls := .type "slice", data := .fields #[.none, .none, .int (-1) tk] } } := I4.kept (t' := s4.toks) fun b ob q => Heap.get?_push_of_some _ q
  obtain ⟨its, r, ht, hz⟩ := I5.tuple hx
  have hlen := r.length
  show wpAny (model X.prog X.w) X.A (subscriptTail e (.Slice none none (some (.UnaryOp .USub (.Constant (.int 1) k p1) p2)) p3) (.ref a) (.ref s4.heap.objs.size)) (EP X pins σ Q) X.xe { s4 with heap := s4.heap.push { cls := .type "slice", data := .fields #[.none, .none, .int (-1) tk] } }
  refine tail_any (ops := [.ref a, .ref s4.heap.objs.size]) ht.typeIs (PyProof.Rows.slot_tuple_getitem.lookup) ?_ (by with_unfolding_all rfl)
  refine getItem_tuple_rev ht (Heap.IsSliceOf.new _ .none .none (.int (-1) tk)) ?_ (by rw [List.size_toArray]; omega)
  refine ⟨.ref _, _, I5.laid (t' := s4.toks) (o := .tup xs.reverse) (fun b ob q => Heap.get?_push_of_some _ q) (Nat.le_refl _) ?_, rfl, q _ (I5.hok.fresh (Nat.le_refl _))⟩
  exact ⟨by rw [List.length_reverse]; exact hz, _, r.reverse, IsTup.new _ _⟩
end
section
variable {K : PySem.W.Frag} {ss : List Slot} {te : TE} {ds : List PyData}
theorem ep_revT (h : EvP te ss (.tuple ds)) : EvP (tRevT K te) ss (.tuple ds.reverse) := fun av H σ l f Q q => h av H σ l f _ fun v H1 e r => by
  simp only [Da] at r
  obtain ⟨a, us, ev, hp, r⟩ := r
  exact ⟨a, us, ev, hp.sq, fun p ha => q _ _ (e.trans (Ex.new ha)) (da_new (l.ex e) ha r.reverse)⟩
end
end Uh

set_option Elab.async false
set_option linter.all false
set_option maxRecDepth 100000
set_option maxHeartbeats 1000000
namespace Uh
open PySem PySem.Spec PyProof.Rows L2
open Evl (Ex)
/-! ### never asked -/
section
variable {X : Cx} {e : Expr}
def tNevT : TT := fun _ _ _ => False
theorem pt_nev : PT X e tNevT := ⟨fun _ _ _ _ _ _ h => h.elim⟩
def tNevE : TE := fun _ _ _ => False
theorem pe_nev : PE X e tNevE := ⟨fun _ _ _ _ _ _ h => h.elim⟩
end
abbrev rIsNo : R2 := fun x y H Q => y = .non ∧ Q (.bl (decide (x = .non))) H
abbrev rNotNo : R2 := fun x y H Q => y = .non ∧ Q (.bl (!decide (x = .non))) H
/-! ### further rules over data -/
section
variable {W : Wd} {K : PySem.W.Frag} {n : Nat} {ss : List Slot} {te ta tb : TE} {tu tw : TS} {tc : TT} {P : Out → Prop} {x y d : PyData}
theorem rs_par {i j : Nat} {t : TA} (h : EvA t ss [x, y]) (p : P (.nx n ((ss.set i (.d x)).set j (.d y)))) : RunS W (tPar i j t) n ss P := fun D H σ s g => by
  refine h _ H σ s.live s.fits _ fun vs H2 e r => ?_
  obtain ⟨v, w, rfl, r1, r2⟩ := da_two r
  have s2 := s.ext e
  refine ⟨v, w, rfl, g.nx n _ H2 _ p (.of_ex e) (Fr.plain rfl (Fr.plain rfl .self)) ?_⟩
  have s3 := s2.set (i := i) r1
  refine s3.set (i := j) (r2.weak fun a z => z.imp id fun w => (owns_set_sub rfl).subset w)
theorem rs_ifT (h : EvT tc ss true) (h1 : RunS W tu n ss P) : RunS W (tIfS tc tu tw) n ss P := rs_if h (fun _ => h1) fun z => by cases z
theorem rs_ifF (h : EvT tc ss false) (h1 : RunS W tw n ss P) : RunS W (tIfS tc tu tw) n ss P := rs_if h (fun z => by cases z) fun _ => h1
theorem ep_ifT (h : EvT tc ss true) (h1 : EvP ta ss d) : EvP (tIf tc ta tb) ss d := ep_if h (fun _ => h1) fun z => by cases z
theorem ep_ifF (h : EvT tc ss false) (h1 : EvP tb ss d) : EvP (tIf tc ta tb) ss d := ep_if h (fun z => by cases z) fun _ => h1
theorem et_orT {t u : TT} (h : EvT t ss true) : EvT (tOr t u) ss true := et_or (b := true) h fun z => by cases z
theorem et_orF {t u : TT} {b : Bool} (h : EvT t ss false) (k : EvT u ss b) : EvT (tOr t u) ss b := et_or h fun _ => k
theorem et_andF {t u : TT} (h : EvT t ss false) : EvT (tAnd t u) ss false := et_and (b := false) h fun z => by cases z
theorem et_andT {t u : TT} {b : Bool} (h : EvT t ss true) (k : EvT u ss b) : EvT (tAnd t u) ss b := et_and h fun _ => k
theorem ep_andT {b : Bool} (h : EvP ta ss (.bool true)) (k : EvP tb ss (.bool b)) : EvP (tAndV ta tb) ss (.bool b) := ep_andV h fun _ => k
theorem ep_andF (h : EvP ta ss (.bool false)) : EvP (tAndV ta tb) ss (.bool false) := ep_andV (b := false) h fun z => by cases z
theorem ep_orT (h : EvP ta ss (.bool true)) : EvP (tOrV ta tb) ss (.bool true) := ep_orV (b := true) h fun z => by cases z
theorem ep_orF {b : Bool} (h : EvP ta ss (.bool false)) (k : EvP tb ss (.bool b)) : EvP (tOrV ta tb) ss (.bool b) := ep_orV h fun _ => k
/-- list(range(n)) -/
theorem ef_listRg {m : Int} (h : EvP te ss (.int m)) (h0 : 0 ≤ m) (h1 : m ≤ 100000) : EvF (tLstRg (tRg1 te)) ss ((irange 0 m.toNat).map PyData.int) := fun av H σ l f Q q => h av H σ l f _ fun v H1 e r => by
  have ev : v = .int m := by simpa [Da] using r
  refine ⟨m, ev, .of_le (by omega) (by omega) (by omega) h0, fun p ha => ?_⟩
  refine q p _ _ (e.trans (Ex.new ha)) (Evl.fresh_back e ha) upd_same ?_
  have e2 : rgV 0 m = (irange 0 m.toNat).map V.int := by
    unfold rgV irange
    rw [List.map_map, Int.sub_zero]
    rfl
  rw [e2]
  exact DaL.ints
end
/-- data of texts -/
theorem decS {s t : Str} {b : Bool} (h : decide (s = t) = b) : decide (s = t) = b := h
end Uh

set_option Elab.async false
set_option linter.all false
set_option maxRecDepth 100000
set_option maxHeartbeats 1000000
/-! Short statement rules; sorts and members as data. -/
namespace Uh
open PySem L2
section
variable {W : Wd} {n : Nat} {ss : List Slot} {te : TE} {tu tb tc' : TS} {tc : TT} {P : Out → Prop} {x y d : PyData}
theorem sa {i : Nat} (h : EvP te ss d) (k : RunS W tu n (ss.set i (.d d)) P) : RunS W (tSeq (tAsg te (gName i)) tu) n ss P := rs_seq (rs_asg h k)
theorem sp2 {i j : Nat} {t : TA} (h : EvA t ss [x, y]) (k : RunS W tu n ((ss.set i (.d x)).set j (.d y)) P) : RunS W (tSeq (tPar i j t) tu) n ss P := rs_seq (rs_par h k)
theorem sf (h : EvT tc ss false) (k : RunS W tu n ss P) : RunS W (tSeq (tIfS tc tb tNext) tu) n ss P := rs_seq (rs_ifF h (rs_next k))
theorem sdrop (h : EvP te ss d) (k : RunS W tu n ss P) : RunS W (tSeq (tDrop te) tu) n ss P := rs_seq (rs_drop h k)
theorem sret (h : EvP te ss d) (p : P (.rt n d)) : RunS W (tSeq (tRet te) tu) n ss P := rs_seq (rs_ret h p)
theorem st (h : EvT tc ss true) (k : RunS W tb n ss (Then W tu P)) : RunS W (tSeq (tIfS tc tb tc') tu) n ss P := rs_seq (rs_ifT h k)
theorem str (h : EvT tc ss true) (k : EvP te ss d) (p : P (.rt n d)) : RunS W (tSeq (tIfS tc (tRet te) tc') tu) n ss P := rs_seq (rs_ifT h (rs_ret k p))
theorem snew {i : Nat} {xs : List PyData} (h : EvF te ss xs) (k : ∀ a, RunS W tu n (ss.set i (.own a xs)) P) : RunS W (tSeq (tAsg te (gName i)) tu) n ss P := rs_seq (rs_new h k)
theorem sapp {K : PySem.W.Frag} {i : Nat} {a : Addr} {xs : List PyData} (hi : ss[i]? = some (.own a xs)) (hz : xs.length < 100000) (h : EvP te ss d) (k : RunS W tu n (ss.set i (.own a (xs ++ [d]))) P) :
    RunS W (tSeq (tDrop (tBM K "list" rAppend (tVar i) (tCons te tNil))) tu) n ss P := rs_seq (rs_app hi hz h k)
theorem sfor {α : Type} {wi : TI} {g : TG} {xs : List α} {enc : α → PyData} {f : α → List Slot → List Slot} (Inv : Nat → Nat → List Slot → Prop) (hw : Wk wi ss (xs.map enc)) (hg : ∀ a ∈ xs, TgD g (enc a) (f a)) (h0 : Inv 0 n ss)
    (hs : ∀ (i : Nat) (a : α) n' ss', xs[i]? = some a → Inv i n' ss' → RunS W tb n' (f a ss') (Turn' (Then W tu P) (Inv (i + 1)))) (hd : ∀ n' ss', Inv xs.length n' ss' → RunS W tu n' ss' P) : RunS W (tSeq (tFor wi g tb) tu) n ss P :=
  rs_seq (rs_for hw hg Inv h0 hs hd)
end
def allS : List PyData → Bool
  | [] => true
  | .str _ :: r => allS r
  | _ :: _ => false
def anyS (s : Str) : List PyData → Bool
  | [] => false
  | .str z :: r => decide (z = s) || anyS s r
  | _ :: r => anyS s r
theorem anyS_map {s : Str} : ∀ {ds : List PyData}, allS ds = true → ∃ zs : List Str, ds = zs.map .str ∧ anyS s ds = zs.any fun z => decide (z = s)
  | [], _ => ⟨[], rfl, rfl⟩
  | .str z :: r, h => by
    obtain ⟨zs, e, k⟩ := anyS_map (s := s) (ds := r) h
    exact ⟨z :: zs, by rw [e]; rfl, by show (decide (z = s) || anyS s r) = _; rw [k]; rfl⟩
  | .none :: _, h => by cases h
  | .bool _ :: _, h => by cases h
  | .int _ :: _, h => by cases h
  | .list _ :: _, h => by cases h
  | .tuple _ :: _, h => by cases h
  | .dict _ :: _, h => by cases h
theorem ep_inG {K : PySem.W.Frag} {ss : List Slot} {te tt : TE} {s : Str} {ds : List PyData} (h : EvP te ss (.str s)) (ht : EvP tt ss (.tuple ds)) (hs : allS ds = true) : EvP (tOp (rIn K false) te tt) ss (.bool (anyS s ds)) := by
  obtain ⟨zs, e, k⟩ := anyS_map (s := s) hs
  subst e
  rw [k]
  exact ep_op h ht od_inS
/-- the word of a sort without parts -/
def wdS (sg : Bool) : Str := if sg then "subset" else "bag"
abbrev leafD (sg : Bool) (n : Nat) : PyData := .tuple [.str (wdS sg), .int (n : Nat)]
def srtD (sg : Bool) : List Nat → PyData
  | [] => .none
  | n :: ns => match ns with
    | [] => leafD sg n
    | _ :: _ => .tuple [.str "pair", leafD sg n, srtD sg ns]
theorem srtD_one {sg : Bool} {n : Nat} : srtD sg [n] = leafD sg n := rfl
theorem srtD_two {sg : Bool} {n m : Nat} {ns : List Nat} : srtD sg (n :: m :: ns) = .tuple [.str "pair", leafD sg n, srtD sg (m :: ns)] := rfl
def memD : List (List Int) → PyData
  | [] => .none
  | c :: cs => match cs with
    | [] => ltD c
    | _ :: _ => .tuple [ltD c, memD cs]
theorem memD_two {c e : List Int} {cs : List (List Int)} : memD (c :: e :: cs) = .tuple [ltD c, memD (e :: cs)] := rfl
theorem srtD_shape (sg : Bool) : ∀ ns : List Nat, ns ≠ [] → (∃ n, ns = [n]) ∨ ∃ n m l, ns = n :: m :: l
  | [], h => absurd rfl h
  | [n], _ => .inl ⟨n, rfl⟩
  | n :: m :: l, _ => .inr ⟨n, m, l, rfl⟩
section
variable {ss : List Slot} {te : TE} {K : PySem.W.Frag}
theorem et_orG {t u : TT} {a b : Bool} (h : EvT t ss a) (k : EvT u ss b) : EvT (tOr t u) ss (a || b) := et_or h fun _ => k
theorem et_andG {t u : TT} {a b : Bool} (h : EvT t ss a) (k : EvT u ss b) : EvT (tAnd t u) ss (a && b) := et_and h fun _ => k
theorem ep_orG {ta tb : TE} {a b : Bool} (h : EvP ta ss (.bool a)) (k : EvP tb ss (.bool b)) : EvP (tOrV ta tb) ss (.bool (a || b)) := ep_orV h fun _ => k
theorem ep_andG {ta tb : TE} {a b : Bool} (h : EvP ta ss (.bool a)) (k : EvP tb ss (.bool b)) : EvP (tAndV ta tb) ss (.bool (a && b)) := ep_andV h fun _ => k
theorem ep_chainG {ta tb tc : TE} {r r' : R2} {x y z : PyData} {b b' : Bool} (ha : EvP ta ss x) (hb : EvP tb ss y) (hr : OpD r x y (.bool b)) (hc : EvP tc ss z) (hr' : OpD r' y z (.bool b')) : EvP (tChain r r' ta tb tc) ss (.bool (b && b')) := ep_chain ha hb hr (fun _ => hc) hr'
theorem ep_tupG {ta : TA} {ds : List PyData} (h : EvA ta ss ds) (hz : Nat.ble ds.length 100000 = true) : EvP (tTup ta) ss (.tuple ds) := ep_tup h (Nat.le_of_ble_eq_true hz)
theorem ef_lstG {ta : TA} {ds : List PyData} (h : EvA ta ss ds) (hz : Nat.ble ds.length 100000 = true) : EvF (tLst ta) ss ds := ef_lst h (Nat.le_of_ble_eq_true hz)
theorem ca_isiG {x : PyData} {T : String} {b : Bool} {ta : TE} (hx : EvP ta ss x) (hk : kitB (tyD x) T = some b) : EvP (tCB (rIsi K) (tCons ta (tCons (tC (.ty T)) tNil))) ss (.bool b) := ca_isi hx ev_ty hk
theorem at1_0 {a : PyData} : atI [a] 0 = some a := rfl
theorem at3_0 {a b c : PyData} : atI [a, b, c] 0 = some a := rfl
theorem at3_1 {a b c : PyData} : atI [a, b, c] 1 = some b := rfl
theorem at3_2 {a b c : PyData} : atI [a, b, c] 2 = some c := rfl
theorem at2_0 {a b : PyData} : atI [a, b] 0 = some a := rfl
theorem at2_1 {a b : PyData} : atI [a, b] 1 = some b := rfl
end
end Uh

set_option Elab.async false
set_option linter.all false
set_option maxRecDepth 100000
set_option maxHeartbeats 400000
/-! Exceptions. -/
namespace Uh
open PySem PySem.Spec PyProof.Rows L2
open Evl (Ex)
/-! ### calls that may raise -/
def tCallX (sp : Sp) (W : WX) (t : TA) : TE := fun σ H Q => t σ H fun vs H1 => sp vs H1 Q fun cls d H' => W cls d σ H'
def tCallKX (n m : Nat) (sp : Sp) (W : WX) (t tk : TA) : TE := fun σ H Q => t σ H fun vs H1 => tk σ H1 fun zs H2 => vs.length = n ∧ zs.length = m ∧ sp (vs ++ zs) H2 Q fun cls d H' => W cls d σ H'
section
variable {X : Cx} {k : Nat} {f C : Addr} {fd : FuncData} {ps ks : List Str} {sp : Sp} {W : WX} {x : Str} {p pos : Pos} {e : Expr} {es : List Expr} {kws : List Keyword} {t tk : TA}
theorem run_fnX {pins : List (Addr × Obj)} {σ : L2.St} {H : Hp} {s : Shared} {Q : VK} {us : List Value} {vs : List V} {args : Args} (F : FnOk X.prog X.w X.K X.mg X.base (L2.CX X.prog X.w) k f fd ps sp) (hr : Room k X.A) (tk : Takes X W)
    (I : Inv X pins σ H s) (hb : BindsTo s fd args (ps.zip us)) (r : Vals vs us) (h : sp vs H Q fun cls d H' => W cls d σ H') : wpAny (model X.prog X.w) X.A (call (.ref f) args.pos args.kw) (EP X pins σ Q) X.xe s := by
  refine wpAny_call (codeAny_mono (F.run X.A X.stack s H args us vs Q (fun cls d H' => W cls d σ H') hr I.env0 hb r h) fun r s' hq => ?_)
  cases r with
  | error e => exact tk e s' (XE.of_call I (fun cls d H' h => h) hq)
  | ok fl =>
    cases fl with
    | ret u => exact I.after hq
    | next => exact False.elim hq
    | brk => exact False.elim hq
    | cont => exact False.elim hq
theorem pe_callX (F : FnOk X.prog X.w X.K X.mg X.base (L2.CX X.prog X.w) k f fd ps sp) (hr : Room k X.A) (hg : Gl X x) (hm : X.mg x = some (.ref f)) (hk : PySem.W.keepIn X.K (.ref f) = true) (hb : Binds X.K fd ps []) (tk : Takes X W)
    (ha : PA X (e :: es) t) (hdb : (x == ("__debug__" : Str)) = false := by decide) (he : starEach (e :: es) X.env = (false, eval e X.env) :: starEach es X.env := by rfl) (hpl : (backTo pos (starEach es X.env)).any (·.1) = false := by rfl) :
    PE X (.Call (.Name x p) (e :: es) [] pos) (tCallX sp W t) := by
  refine ⟨fun pins s σ H Q I h => ?_⟩
  refine wpAny_Call_Name_kw (ld_glob I hg hm ?_ hdb)
  refine PySem.W.callWith_K (h₀ := X.base) I.ok.mod.kin hk (thn (ha.run pos pins s σ H _ I h) fun us s1 ⟨vs, H1, I1, r, q⟩ => ⟨I1.kIn, ?_⟩) he hpl
  have hl : (us ++ []).length = ps.length := by
    rw [List.append_nil, ← r.length]
    exact F.len _ _ _ _ q
  have hbs := hb s1 us I1.kIn hl
  rw [List.append_nil] at hbs
  exact run_fnX (args := ⟨us, []⟩) F hr tk I1 hbs r q
theorem pe_callKX {n : Nat} (F : FnOk X.prog X.w X.K X.mg X.base (L2.CX X.prog X.w) k f fd ps sp) (hr : Room k X.A) (hg : Gl X x) (hm : X.mg x = some (.ref f)) (hk : PySem.W.keepIn X.K (.ref f) = true) (hb : KBn X.K fd ps n ks (fun a b => a ++ b) (fun a b => a ++ b)) (htk : Takes X W)
    (ha : PA X (e :: es) t) (hkw : PK X kws tk) (hall : (backToKw pos (keywordEach kws X.env)).all (·.1.isSome) = true := by rfl) (hks : (backToKw pos (keywordEach kws X.env)).filterMap (·.1) = ks := by rfl)
    (hdb : (x == ("__debug__" : Str)) = false := by decide) (he : starEach (e :: es) X.env = (false, eval e X.env) :: starEach es X.env := by rfl)
    (hpl : ((backTo pos (starEach (e :: es) X.env)).any (·.1) || (backToKw pos (keywordEach kws X.env)).any (·.1.isNone)) = false := by rfl) :
    PE X (.Call (.Name x p) (e :: es) kws pos) (tCallKX n ks.length sp W t tk) := by
  refine ⟨fun pins s σ H Q I h => ?_⟩
  refine wpAny_Call_Name_kw (ld_glob I hg hm ?_ hdb)
  refine PySem.W.callWith_KW (h₀ := X.base) I.ok.mod.kin hk hall (thn (ha.run pos pins s σ H _ I h) fun us s1 ⟨vs, H1, I1, r, q⟩ => ?_) hpl he
  refine thn (hkw.run pos pins s1 σ H1 _ I1 q) fun ws s2 ⟨zs, H2, I2, rz, l1, l2, q2⟩ => ⟨I2.kIn, ?_⟩
  rw [hks]
  exact run_fnX (args := ⟨us, ks.zip ws⟩) F hr htk I2 (hb.to s2 us ws I2.kIn (r.length.symm.trans l1) (rz.length.symm.trans l2)) (r.append rz) q2
/-- f(a, sign=b) of def f(a, *, sign) -/
theorem kbn_sign {K : PySem.W.Frag} {y qual : Str} {params : Arguments} {body : List Stmt} {scope : Scope} {f : Addr} {fd : FuncData} {x1 x2 : Str} (F : FunD K y qual params body scope [] [] f fd)
    (h : ∀ (kV doc pm : Value) (an : Option Addr) (cdv ct : Value) (u w : Value), bindArgs (PySem.W.fnOf y qual params body scope .none kV doc pm an cdv ct) ⟨[u], [(x2, w)]⟩ = pure [(x1, u), (x2, w)]) : KBn K fd [x1, x2] 1 [x2] (fun a b => a ++ b) (fun a b => a ++ b) := by
  obtain ⟨oc, od, dV, kV, doc, pm, an, cdv, ct, osl, rfl, lk, hcd, hD, hK⟩ := F.ex
  rcases hD with ⟨_, rfl⟩ | ⟨e, _⟩
  · refine ⟨fun s us ws _ l1 l2 => ?_, fun r1 r2 => r1.append r2⟩
    match us, ws, l1, l2 with
    | [u], [w], _, _ => exact .of_eq (h kV doc pm an cdv ct u w)
  · exact absurd rfl e
end
/-! over data -/
section
variable {W : Wd} {n : Nat} {ss : List Slot} {te : TE} {ta tk : TA} {ds es : List PyData} {z : PyData} {R : List PyData → Rs → Prop} {P : Out → Prop} {c : Xc} {Wx : WX}
theorem ep_callX (h : EvA ta ss ds) (hr : R ds (.val z)) : EvP (tCallX (SpX R) Wx ta) ss z := fun av H σ l f Q q =>
  h av H σ l f _ fun vs H1 e1 d1 => ⟨av, ds, .val z, l.ex e1, d1, hr, fun v H' e d' => q v H' (e1.trans e) d'⟩
theorem ep_callKX (h : EvA ta ss ds) (hk : EvA tk ss es) (hr : R (ds ++ es) (.val z)) : EvP (tCallKX ds.length es.length (SpX R) Wx ta tk) ss z := fun av H σ l f Q q =>
  h av H σ l f _ fun vs H1 e1 d1 => hk av H1 σ (l.ex e1) (f.ex e1) _ fun us H2 e2 d2 => ⟨d1.length.symm, d2.length.symm, av, ds ++ es, .val z, (l.ex e1).ex e2, (d1.ext e2).append d2, hr, fun v H' e d' => q v H' ((e1.trans e2).trans e) d'⟩
/-- an expression that raises c -/
def EvX (W : Wd) (te : TE) (n : Nat) (ss : List Slot) (c : Xc) : Prop := ∀ (H : Hp) (σ : L2.St), Sl W n H σ ss → (∀ cls d H', Ex H H' → XcIs (avd W (owns ss)) H' c cls d → W.xk cls d σ H') → ∀ Q : VK, te σ H Q
theorem ex_callX (h : EvA ta ss ds) (hr : R ds (.exc c)) : EvX W (tCallX (SpX R) W.xk ta) n ss c := fun H σ s w Q =>
  h _ H σ s.live s.fits _ fun vs H1 e1 d1 => ⟨avd W (owns ss), ds, .exc c, s.live.ex e1, d1, hr, fun cls d H' e x => w cls d H' (e1.trans e) x⟩
theorem ex_callKX (h : EvA ta ss ds) (hk : EvA tk ss es) (hr : R (ds ++ es) (.exc c)) : EvX W (tCallKX ds.length es.length (SpX R) W.xk ta tk) n ss c := fun H σ s w Q =>
  h _ H σ s.live s.fits _ fun vs H1 e1 d1 => hk _ H1 σ (s.live.ex e1) (s.fits.ex e1) _ fun us H2 e2 d2 => ⟨d1.length.symm, d2.length.symm, avd W (owns ss), ds ++ es, .exc c, (s.live.ex e1).ex e2, (d1.ext e2).append d2, hr, fun cls d H' e x => w cls d H' ((e1.trans e2).trans e) x⟩
theorem rs_xc {ts : TS} (h : EvX W te n ss c) (hts : ∀ D σ H, (∀ Q, te σ H Q) → ts D σ H) (p : P (.xc n ss c)) : RunS W ts n ss P := fun D H σ s g =>
  hts D σ H fun Q => h H σ s (fun cls d H' e x => g.xc n ss c cls d H' σ p (.of_ex e) .self (s.ext e) x) Q
theorem rs_dropX (h : EvX W te n ss c) (p : P (.xc n ss c)) : RunS W (tDrop te) n ss P := rs_xc h (fun D σ H k => k _) p
theorem rs_asgX {g : TG} (h : EvX W te n ss c) (p : P (.xc n ss c)) : RunS W (tAsg te g) n ss P := rs_xc h (fun D σ H k => k _) p
theorem rs_retX (h : EvX W te n ss c) (p : P (.xc n ss c)) : RunS W (tRet te) n ss P := rs_xc h (fun D σ H k => k _) p
end
/-! ### UnitError.__init__(self, ..) -/
structure UeC (K : PySem.W.Frag) (U : Addr) : Prop where
  rd : PySem.W.readsIn K U (.type "type") = true
  ga : PySem.W.specialIn K (.ref U) "__getattribute__" = some (some (.builtin "type.__getattribute__"))
  it : PySem.W.findCls K (.ref U) (.type "type") "__init__" = some (.val (.builtin "ValueError.__init__"))
section
variable {X : Cx} {o e : Expr} {es : List Expr} {to te : TE} {ta : TA} {x : Str} {p p' p1 p2 pos : Pos} {U : Addr}
theorem pe_uinit {pl : Sem Bool} (hg : Gl X x) (hm : X.mg x = some (.ref U)) (T : UeC X.K U) (ha : PA X (e :: es) ta) (hdb : (x == ("__debug__" : Str)) = false := by decide)
    (hc : eval (.Call (.Attribute (.Name x p1) "__init__" p2) (e :: es) [] pos) X.env = (do
      let ov ← eval (.Name x p1) X.env
      standAt p2.atName
      let (f, first) ← holding [ov] (getMethod ov "__init__" pl)
      callWith pos f first (backTo pos (starEach (e :: es) X.env)) (backToKw pos (keywordEach [] X.env))) := by rfl)
    (he : starEach (e :: es) X.env = (false, eval e X.env) :: starEach es X.env := by rfl) (hpl : (backTo pos (starEach es X.env)).any (·.1) = false := by rfl) :
    PE X (.Call (.Attribute (.Name x p1) "__init__" p2) (e :: es) [] pos) (tVeI X.K ta) := by
  refine ⟨fun pins s σ H Q I h => ?_⟩
  refine PySem.W.methodCall_KW (ld_glob I hg hm ?_ hdb) hc
  refine PySem.W.method_cls I.kIn T.ga (PySem.W.cls_value I.kIn T.rd T.it (by decide +kernel) ?_)
  show wpAny _ _ (callWith pos (Value.builtin "ValueError.__init__") [] (backTo pos (starEach (e :: es) X.env)) []) _ _ _
  refine PyProof.Rows.callWith_method1 (thn (ha.run pos pins _ σ H _ (I.tok _) h) fun us s1 ⟨vs, H1, I1, r1, a, C, ws, ev, hl, T, ea, q⟩ => ?_) he hpl
  subst ev
  cases r1 with
  | @cons _ u0 _ ur ra rw' =>
    obtain rfl : u0 = Value.ref a := ra
    have hlen : ur.length ≤ sizeLine := by
      rw [← Paired.length rw', sizeLine_eq]
      omega
    exact oinit_ok T I1 ea hlen fun s' J => ⟨.non, H1, J, rfl, q⟩
end
/-! ### the __init__ of an own error -/
/-- one field -/
def spI1 (K : PySem.W.Frag) (C : Addr) (f : Str) : Sp := fun vs H Q _ => ∃ (a : Addr) (v : V), vs = [.ref a, v] ∧ H a = some (exo a C none) ∧ OexC K C ∧ PySem.W.findIn K (.ref C) f = some none ∧
  ∀ dx, H dx = none → dx ≠ a → Q .non (upd (upd H dx (exd dx [(f, v)])) a (exo a C (some dx)))
/-- two fields -/
def spI2 (K : PySem.W.Frag) (C : Addr) (f f2 : Str) : Sp := fun vs H Q _ => ∃ (a : Addr) (v w : V), vs = [.ref a, v, w] ∧ H a = some (exo a C none) ∧ OexC K C ∧ PySem.W.findIn K (.ref C) f = some none ∧ PySem.W.findIn K (.ref C) f2 = some none ∧
  ∀ dx, H dx = none → dx ≠ a → Q .non (upd (upd (upd H dx (exd dx [(f, v)])) a (exo a C (some dx))) dx (exd dx [(f2, w), (f, v)]))
def tI1 (K : PySem.W.Frag) (f m : Str) : TS := tSeq (tDrop (tVeI K (tCons (tVar 0) (tCons (tC (.str m)) tNil)))) (tOst K f (tVar 0) (tVar 1))
def tI2 (K : PySem.W.Frag) (f f2 m : Str) : TS := tSeq (tDrop (tVeI K (tCons (tVar 0) (tCons (tC (.str m)) tNil)))) (tSeq (tOst K f (tVar 0) (tVar 1)) (tOst K f2 (tVar 0) (tVar 2)))
theorem run_I1 {K : PySem.W.Frag} {C : Addr} {f m x1 x2 : Str} {vs : List V} {H : Hp} {Q : VK} {E : XK} (h : spI1 K C f vs H Q E) : tI1 K f m { nx := fun _ H' => Q .non H', rt := Q } (L2.start [x1, x2] vs) H := by
  obtain ⟨a, v, rfl, ha, T, hf, q⟩ := h
  refine ⟨_, rfl, a, C, [.str m], rfl, by simp, T, ha, ?_⟩
  exact ⟨v, rfl, _, rfl, a, C, rfl, T, hf, .inl ⟨ha, fun dx n ne => q dx n ne⟩⟩
theorem run_I2 {K : PySem.W.Frag} {C : Addr} {f f2 m x1 x2 x3 : Str} {vs : List V} {H : Hp} {Q : VK} {E : XK} (h : spI2 K C f f2 vs H Q E) : tI2 K f f2 m { nx := fun _ H' => Q .non H', rt := Q } (L2.start [x1, x2, x3] vs) H := by
  obtain ⟨a, v, w, rfl, ha, T, hf, hf2, q⟩ := h
  refine ⟨_, rfl, a, C, [.str m], rfl, by simp, T, ha, ?_⟩
  refine ⟨v, rfl, _, rfl, a, C, rfl, T, hf, .inl ⟨ha, fun dx n ne => ?_⟩⟩
  refine ⟨w, rfl, _, rfl, a, C, rfl, T, hf2, .inr ⟨dx, [(f, v)], upd_same, ?_, by simp, q dx n ne⟩⟩
  rw [upd_ne ne, upd_same]
/-! ### raise -/
def tRaise (t : L2.St → Hp → XK → Prop) (W : WX) : TS := fun _ σ H => t σ H fun cls d H' => W cls d σ H'
section
variable {W : Wd} {n : Nat} {ss : List Slot} {K : PySem.W.Frag} {C : Addr} {f f2 : Str} {ta : TA} {d d2 : PyData} {P : Out → Prop}
theorem rs_raise1 (T : OexC K C) (hf : PySem.W.findIn K (.ref C) f = some none) (h : EvA ta ss [d]) (p : P (.xc n ss ⟨.ref C, f, d⟩)) : RunS W (tRaise (tMkO C (spI1 K C f) [] ta) W.xk) n ss P := fun D H σ s g =>
  h _ H σ s.live s.fits _ fun vs H1 e1 d1 => by
    refine ⟨by rw [← d1.length]; simp, fun a ha => ?_⟩
    obtain ⟨v, rfl, r⟩ := da_one d1
    refine ⟨a, v, rfl, upd_same, T, hf, fun dx hn ne => ⟨rfl, dx, [(f, v)], upd_same, ?_, ?_, ?_⟩⟩
    · rw [upd_ne ne, upd_same]
    · rw [upd_ne ne] at hn
      exact hn
    · rw [upd_ne ne] at hn
      have e2 : Ex H1 (upd (del (upd (upd (upd H1 a (exo a C none)) dx (exd dx [(f, v)])) a (exo a C (some dx))) a) dx (.xd [(f, v)])) := fun b o q => by
        have nb : b ≠ dx := fun z => by rw [z, hn] at q; cases q
        have na : b ≠ a := fun z => by rw [z, ha] at q; cases q
        rw [upd_ne nb, del_ne na, upd_ne na, upd_ne nb, upd_ne na]
        exact q
      exact g.xc n ss _ _ _ _ σ p (.of_ex (e1.trans e2)) .self (s.ext (e1.trans e2)) ⟨rfl, dx, [(f, v)], v, rfl, upd_same, by simp [List.lookup], r.ext e2⟩
theorem rs_raise2 (T : OexC K C) (hf : PySem.W.findIn K (.ref C) f = some none) (hf2 : PySem.W.findIn K (.ref C) f2 = some none) (h : EvA ta ss [d, d2]) (p : P (.xc n ss ⟨.ref C, f2, d2⟩)) : RunS W (tRaise (tMkO C (spI2 K C f f2) [] ta) W.xk) n ss P := fun D H σ s g =>
  h _ H σ s.live s.fits _ fun vs H1 e1 d1 => by
    refine ⟨by rw [← d1.length]; simp, fun a ha => ?_⟩
    obtain ⟨v, w, rfl, r, r2⟩ := da_two d1
    refine ⟨a, v, w, rfl, upd_same, T, hf, hf2, fun dx hn ne => ⟨rfl, dx, [(f2, w), (f, v)], ?_, upd_same, ?_, ?_⟩⟩
    · rw [upd_ne (Ne.symm ne), upd_same]
    · rw [upd_ne ne] at hn
      exact hn
    · rw [upd_ne ne] at hn
      have e2 : Ex H1 (upd (del (upd (upd (upd (upd H1 a (exo a C none)) dx (exd dx [(f, v)])) a (exo a C (some dx))) dx (exd dx [(f2, w), (f, v)])) a) dx (.xd [(f2, w), (f, v)])) := fun b o q => by
        have nb : b ≠ dx := fun z => by rw [z, hn] at q; cases q
        have na : b ≠ a := fun z => by rw [z, ha] at q; cases q
        rw [upd_ne nb, del_ne na, upd_ne nb, upd_ne na, upd_ne nb, upd_ne na]
        exact q
      exact g.xc n ss _ _ _ _ σ p (.of_ex (e1.trans e2)) .self (s.ext (e1.trans e2)) ⟨rfl, dx, _, w, rfl, upd_same, by simp [List.lookup], r2.ext e2⟩
end
/-- a def that raises: the wish of its frame -/
theorem tk_of {P : Program} {w : World} {K : PySem.W.Frag} {mg : Str → Option Value} {base : Heap} {N : List Str} {qual : Str} {scope : Scope} {f : Addr} {cd : Value} {A : Around} {outer : List Env} {s : Shared} {H : Hp} {E : XK} :
    Takes (cxOf (L2.CX P w) P w K mg base N qual scope f cd A outer s H E) (fun cls d _ H => E cls d H) := takes_of rfl rfl rfl rfl
/-- try .. except C: without a name -/
def tTry1 (K : PySem.W.Frag) (c : Value) (tb : WX → TS) (ts : TS) (Wout : WX) : TS := fun D σ H => tb (wOnly K c (fun _ _ _ => ts) Wout D) D σ H
section
variable {W : Wd} {n : Nat} {ss : List Slot} {K : PySem.W.Frag} {cc : Value} {tb : WX → TS} {ts : TS} {P : Out → Prop}
theorem ps_try1 {X : Cx} {x : Str} {c : Value} {body suite : List Stmt} {b₀ : Stmt} {np pos pos' : Pos} {tb : WX → TS} {ts : TS} {Wout : WX} (hs : X.stack = X.env :: X.outer) (hf : X.env.frame = some X.env.locals) (hc : Names X x c) (tk : Takes X Wout)
    (hb : ∀ (W : WX) (pn : List (Addr × Obj)) (xe : Value → Shared → Prop), Takes (X.tr pn xe) W → PassesOwn (model X.prog X.w) X.A X.env xe → PSs (X.tr pn xe) body (tb W))
    (hsu : ∀ (a : Addr) (oe : Obj) (cls : Value) (d : Option Addr) (pn : List (Addr × Obj)), Zc cls d oe → (∃ vs, oe.data = .fields vs) → PSs (X.suite a ((a, oe) :: pn)) (b₀ :: suite) ts) :
    PS X (.Try body [.ExceptHandler (some (.Name x np)) none (b₀ :: suite) pos'] [] [] pos) (tTry1 X.K c tb ts Wout) := ps_try_only (ts := fun _ _ _ => ts) hs hf hc tk hb hsu
/-- what the body is to reach -/
def TryOut (W : Wd) (K : PySem.W.Frag) (cc : Value) (ts : TS) (P : Out → Prop) : Out → Prop
  | .xc n' ss' c => PySem.W.exmOne K c.cls cc = some true ∧ RunS W ts n' ss' P
  | o => P o
theorem rs_try1 {Wout : WX} (h : ∀ k : WX, RunS (W.wish k) (tb k) n ss (TryOut W K cc ts P)) : RunS W (tTry1 K cc tb ts Wout) n ss P := fun D H σ s g => by
  refine h _ D H σ s.unwish ⟨fun n' ss' H' σ' p t f s' => g.nx n' ss' H' σ' p t.wish f s'.wish, fun n' ss' H' σ' p t f s' => g.bk n' ss' H' σ' p t.wish f s'.wish, fun n' ss' H' σ' p t f s' => g.ct n' ss' H' σ' p t.wish f s'.wish,
    fun n' d v H' p t ok r => g.rt n' d v H' p t.wish ok r, fun n' ss' c cls d H' σ' p t f s' x => ?_⟩
  obtain ⟨p1, p2⟩ := (show PySem.W.exmOne K c.cls cc = some true ∧ RunS W ts n' ss' P from p)
  obtain ⟨rfl, _⟩ := x
  exact ⟨true, p1, fun _ a _ => p2 D H' σ' s'.wish (g.later t.wish f), fun z => nomatch z⟩
end
theorem spX_len {R : List PyData → Rs → Prop} {n : Nat} {vs : List V} {H : Hp} {Q : VK} {E : XK} (h : SpX R vs H Q E) (k : ∀ ds r, R ds r → ds.length = n) : vs.length = n := by
  obtain ⟨A, ds, r, _, d, hr, _⟩ := h
  rw [← d.length, k ds r hr]
end Uh

set_option Elab.async false
set_option linter.all false
set_option maxRecDepth 100000
set_option maxHeartbeats 400000
/-! The own errors. -/
namespace Uh
open PySem PySem.Spec PyProof.Rows L2
open Evl (Ex)
structure ErK (K : PySem.W.Frag) (x : Str) (fs : List Str) : Prop where
  oex : OexC K (He.ga K x)
  init : PySem.W.findIn K (.ref (He.ga K x)) "__init__" = some (some (.ref (He.ma K (He.ga K x) "__init__")))
  ty : PySem.W.typeIn K (.ref (He.ma K (He.ga K x) "__init__")) = some (.type "function")
  fld : ∀ f ∈ fs, PySem.W.findIn K (.ref (He.ga K x)) f = some none
  xf : XfC K (He.ga K x)
  ec : ExcC K (He.ga K x)
  self : PySem.W.exmOne K (.ref (He.ga K x)) (.ref (He.ga K x)) = some true
theorem exB_ok {K : PySem.W.Frag} {x : Str} {fs : List Str} (h : exB K x fs = true) : ErK K x fs := by
  obtain ⟨h1, h⟩ := Bool.and_eq_true_iff.mp h
  obtain ⟨h2, h⟩ := Bool.and_eq_true_iff.mp h
  obtain ⟨h3, h⟩ := Bool.and_eq_true_iff.mp h
  obtain ⟨h4, h⟩ := Bool.and_eq_true_iff.mp h
  obtain ⟨h5, h⟩ := Bool.and_eq_true_iff.mp h
  obtain ⟨h6, h⟩ := Bool.and_eq_true_iff.mp h
  obtain ⟨h7, h⟩ := Bool.and_eq_true_iff.mp h
  obtain ⟨h8, h⟩ := Bool.and_eq_true_iff.mp h
  obtain ⟨h9, h⟩ := Bool.and_eq_true_iff.mp h
  obtain ⟨h10, h⟩ := Bool.and_eq_true_iff.mp h
  obtain ⟨h11, h⟩ := Bool.and_eq_true_iff.mp h
  obtain ⟨h12, h⟩ := Bool.and_eq_true_iff.mp h
  obtain ⟨h13, h14⟩ := Bool.and_eq_true_iff.mp h
  have X := xfB_ok h9
  exact ⟨⟨oexB_ok h1, of_decide_eq_true h2, of_decide_eq_true h3, of_decide_eq_true h4, h5⟩, of_decide_eq_true h6, of_decide_eq_true h7, fun f hf => of_decide_eq_true (List.all_eq_true.mp h8 f hf), X,
    ⟨X.ga, X.gg, X.exC, X.hdC, of_decide_eq_true h10, of_decide_eq_true h11, of_decide_eq_true h12, of_decide_eq_true h13⟩, of_decide_eq_true h14⟩
structure Ers (K : PySem.W.Frag) : Prop where
  great : ErK K "TooGreat" ["most"]
  free : ErK K "NoFree" ["giver", "taker"]
  bad : ErK K "BadTable" ["value"]
  ue : UeC K (He.ga K "UnitError")
  gb : PySem.W.exmOne K (.ref (He.ga K "TooGreat")) (.ref (He.ga K "BadTable")) = some false
  bu : PySem.W.kitOne K (.ref (He.ga K "BadTable")) (.ref (He.ga K "UnitError")) = some true
  bg : PySem.W.kitOne K (.ref (He.ga K "BadTable")) (.ref (He.ga K "TooGreat")) = some false
  gu : PySem.W.kitOne K (.ref (He.ga K "TooGreat")) (.ref (He.ga K "UnitError")) = some true
theorem isVal_ok {r : Option PySem.W.CFound} {v : Value} (h : isVal r v = true) : r = some (.val v) := by
  unfold isVal at h
  split at h
  · rw [of_decide_eq_true h]
  · cases h
theorem ers {K : PySem.W.Frag} {mg : Str → Option Value} (T : Tx K mg) : Ers K := by
  have h := T.ex_
  obtain ⟨h1, h⟩ := Bool.and_eq_true_iff.mp h
  obtain ⟨h2, h⟩ := Bool.and_eq_true_iff.mp h
  obtain ⟨h3, h⟩ := Bool.and_eq_true_iff.mp h
  obtain ⟨h4, h⟩ := Bool.and_eq_true_iff.mp h
  obtain ⟨h5, h⟩ := Bool.and_eq_true_iff.mp h
  obtain ⟨h6, h⟩ := Bool.and_eq_true_iff.mp h
  obtain ⟨h7, h8⟩ := Bool.and_eq_true_iff.mp h
  obtain ⟨u1, u⟩ := Bool.and_eq_true_iff.mp h4
  obtain ⟨u2, u3⟩ := Bool.and_eq_true_iff.mp u
  exact ⟨exB_ok h1, exB_ok h2, exB_ok h3, ⟨u1, of_decide_eq_true u2, isVal_ok u3⟩, of_decide_eq_true h5, of_decide_eq_true h6, of_decide_eq_true h7, of_decide_eq_true h8⟩
section
variable {P : Program} {w : World} {K : PySem.W.Frag} {mg : Str → Option Value} {base : Heap}
abbrev cBad (K : PySem.W.Frag) : Addr := He.ga K "BadTable"
abbrev cGreat (K : PySem.W.Frag) : Addr := He.ga K "TooGreat"
abbrev cFree (K : PySem.W.Frag) : Addr := He.ga K "NoFree"
theorem sc_iBadTable : FnScope ["self", "value"] ["self", "value"] (defScope s_iBadTable) := ⟨rfl, rfl, rfl, by decide +kernel, rfl, by decide +kernel, by decide +kernel⟩
theorem ok_iBadTable (T : Tx K mg) : ∃ fd, FnOk P w K mg base CX0 2 (He.ma K (cBad K) "__init__") fd ["self", "value"] (spI1 K (cBad K) "value") ∧ Binds K fd ["self", "value"] [] := by
  have nd := sc_iBadTable.nd
  obtain ⟨fd, F⟩ := T.d_iBadTable
  refine ⟨fd, FunD.ok F sc_iBadTable (fun vs H Q E ⟨_, _, e, _⟩ => by rw [e]; rfl) (fun cdv A outer s H vs Q E hr h => ⟨tI1 K "value" "not a table that fits", PSs.nox ?_, run_I1 h⟩), F.bindsN fun _ _ _ _ _ _ us hl => match us, hl with | [_, _], _ => rfl⟩
  exact pss_cons (ps_expr (pe_uinit rfl T.g_UnitError (ers T).ue (pa_cons (pv 0) (pa_cons pe_str pa_nil)))) (pss_one (ps_ost (pv 0) (pv 1)))
theorem sc_iTooGreat : FnScope ["self", "most"] ["self", "most"] (defScope s_iTooGreat) := ⟨rfl, rfl, rfl, by decide +kernel, rfl, by decide +kernel, by decide +kernel⟩
theorem ok_iTooGreat (T : Tx K mg) : ∃ fd, FnOk P w K mg base CX0 2 (He.ma K (cGreat K) "__init__") fd ["self", "most"] (spI1 K (cGreat K) "most") ∧ Binds K fd ["self", "most"] [] := by
  have nd := sc_iTooGreat.nd
  obtain ⟨fd, F⟩ := T.d_iTooGreat
  refine ⟨fd, FunD.ok F sc_iTooGreat (fun vs H Q E ⟨_, _, e, _⟩ => by rw [e]; rfl) (fun cdv A outer s H vs Q E hr h => ⟨tI1 K "most" "greater than the bound", PSs.nox ?_, run_I1 h⟩), F.bindsN fun _ _ _ _ _ _ us hl => match us, hl with | [_, _], _ => rfl⟩
  exact pss_cons (ps_expr (pe_uinit rfl T.g_UnitError (ers T).ue (pa_cons (pv 0) (pa_cons pe_str pa_nil)))) (pss_one (ps_ost (pv 0) (pv 1)))
theorem sc_iNoFree : FnScope ["self", "giver", "taker"] ["self", "giver", "taker"] (defScope s_iNoFree) := ⟨rfl, rfl, rfl, by decide +kernel, rfl, by decide +kernel, by decide +kernel⟩
theorem ok_iNoFree (T : Tx K mg) : ∃ fd, FnOk P w K mg base CX0 2 (He.ma K (cFree K) "__init__") fd ["self", "giver", "taker"] (spI2 K (cFree K) "giver" "taker") ∧ Binds K fd ["self", "giver", "taker"] [] := by
  have nd := sc_iNoFree.nd
  obtain ⟨fd, F⟩ := T.d_iNoFree
  refine ⟨fd, FunD.ok F sc_iNoFree (fun vs H Q E ⟨_, _, _, e, _⟩ => by rw [e]; rfl) (fun cdv A outer s H vs Q E hr h => ⟨tI2 K "giver" "taker" "there is no such transfer", PSs.nox ?_, run_I2 h⟩), F.bindsN fun _ _ _ _ _ _ us hl => match us, hl with | [_, _, _], _ => rfl⟩
  exact pss_cons (ps_expr (pe_uinit rfl T.g_UnitError (ers T).ue (pa_cons (pv 0) (pa_cons pe_str pa_nil)))) (pss_cons (ps_ost (pv 0) (pv 1)) (pss_one (ps_ost (pv 0) (pv 2))))
end
end Uh

set_option Elab.async false
set_option linter.all false
set_option maxRecDepth 100000
set_option maxHeartbeats 1000000
namespace Uh
open PySem PySem.Spec PyProof.Rows L2
local macro_rules | `(tactic| walk_at "ev") => `(tactic| repeat (first
  | with_reducible exact ep_var rfl | with_reducible exact ep_int | with_reducible exact ep_bl | with_reducible exact ep_non | with_reducible exact ep_str
  | with_reducible exact ea_nil | with_reducible apply ea_cons | with_reducible apply ep_tupG | with_reducible apply ef_lstG | with_reducible exact et_yes
  | with_reducible apply ca_isiG | with_reducible exact kit_tuple _ | with_reducible exact kit_int _ | with_reducible exact kit_bool _ | with_reducible exact kit_str _
  | with_reducible apply et_test | with_reducible apply et_b | with_reducible apply et_not | with_reducible apply et_orG | with_reducible apply et_andG
  | with_reducible apply ep_orG | with_reducible apply ep_andG | with_reducible apply ep_notV | with_reducible apply ep_chainG
  | with_reducible apply ep_inG | with_reducible apply ep_op | with_reducible apply ep_un | with_reducible apply ep_cb
  | with_reducible exact od_i | with_reducible exact od_b | with_reducible exact od_eqI | with_reducible exact od_neI | with_reducible exact od_eqS | with_reducible exact od_eqB | with_reducible exact od_isN | with_reducible exact od_notN | with_reducible exact ud_i
  | with_reducible exact od_ixT at3_0 | with_reducible exact od_ixT at3_1 | with_reducible exact od_ixT at3_2 | with_reducible exact od_ixT at2_0 | with_reducible exact od_ixT at2_1
  | with_reducible exact ca_lenT | with_reducible exact ca_lenL
  | exact (show allS _ = true from rfl) | exact (show Nat.ble _ 100000 = true from rfl)))
/-! is_from -/
def R_is_from (ds : List PyData) (r : PyData) : Prop := ∃ v a b : Int, ds = [.int v, .int a, .int b] ∧ r = .bool (decide (a ≤ v) && decide (v ≤ b))
def sp_is_from (K : PySem.W.Frag) : Sp := SpP R_is_from
def t_is_from (K : PySem.W.Frag) : TS := tRet (tAndV (tCB (rIsi K) (tCons (tVar 0) (tCons (tC (.ty "int")) (tNil)))) (tAndV (tNotV (tCB (rIsi K) (tCons (tVar 0) (tCons (tC (.ty "bool")) (tNil))))) (tChain (rI0 fun i j => .bl (decide (i ≤ j))) (rI0 fun i j => .bl (decide (i ≤ j))) (tVar 1) (tVar 0) (tVar 2))))
theorem len_is_from {K : PySem.W.Frag} {vs : List V} {H : Hp} {Q : VK} {E : XK} (h : sp_is_from K vs H Q E) : vs.length = 3 := spP_len h fun ds r ⟨_, _, _, e, _⟩ => by rw [e]; rfl
theorem run_is_from (K : PySem.W.Frag) (W : Wd) (n : Nat) (ds : List PyData) (r : PyData) (h : R_is_from ds r) : RunS W (t_is_from K) n (ds.map Slot.d ++ List.replicate (3 - ds.length) .non) (fun o => o = .rt n r) := by
  obtain ⟨v, a, b, rfl, rfl⟩ := h
  refine rs_ret (ep_is (ep_andV (ca_isi (ep_var rfl) ev_ty (kit_int _)) fun _ => ep_andV (ep_notV (ca_isi (ep_var rfl) ev_ty (kit_bool _))) fun _ => ep_chain (ep_var rfl) (ep_var rfl) od_b (fun _ => ep_var rfl) od_b) ?_) rfl
  simp
theorem pure_is_from {K : PySem.W.Frag} {vs : List V} {H : Hp} {Q : VK} {E : XK} (h : sp_is_from K vs H Q E) : t_is_from K { nx := fun _ H' => Q .non H', rt := Q } (L2.start ["value", "least", "most"] vs) H := pure_of h fun W n ds r hr => run_is_from K W n ds r hr
section
variable {P : Program} {w : World} {K : PySem.W.Frag} {mg : Str → Option Value} {base : Heap}
abbrev N_is_from : List Str := ["value", "least", "most"]
theorem sc_is_from : FnScope N_is_from ["value", "least", "most"] (defScope s_is_from) := ⟨rfl, rfl, rfl, by decide +kernel, rfl, by decide +kernel, by decide +kernel⟩
theorem ok_is_from (T : Tx K mg) : ∃ fd, FnOk P w K mg base CX0 1 (He.ga K "is_from") fd ["value", "least", "most"] (sp_is_from K) ∧ Binds K fd ["value", "least", "most"] [] := by
  have nd := sc_is_from.nd
  obtain ⟨fd, F⟩ := T.d_is_from
  refine ⟨fd, FunD.ok F sc_is_from (fun vs H Q E h => len_is_from h) (fun cdv A outer s H vs Q E hr h => ⟨t_is_from K, PSs.nox ?_, pure_is_from h⟩), F.bindsN fun _ _ _ _ _ _ us hl => match us, hl with | [_, _, _], _ => rfl⟩
  exact pss_one (ps_ret (pe_and (pe_callB call_isi (by rfl) T.f_isinstance (by decide +kernel) (pa_cons (pv 0) (pa_cons (pe_bltn (v := .ty "int") (by rfl) (T.f_int) (by decide +kernel) rfl) (pa_nil)))) (pe_and (pe_not (pe_callB call_isi (by rfl) T.f_isinstance (by decide +kernel) (pa_cons (pv 0) (pa_cons (pe_bltn (v := .ty "bool") (by rfl) (T.f_bool) (by decide +kernel) rfl) (pa_nil))))) (pe_one (pe_chain op_le op_le (pv 1) (pv 0) (pv 2))))))
end
theorem isFrom_ok {v a b : Int} (h1 : a ≤ v) (h2 : v ≤ b) : R_is_from [.int v, .int a, .int b] (.bool true) := ⟨v, a, b, rfl, by simp [h1, h2]⟩
/-! need_many -/
def R_need_many (ds : List PyData) (r : PyData) : Prop := ∃ m : Int, ds = [.int m] ∧ 2 ≤ m ∧ m ≤ 5 ∧ r = .int m
def sp_need_many (K : PySem.W.Frag) : Sp := SpP R_need_many
def t_need_many (K : PySem.W.Frag) : TS := tSeq (tIfS (tNot (tB (tCall (sp_is_from K) [] E0 (tCons (tVar 0) (tCons (tC (.int 2)) (tCons (tC (.int 5)) (tNil))))))) (tNever) (tNext)) (tRet (tVar 0))
theorem len_need_many {K : PySem.W.Frag} {vs : List V} {H : Hp} {Q : VK} {E : XK} (h : sp_need_many K vs H Q E) : vs.length = 1 := spP_len h fun ds r ⟨_, e, _⟩ => by rw [e]; rfl
theorem run_need_many (K : PySem.W.Frag) (W : Wd) (n : Nat) (ds : List PyData) (r : PyData) (h : R_need_many ds r) : RunS W (t_need_many K) n (ds.map Slot.d ++ List.replicate (1 - ds.length) .non) (fun o => o = .rt n r) := by
  obtain ⟨m, rfl, h2, h5, rfl⟩ := h
  refine sf (et_is (et_not (et_b (ep_call (by walk_at "ev") (isFrom_ok h2 h5)))) rfl) (rs_ret (ep_var rfl) rfl)
theorem pure_need_many {K : PySem.W.Frag} {vs : List V} {H : Hp} {Q : VK} {E : XK} (h : sp_need_many K vs H Q E) : t_need_many K { nx := fun _ H' => Q .non H', rt := Q } (L2.start ["value"] vs) H := pure_of h fun W n ds r hr => run_need_many K W n ds r hr
section
variable {P : Program} {w : World} {K : PySem.W.Frag} {mg : Str → Option Value} {base : Heap}
abbrev N_need_many : List Str := ["value"]
theorem sc_need_many : FnScope N_need_many ["value"] (defScope s_need_many) := ⟨rfl, rfl, rfl, by decide +kernel, rfl, by decide +kernel, by decide +kernel⟩
theorem ok_need_many (T : Tx K mg) : ∃ fd, FnOk P w K mg base CX0 2 (He.ga K "need_many") fd ["value"] (sp_need_many K) ∧ Binds K fd ["value"] [] := by
  have nd := sc_need_many.nd
  obtain ⟨_, G_is_from, b_is_from⟩ := ok_is_from (P := P) (w := w) (base := base) T
  obtain ⟨fd, F⟩ := T.d_need_many
  refine ⟨fd, FunD.ok F sc_need_many (fun vs H Q E h => len_need_many h) (fun cdv A outer s H vs Q E hr h => ⟨t_need_many K, PSs.nox ?_, pure_need_many h⟩), F.bindsN fun _ _ _ _ _ _ us hl => match us, hl with | [_], _ => rfl⟩
  exact pss_cons (ps_if (pt_not (pt_val (pe_call G_is_from (hr.mono (by omega)) rfl T.g_is_from T.k_is_from b_is_from .nil pass0 (pa_cons (pv 0) (pa_cons (pe_int) (pa_cons (pe_int) (pa_nil))))))) (pss_one (ps_never)) (pss_nil)) (pss_one (ps_ret (pv 0)))
end
/-! need_pair -/
def R_need_pair (ds : List PyData) (r : PyData) : Prop := ∃ m a b : Int, ds = [.int m, .int a, .int b] ∧ 2 ≤ m ∧ m ≤ 5 ∧ 0 ≤ a ∧ a < m ∧ 0 ≤ b ∧ b < m ∧ a ≠ b ∧ r = .tuple [.int (min a b), .int (max a b)]
def sp_need_pair (K : PySem.W.Frag) : Sp := SpP R_need_pair
def t_need_pair (K : PySem.W.Frag) : TS := tSeq (tDrop (tCall (sp_need_many K) [] E0 (tCons (tVar 0) (tNil)))) (tSeq (tFor (iTup K (tTup (tCons (tVar 1) (tCons (tVar 2) (tNil))))) (gName 3) (tIfS (tNot (tB (tCall (sp_is_from K) [] E0 (tCons (tVar 3) (tCons (tC (.int 0)) (tCons (tOp (rI0 fun i j => .int (i - j)) (tVar 0) (tC (.int 1))) (tNil))))))) (tNever) (tNext))) (tSeq (tIfS (tTest (tOp (rEq) (tVar 1) (tVar 2))) (tNever) (tNext)) (tRet (tIf (tTest (tOp (rI0 fun i j => .bl (decide (i < j))) (tVar 1) (tVar 2))) (tTup (tCons (tVar 1) (tCons (tVar 2) (tNil)))) (tTup (tCons (tVar 2) (tCons (tVar 1) (tNil))))))))
theorem len_need_pair {K : PySem.W.Frag} {vs : List V} {H : Hp} {Q : VK} {E : XK} (h : sp_need_pair K vs H Q E) : vs.length = 3 := spP_len h fun ds r ⟨_, _, _, e, _⟩ => by rw [e]; rfl
theorem run_need_pair (K : PySem.W.Frag) (W : Wd) (n : Nat) (ds : List PyData) (r : PyData) (h : R_need_pair ds r) : RunS W (t_need_pair K) n (ds.map Slot.d ++ List.replicate (4 - ds.length) .non) (fun o => o = .rt n r) := by
  obtain ⟨m, a, b, rfl, h2, h5, a0, a1, b0, b1, ne, rfl⟩ := h
  refine sdrop (ep_call (by walk_at "ev") ⟨m, rfl, h2, h5, rfl⟩) ?_
  refine sfor (xs := [a, b]) (enc := PyData.int) (f := fun v ss => ss.set 3 (.d (.int v))) (fun _ n' ss' => n' = n ∧ ∃ s, ss' = [.d (.int m), .d (.int a), .d (.int b), s]) (wk_tup (ep_is (by walk_at "ev") (by rfl))) (fun _ _ => tg_name) ⟨rfl, _, rfl⟩ ?_ ?_
  · rintro i v _ _ hi ⟨rfl, s, rfl⟩
    have hv : 0 ≤ v ∧ v ≤ m - 1 := by
      have := List.mem_of_getElem? hi
      rcases List.mem_cons.mp this with e | e
      · subst e; omega
      · have e := List.mem_singleton.mp e
        subst e; omega
    exact rs_ifF (et_is (et_not (et_b (ep_call (by walk_at "ev") (isFrom_ok hv.1 hv.2)))) rfl) (rs_next ⟨rfl, _, rfl⟩)
  · rintro _ _ ⟨rfl, s, rfl⟩
    refine sf (et_is (by walk_at "ev") (by simp [ne])) ?_
    refine rs_ret (ep_if (b := decide (a < b)) (by walk_at "ev") (fun h => ?_) fun h => ?_) rfl
    · have h := of_decide_eq_true h
      rw [show min a b = a by omega, show max a b = b by omega]
      walk_at "ev"
    · have h := of_decide_eq_false h
      rw [show min a b = b by omega, show max a b = a by omega]
      walk_at "ev"
theorem pure_need_pair {K : PySem.W.Frag} {vs : List V} {H : Hp} {Q : VK} {E : XK} (h : sp_need_pair K vs H Q E) : t_need_pair K { nx := fun _ H' => Q .non H', rt := Q } (L2.start ["many", "one", "other", "value"] vs) H := pure_of h fun W n ds r hr => run_need_pair K W n ds r hr
section
variable {P : Program} {w : World} {K : PySem.W.Frag} {mg : Str → Option Value} {base : Heap}
abbrev N_need_pair : List Str := ["many", "one", "other", "value"]
theorem sc_need_pair : FnScope N_need_pair ["many", "one", "other"] (defScope s_need_pair) := ⟨rfl, rfl, rfl, by decide +kernel, rfl, by decide +kernel, by decide +kernel⟩
theorem ok_need_pair (T : Tx K mg) : ∃ fd, FnOk P w K mg base CX0 3 (He.ga K "need_pair") fd ["many", "one", "other"] (sp_need_pair K) ∧ Binds K fd ["many", "one", "other"] [] := by
  have nd := sc_need_pair.nd
  obtain ⟨_, G_is_from, b_is_from⟩ := ok_is_from (P := P) (w := w) (base := base) T
  obtain ⟨_, G_need_many, b_need_many⟩ := ok_need_many (P := P) (w := w) (base := base) T
  obtain ⟨fd, F⟩ := T.d_need_pair
  refine ⟨fd, FunD.ok F sc_need_pair (fun vs H Q E h => len_need_pair h) (fun cdv A outer s H vs Q E hr h => ⟨t_need_pair K, PSs.nox ?_, pure_need_pair h⟩), F.bindsN fun _ _ _ _ _ _ us hl => match us, hl with | [_, _, _], _ => rfl⟩
  exact pss_cons (ps_expr (pe_call G_need_many (hr.mono (by omega)) rfl T.g_need_many T.k_need_many b_need_many .nil pass0 (pa_cons (pv 0) (pa_nil)))) (pss_cons (ps_for PassesOwn.never rfl (pi_tup (pe_tup (pa_cons (pv 1) (pa_cons (pv 2) (pa_nil))))) (pg_name (i := 3) nd rfl (Or.inl rfl)) (pss_one (ps_if (pt_not (pt_val (pe_call G_is_from (hr.mono (by omega)) rfl T.g_is_from T.k_is_from b_is_from .nil pass0 (pa_cons (pv 3) (pa_cons (pe_int) (pa_cons (pe_op op_sub (pv 0) (pe_int)) (pa_nil))))))) (pss_one (ps_never)) (pss_nil)))) (pss_cons (ps_if (pt_cmpR op_eq (pv 1) (pv 2) (nomark _)) (pss_one (ps_never)) (pss_nil)) (pss_one (ps_ret (pe_ifExp (pt_cmpR op_lt (pv 1) (pv 2) (nomark _)) (pe_tup (pa_cons (pv 1) (pa_cons (pv 2) (pa_nil)))) (pe_tup (pa_cons (pv 2) (pa_cons (pv 1) (pa_nil)))))))))
end
/-! part_places -/
def R_part_places (ds : List PyData) (r : PyData) : Prop := ∃ (sg : Bool) (ns : List Nat), ds = [srtD sg ns] ∧ ns ≠ [] ∧ (∀ x ∈ ns, x ≤ 12) ∧ r = .tuple (match ns with | [_] => [] | _ => [.int 1, .int 2])
def sp_part_places (K : PySem.W.Frag) : Sp := SpP R_part_places
def t_part_places (K : PySem.W.Frag) : TS := tSeq (tIfS (tOr (tNot (tB (tCB (rIsi K) (tCons (tVar 0) (tCons (tC (.ty "tuple")) (tNil)))))) (tOr (tTest (tOp (rEq) (tCB (rLen K) (tCons (tVar 0) (tNil))) (tC (.int 0)))) (tNot (tB (tCB (rIsi K) (tCons (tOp (rIxT K) (tVar 0) (tC (.int 0))) (tCons (tC (.ty "str")) (tNil)))))))) (tRet (tC .non)) (tNext)) (tSeq (tAsg (tOp (rIxT K) (tVar 0) (tC (.int 0))) (gName 1)) (tSeq (tIfS (tTest (tOp (rIn K false) (tVar 1) (tTup (tCons (tC (.str "none")) (tCons (tC (.str "one")) (tCons (tC (.str "trees")) (tCons (tC (.str "rooted")) (tNil)))))))) (tRet (tIf (tTest (tOp (rEq) (tCB (rLen K) (tCons (tVar 0) (tNil))) (tC (.int 1)))) (tTup (tNil)) (tC .non))) (tNext)) (tSeq (tIfS (tTest (tOp (rIn K false) (tVar 1) (tTup (tCons (tC (.str "subset")) (tCons (tC (.str "bag")) (tNil)))))) (tRet (tIf (tAnd (tTest (tOp (rEq) (tCB (rLen K) (tCons (tVar 0) (tNil))) (tC (.int 2)))) (tB (tCall (sp_is_from K) [] E0 (tCons (tOp (rIxT K) (tVar 0) (tC (.int 1))) (tCons (tC (.int 0)) (tCons (tC (.int 12)) (tNil))))))) (tTup (tNil)) (tC .non))) (tNext)) (tSeq (tIfS (tTest (tOp (rEq) (tVar 1) (tC (.str "rounds")))) (tRet (tIf (tAnd (tTest (tOp (rEq) (tCB (rLen K) (tCons (tVar 0) (tNil))) (tC (.int 2)))) (tB (tCall (sp_is_from K) [] E0 (tCons (tOp (rIxT K) (tVar 0) (tC (.int 1))) (tCons (tC (.int 1)) (tCons (tC (.int 2)) (tNil))))))) (tTup (tNil)) (tC .non))) (tNext)) (tSeq (tIfS (tTest (tOp (rIn K false) (tVar 1) (tTup (tCons (tC (.str "either")) (tCons (tC (.str "pair")) (tNil)))))) (tRet (tIf (tTest (tOp (rEq) (tCB (rLen K) (tCons (tVar 0) (tNil))) (tC (.int 3)))) (tTup (tCons (tC (.int 1)) (tCons (tC (.int 2)) (tNil)))) (tC .non))) (tNext)) (tSeq (tIfS (tTest (tOp (rIn K false) (tVar 1) (tTup (tCons (tC (.str "list")) (tCons (tC (.str "family")) (tCons (tC (.str "heap")) (tNil))))))) (tRet (tIf (tAnd (tTest (tOp (rEq) (tCB (rLen K) (tCons (tVar 0) (tNil))) (tC (.int 3)))) (tB (tCall (sp_is_from K) [] E0 (tCons (tOp (rIxT K) (tVar 0) (tC (.int 1))) (tCons (tC (.int 0)) (tCons (tC (.int 12)) (tNil))))))) (tTup (tCons (tC (.int 2)) (tNil))) (tC .non))) (tNext)) (tRet (tC .non))))))))
theorem len_part_places {K : PySem.W.Frag} {vs : List V} {H : Hp} {Q : VK} {E : XK} (h : sp_part_places K vs H Q E) : vs.length = 1 := spP_len h fun ds r ⟨_, _, e, _⟩ => by rw [e]; rfl
theorem run_part_places (K : PySem.W.Frag) (W : Wd) (n : Nat) (ds : List PyData) (r : PyData) (h : R_part_places ds r) : RunS W (t_part_places K) n (ds.map Slot.d ++ List.replicate (2 - ds.length) .non) (fun o => o = .rt n r) := by
  obtain ⟨sg, ns, rfl, hne, hb, rfl⟩ := h
  rcases srtD_shape sg ns hne with ⟨a, rfl⟩ | ⟨a, b, l, rfl⟩
  · rw [srtD_one]
    refine sf (et_is (by walk_at "ev") ?_) ?_
    · simp
    refine sa (by walk_at "ev") ?_
    refine sf (et_is (by walk_at "ev") (by cases sg <;> decide +kernel)) ?_
    have ha := hb a (by simp)
    refine str (et_is (by walk_at "ev") (by cases sg <;> decide +kernel)) (ep_ifT (et_is (et_and (by walk_at "ev") fun _ => et_b (ep_call (by walk_at "ev") (isFrom_ok (by omega) (by omega)))) (by simp)) (by walk_at "ev")) rfl
  · rw [srtD_two]
    refine sf (et_is (by walk_at "ev") ?_) ?_
    · simp
    refine sa (by walk_at "ev") ?_
    refine sf (et_is (by walk_at "ev") (by decide +kernel)) ?_
    refine sf (et_is (by walk_at "ev") (by decide +kernel)) ?_
    refine sf (et_is (by walk_at "ev") (by decide +kernel)) ?_
    exact str (et_is (by walk_at "ev") (by decide +kernel)) (ep_ifT (et_is (by walk_at "ev") (by simp)) (by walk_at "ev")) rfl
theorem pure_part_places {K : PySem.W.Frag} {vs : List V} {H : Hp} {Q : VK} {E : XK} (h : sp_part_places K vs H Q E) : t_part_places K { nx := fun _ H' => Q .non H', rt := Q } (L2.start ["value", "word"] vs) H := pure_of h fun W n ds r hr => run_part_places K W n ds r hr
section
variable {P : Program} {w : World} {K : PySem.W.Frag} {mg : Str → Option Value} {base : Heap}
abbrev N_part_places : List Str := ["value", "word"]
theorem sc_part_places : FnScope N_part_places ["value"] (defScope s_part_places) := ⟨rfl, rfl, rfl, by decide +kernel, rfl, by decide +kernel, by decide +kernel⟩
theorem ok_part_places (T : Tx K mg) : ∃ fd, FnOk P w K mg base CX0 2 (He.ga K "part_places") fd ["value"] (sp_part_places K) ∧ Binds K fd ["value"] [] := by
  have nd := sc_part_places.nd
  obtain ⟨_, G_is_from, b_is_from⟩ := ok_is_from (P := P) (w := w) (base := base) T
  obtain ⟨_, m_MOST_NUMBER⟩ := T.m_MOST_NUMBER
  obtain ⟨fd, F⟩ := T.d_part_places
  refine ⟨fd, FunD.ok F sc_part_places (fun vs H Q E h => len_part_places h) (fun cdv A outer s H vs Q E hr h => ⟨t_part_places K, PSs.nox ?_, pure_part_places h⟩), F.bindsN fun _ _ _ _ _ _ us hl => match us, hl with | [_], _ => rfl⟩
  exact pss_cons (ps_if (PW.pt (pw_or (pt_not (pt_val (pe_callB call_isi (by rfl) T.f_isinstance (by decide +kernel) (pa_cons (pv 0) (pa_cons (pe_bltn (v := .ty "tuple") (by rfl) (T.f_tuple) (by decide +kernel) rfl) (pa_nil)))))) (pw_or (pt_cmpR op_eq (pe_callB call_len_seq (by rfl) T.f_len (by decide +kernel) (pa_cons (pv 0) (pa_nil))) (pe_int) (nomark _)) (pw_or1 (pt_not (pt_val (pe_callB call_isi (by rfl) T.f_isinstance (by decide +kernel) (pa_cons (pe_ix ix_tup (pv 0) (pe_int) (fun _ _ => rfl)) (pa_cons (pe_bltn (v := .ty "str") (by rfl) (T.f_str) (by decide +kernel) rfl) (pa_nil)))))))))) (pss_one (ps_ret (pe_non))) (pss_nil)) (pss_cons (ps_set (i := 1) nd rfl (Or.inl rfl) (pe_ix ix_tup (pv 0) (pe_int) (fun _ _ => rfl))) (pss_cons (ps_if (pt_cmpR op_in_seq (pv 1) (pe_tup (pa_cons (pe_str) (pa_cons (pe_str) (pa_cons (pe_str) (pa_cons (pe_str) (pa_nil)))))) rfl) (pss_one (ps_ret (pe_ifExp (pt_cmpR op_eq (pe_callB call_len_seq (by rfl) T.f_len (by decide +kernel) (pa_cons (pv 0) (pa_nil))) (pe_int) (nomark _)) (pe_tup (pa_nil)) (pe_non)))) (pss_nil)) (pss_cons (ps_if (pt_cmpR op_in_seq (pv 1) (pe_tup (pa_cons (pe_str) (pa_cons (pe_str) (pa_nil)))) rfl) (pss_one (ps_ret (pe_ifExp (PW.pt (pw_and (pt_cmpR op_eq (pe_callB call_len_seq (by rfl) T.f_len (by decide +kernel) (pa_cons (pv 0) (pa_nil))) (pe_int) (nomark _)) (pw_and1 (pt_val (pe_call G_is_from (hr.mono (by omega)) rfl T.g_is_from T.k_is_from b_is_from .nil pass0 (pa_cons (pe_ix ix_tup (pv 0) (pe_int) (fun _ _ => rfl)) (pa_cons (pe_int) (pa_cons (pe_glob rfl m_MOST_NUMBER ⟨_, rfl⟩) (pa_nil))))))))) (pe_tup (pa_nil)) (pe_non)))) (pss_nil)) (pss_cons (ps_if (pt_cmpR op_eq (pv 1) (pe_str) (nomark _)) (pss_one (ps_ret (pe_ifExp (PW.pt (pw_and (pt_cmpR op_eq (pe_callB call_len_seq (by rfl) T.f_len (by decide +kernel) (pa_cons (pv 0) (pa_nil))) (pe_int) (nomark _)) (pw_and1 (pt_val (pe_call G_is_from (hr.mono (by omega)) rfl T.g_is_from T.k_is_from b_is_from .nil pass0 (pa_cons (pe_ix ix_tup (pv 0) (pe_int) (fun _ _ => rfl)) (pa_cons (pe_int) (pa_cons (pe_int) (pa_nil))))))))) (pe_tup (pa_nil)) (pe_non)))) (pss_nil)) (pss_cons (ps_if (pt_cmpR op_in_seq (pv 1) (pe_tup (pa_cons (pe_str) (pa_cons (pe_str) (pa_nil)))) rfl) (pss_one (ps_ret (pe_ifExp (pt_cmpR op_eq (pe_callB call_len_seq (by rfl) T.f_len (by decide +kernel) (pa_cons (pv 0) (pa_nil))) (pe_int) (nomark _)) (pe_tup (pa_cons (pe_int) (pa_cons (pe_int) (pa_nil)))) (pe_non)))) (pss_nil)) (pss_cons (ps_if (pt_cmpR op_in_seq (pv 1) (pe_tup (pa_cons (pe_str) (pa_cons (pe_str) (pa_cons (pe_str) (pa_nil))))) rfl) (pss_one (ps_ret (pe_ifExp (PW.pt (pw_and (pt_cmpR op_eq (pe_callB call_len_seq (by rfl) T.f_len (by decide +kernel) (pa_cons (pv 0) (pa_nil))) (pe_int) (nomark _)) (pw_and1 (pt_val (pe_call G_is_from (hr.mono (by omega)) rfl T.g_is_from T.k_is_from b_is_from .nil pass0 (pa_cons (pe_ix ix_tup (pv 0) (pe_int) (fun _ _ => rfl)) (pa_cons (pe_int) (pa_cons (pe_glob rfl m_MOST_NUMBER ⟨_, rfl⟩) (pa_nil))))))))) (pe_tup (pa_cons (pe_int) (pa_nil))) (pe_non)))) (pss_nil)) (pss_one (ps_ret (pe_non)))))))))
end
end Uh

set_option Elab.async false
set_option linter.all false
set_option maxRecDepth 100000
set_option maxHeartbeats 1000000
namespace Uh
open PySem PySem.Spec PyProof.Rows L2
local macro_rules | `(tactic| walk_at "ev") => `(tactic| repeat (first
  | with_reducible exact ep_var rfl | with_reducible exact ep_int | with_reducible exact ep_bl | with_reducible exact ep_non | with_reducible exact ep_str
  | with_reducible exact ea_nil | with_reducible apply ea_cons | with_reducible apply ep_tupG | with_reducible apply ef_lstG | with_reducible exact et_yes
  | with_reducible apply ca_isiG | with_reducible exact kit_tuple _ | with_reducible exact kit_int _ | with_reducible exact kit_bool _ | with_reducible exact kit_str _
  | with_reducible apply et_test | with_reducible apply et_b | with_reducible apply et_not | with_reducible apply et_orG | with_reducible apply et_andG
  | with_reducible apply ep_orG | with_reducible apply ep_andG | with_reducible apply ep_notV | with_reducible apply ep_chainG
  | with_reducible apply ep_inG | with_reducible apply ep_op | with_reducible apply ep_un | with_reducible apply ep_cb
  | with_reducible exact od_i | with_reducible exact od_b | with_reducible exact od_eqI | with_reducible exact od_neI | with_reducible exact od_eqS | with_reducible exact od_eqB | with_reducible exact od_isN | with_reducible exact od_notN | with_reducible exact ud_i
  | with_reducible exact od_ixT at3_0 | with_reducible exact od_ixT at3_1 | with_reducible exact od_ixT at3_2 | with_reducible exact od_ixT at2_0 | with_reducible exact od_ixT at2_1
  | with_reducible apply od_catA | (with_reducible show _ + _ ≤ 100000; first | omega | (simp; done) | (simp; omega))
  | with_reducible exact ca_lenT | with_reducible exact ca_lenL
  | exact (show allS _ = true from rfl) | exact (show Nat.ble _ 100000 = true from rfl)))
/-! walked -/
def R_walked : Nat → List PyData → PyData → Prop
  | 0, _, _ => False
  | n + 1, ds, r => ∃ (sg : Bool) (ns : List Nat) (path : List PyData) (deep met : Int), ds = [srtD sg ns, .tuple path, .int deep, .int met] ∧ ns ≠ [] ∧ ns.length ≤ n + 1 ∧ (∀ x ∈ ns, x ≤ 12) ∧ path.length ≤ 50 ∧ 0 ≤ deep ∧ deep + ns.length ≤ 11 ∧ 0 ≤ met ∧ met + 2 * ns.length ≤ 60 ∧ path.length + ns.length ≤ 50 ∧ r = .int (met + 2 * ns.length - 1)
def sp_walked (n : Nat) (K : PySem.W.Frag) : Sp := SpP (R_walked n)
def t_walked (n : Nat) (K : PySem.W.Frag) : TS := tSeq (tIfS (tTest (tOp (rI0 fun i j => .bl (decide (j < i))) (tVar 2) (tC (.int 10)))) (tNever) (tNext)) (tSeq (tIfS (tTest (tOp (rEq) (tVar 3) (tC (.int 60)))) (tNever) (tNext)) (tSeq (tAsg (tCall (sp_part_places K) [] E0 (tCons (tVar 0) (tNil))) (gName 4)) (tSeq (tIfS (tTest (tOp (rIsNo) (tVar 4) (tC .non))) (tNever) (tNext)) (tSeq (tAsg (tOp (rI0 fun i j => .int (i + j)) (tVar 3) (tC (.int 1))) (gName 5)) (tSeq (tFor (iTup K (tVar 4)) (gName 6) (tSeq (tAsg (tCall (sp_walked (n) K) [] E0 (tCons (tOp (rIxT K) (tVar 0) (tVar 6)) (tCons (tOp (rCatA K) (tVar 1) (tTup (tCons (tVar 6) (tNil)))) (tCons (tOp (rI0 fun i j => .int (i + j)) (tVar 2) (tC (.int 1))) (tCons (tVar 5) (tNil)))))) (gName 5)) (tIfS (tAnd (tTest (tOp (rIn K false) (tOp (rIxT K) (tVar 0) (tC (.int 0))) (tTup (tCons (tC (.str "family")) (tCons (tC (.str "heap")) (tNil)))))) (tNot (tNevT))) (tNever) (tNext)))) (tRet (tVar 5)))))))
theorem len_walked {n : Nat} {K : PySem.W.Frag} {vs : List V} {H : Hp} {Q : VK} {E : XK} (h : sp_walked (n + 1) K vs H Q E) : vs.length = 4 := spP_len h fun ds r ⟨_, _, _, _, _, e, _⟩ => by rw [e]; rfl
theorem run_walked (K : PySem.W.Frag) (W : Wd) (n m : Nat) (ds : List PyData) (r : PyData) (h : R_walked (n + 1) ds r) : RunS W (t_walked n K) m (ds.map Slot.d ++ List.replicate (7 - ds.length) .non) (fun o => o = .rt m r) := by
  obtain ⟨sg, ns, path, deep, met, rfl, hne, hl, hb, hp, d0, d1, m0, m1, hpl, rfl⟩ := h
  have hlen : 0 < ns.length := List.length_pos_iff.mpr hne
  refine sf (et_is (by walk_at "ev") (by simp; omega)) ?_
  refine sf (et_is (by walk_at "ev") (by simp; omega)) ?_
  refine sa (ep_call (by walk_at "ev") ⟨sg, ns, rfl, hne, hb, rfl⟩) ?_
  refine sf (et_is (by walk_at "ev") (by simp [isNone])) ?_
  refine sa (by walk_at "ev") ?_
  rcases srtD_shape sg ns hne with ⟨a, rfl⟩ | ⟨a, b, l, rfl⟩
  · refine sfor (xs := []) (enc := PyData.int) (f := fun v ss => ss.set 6 (.d (.int v))) (fun _ n' ss' => n' = m ∧ ∃ a b c d e g, ss' = [a, b, c, d, e, .d (.int (met + 1)), g]) (wk_tup (ep_is (by walk_at "ev") (by rfl))) (fun _ _ => tg_name) ⟨rfl, _, _, _, _, _, _, rfl⟩ ?_ ?_
    · intro i v _ _ hi
      simp at hi
    · rintro _ _ ⟨rfl, a, b, c, d, e, g, rfl⟩
      refine rs_ret (ep_is (by walk_at "ev") ?_) rfl
      simp only [List.length_cons, List.length_nil]
      congr 1; omega
  · simp only [List.length_cons] at hl d1 m1 hpl
    obtain ⟨n, rfl⟩ : ∃ k, n = k + 1 := ⟨n - 1, by omega⟩
    rw [srtD_two]
    refine sfor (xs := [1, 2]) (enc := PyData.int) (f := fun v ss => ss.set 6 (.d (.int v)))
      (fun i n' ss' => n' = m ∧ ∃ e g, ss' = [.d (.tuple [.str "pair", leafD sg a, srtD sg (b :: l)]), .d (.tuple path), .d (.int deep), .d (.int met), e, .d (.int (if i = 0 then met + 1 else if i = 1 then met + 2 else met + 2 * (l.length + 2) - 1)), g])
      (wk_tup (ep_is (by walk_at "ev") (by rfl))) (fun _ _ => tg_name) ⟨rfl, _, _, rfl⟩ ?_ ?_
    · rintro i v _ _ hi ⟨rfl, e, g, rfl⟩
      match i, hi with
      | 0, hi =>
        obtain rfl : (1 : Int) = v := by simpa using hi
        refine sa (ep_call (z := .int (met + 2)) (by walk_at "ev") ⟨sg, [a], path ++ [.int 1], deep + 1, met + 1, rfl, by simp, by simp, fun x hx => hb x (by simp at hx; simp [hx]), by simp; omega, by omega, by simp; omega, by omega, by simp; omega, by simp; omega, by simp; omega⟩) ?_
        exact rs_ifF (et_is (et_andF (et_is (by walk_at "ev") (by decide +kernel))) rfl) (rs_next ⟨rfl, _, _, rfl⟩)
      | 1, hi =>
        obtain rfl : (2 : Int) = v := by simpa using hi
        refine sa (ep_call (z := .int (met + 2 * (l.length + 2) - 1)) (by walk_at "ev") ⟨sg, b :: l, path ++ [.int 2], deep + 1, met + 2, rfl, by simp, by simp; omega, fun x hx => hb x (List.mem_cons_of_mem _ hx), by simp; omega, by omega, by simp; omega, by omega, by simp; omega, by simp; omega, by simp; omega⟩) ?_
        exact rs_ifF (et_is (et_andF (et_is (by walk_at "ev") (by decide +kernel))) rfl) (rs_next ⟨rfl, _, _, rfl⟩)
    · rintro _ _ ⟨rfl, e, g, rfl⟩
      refine rs_ret (ep_is (by walk_at "ev") ?_) rfl
      simp
      omega
theorem pure_walked {n : Nat} {K : PySem.W.Frag} {vs : List V} {H : Hp} {Q : VK} {E : XK} (h : sp_walked (n + 1) K vs H Q E) : t_walked n K { nx := fun _ H' => Q .non H', rt := Q } (L2.start ["value", "path", "deep", "met", "places", "number", "place"] vs) H := pure_of h fun W m ds r hr => run_walked K W n m ds r hr
abbrev OK_walked (P : Program) (w : World) (K : PySem.W.Frag) (mg : Str → Option Value) (base : Heap) (n : Nat) : Prop := ∃ fd, FnOk P w K mg base CX0 (1+n+1) (He.ga K "walked") fd ["value", "path", "deep", "met"] (sp_walked n K) ∧ Binds K fd ["value", "path", "deep", "met"] []
theorem no_walked {K : PySem.W.Frag} {vs : List V} {H : Hp} {Q : VK} {E : XK} (h : sp_walked 0 K vs H Q E) : False := by
  obtain ⟨_, _, _, _, _, h, _⟩ := h
  exact h
section
variable {P : Program} {w : World} {K : PySem.W.Frag} {mg : Str → Option Value} {base : Heap}
abbrev N_walked : List Str := ["value", "path", "deep", "met", "places", "number", "place"]
theorem sc_walked : FnScope N_walked ["value", "path", "deep", "met"] (defScope s_walked) := ⟨rfl, rfl, rfl, by decide +kernel, rfl, by decide +kernel, by decide +kernel⟩
theorem st_walked (T : Tx K mg) (n : Nat) (h_walked : OK_walked P w K mg base n) : OK_walked P w K mg base (n + 1) := by
  have nd := sc_walked.nd
  obtain ⟨_, G_walked, b_walked⟩ := h_walked
  obtain ⟨_, G_part_places, b_part_places⟩ := ok_part_places (P := P) (w := w) (base := base) T
  obtain ⟨_, m_MOST_PARTS⟩ := T.m_MOST_PARTS
  obtain ⟨_, m_MOST_DEEP⟩ := T.m_MOST_DEEP
  obtain ⟨fd, F⟩ := T.d_walked
  refine ⟨fd, FunD.ok F sc_walked (fun vs H Q E h => len_walked h) (fun cdv A outer s H vs Q E hr h => ⟨t_walked n K, PSs.nox ?_, pure_walked h⟩), F.bindsN fun _ _ _ _ _ _ us hl => match us, hl with | [_, _, _, _], _ => rfl⟩
  exact pss_cons (ps_if (pt_cmpR op_gt (pv 2) (pe_glob rfl m_MOST_DEEP ⟨_, rfl⟩) (nomark _)) (pss_one (ps_never)) (pss_nil)) (pss_cons (ps_if (pt_cmpR op_eq (pv 3) (pe_glob rfl m_MOST_PARTS ⟨_, rfl⟩) (nomark _)) (pss_one (ps_never)) (pss_nil)) (pss_cons (ps_set (i := 4) nd rfl (Or.inl rfl) (pe_call G_part_places (hr.mono (by omega)) rfl T.g_part_places T.k_part_places b_part_places .nil pass0 (pa_cons (pv 0) (pa_nil)))) (pss_cons (ps_if (pt_cmpR op_isN (pv 4) (pe_non) (nomark _)) (pss_one (ps_never)) (pss_nil)) (pss_cons (ps_set (i := 5) nd rfl (Or.inl rfl) (pe_op op_add (pv 3) (pe_int))) (pss_cons (ps_for PassesOwn.never rfl (pi_tup (pv 4)) (pg_name (i := 6) nd rfl (Or.inl rfl)) (pss_cons (ps_set (i := 5) nd rfl (Or.inl rfl) (pe_call G_walked (hr.mono (by omega)) rfl T.g_walked T.k_walked b_walked .nil pass0 (pa_cons (pe_ix ix_tup (pv 0) (pv 6) (fun _ _ => rfl)) (pa_cons (pe_op op_catA (pv 1) (pe_tup (pa_cons (pv 6) (pa_nil)))) (pa_cons (pe_op op_add (pv 2) (pe_int)) (pa_cons (pv 5) (pa_nil))))))) (pss_one (ps_if (PW.pt (pw_and (pt_cmpR op_in_seq (pe_ix ix_tup (pv 0) (pe_int) (fun _ _ => rfl)) (pe_tup (pa_cons (pe_str) (pa_cons (pe_str) (pa_nil)))) rfl) (pw_and1 (pt_not (pt_nev))))) (pss_one (ps_never)) (pss_nil))))) (pss_one (ps_ret (pv 5))))))))
theorem zr_walked (T : Tx K mg) : OK_walked P w K mg base 0 := by
  obtain ⟨fd, F⟩ := T.d_walked
  exact ⟨fd, FunD.ok F sc_walked (fun vs H Q E h => (no_walked h).elim) (fun cdv A outer s H vs Q E hr h => (no_walked h).elim), F.bindsN fun _ _ _ _ _ _ us hl => match us, hl with | [_, _, _, _], _ => rfl⟩
end
section
variable {P : Program} {w : World} {K : PySem.W.Frag} {mg : Str → Option Value} {base : Heap}
theorem ok_walked (T : Tx K mg) : ∀ n, OK_walked P w K mg base n
  | 0 => zr_walked T
  | n + 1 => st_walked T n (ok_walked T n)
end
/-! marks_of -/
def R_marks_of : Nat → List PyData → PyData → Prop
  | 0, _, _ => False
  | n + 1, ds, r => ∃ (m : Int) (sg : Bool) (ns : List Nat), ds = [.int m, srtD sg ns] ∧ ns ≠ [] ∧ ns.length ≤ n + 1 ∧ r = .int (ns.sum : Nat)
def sp_marks_of (n : Nat) (K : PySem.W.Frag) : Sp := SpP (R_marks_of n)
def t_marks_of (n : Nat) (K : PySem.W.Frag) : TS := tSeq (tAsg (tOp (rIxT K) (tVar 1) (tC (.int 0))) (gName 2)) (tSeq (tIfS (tTest (tOp (rIn K false) (tVar 2) (tTup (tCons (tC (.str "subset")) (tCons (tC (.str "bag")) (tNil)))))) (tRet (tOp (rIxT K) (tVar 1) (tC (.int 1)))) (tNext)) (tSeq (tIfS (tTest (tOp (rIn K false) (tVar 2) (tTup (tCons (tC (.str "either")) (tCons (tC (.str "pair")) (tNil)))))) (tSeq (tPar 3 4 (tCons (tCall (sp_marks_of (n) K) [] E0 (tCons (tVar 0) (tCons (tOp (rIxT K) (tVar 1) (tC (.int 1))) (tNil)))) (tCons (tCall (sp_marks_of (n) K) [] E0 (tCons (tVar 0) (tCons (tOp (rIxT K) (tVar 1) (tC (.int 2))) (tNil)))) (tNil)))) (tRet (tIf (tTest (tOp (rEq) (tVar 2) (tC (.str "either")))) (tCB (rMax) (tCons (tVar 3) (tCons (tVar 4) (tNil)))) (tOp (rI0 fun i j => .int (i + j)) (tVar 3) (tVar 4))))) (tNext)) (tSeq (tNever) (tSeq (tNever) (tSeq (tNever) (tSeq (tNever) (tNever)))))))
theorem len_marks_of {n : Nat} {K : PySem.W.Frag} {vs : List V} {H : Hp} {Q : VK} {E : XK} (h : sp_marks_of (n + 1) K vs H Q E) : vs.length = 2 := spP_len h fun ds r ⟨_, _, _, e, _⟩ => by rw [e]; rfl
theorem run_marks_of (K : PySem.W.Frag) (W : Wd) (n m : Nat) (ds : List PyData) (r : PyData) (h : R_marks_of (n + 1) ds r) : RunS W (t_marks_of n K) m (ds.map Slot.d ++ List.replicate (5 - ds.length) .non) (fun o => o = .rt m r) := by
  obtain ⟨k, sg, ns, rfl, hne, hl, rfl⟩ := h
  rcases srtD_shape sg ns hne with ⟨a, rfl⟩ | ⟨a, b, l, rfl⟩
  · rw [srtD_one]
    refine sa (by walk_at "ev") ?_
    refine str (et_is (by walk_at "ev") (by cases sg <;> decide +kernel)) (ep_is (by walk_at "ev") ?_) rfl
    simp
  · rw [srtD_two]
    simp only [List.length_cons] at hl
    obtain ⟨n, rfl⟩ : ∃ k, n = k + 1 := ⟨n - 1, by omega⟩
    refine sa (by walk_at "ev") ?_
    refine sf (et_is (by walk_at "ev") (by decide +kernel)) ?_
    refine st (et_is (by walk_at "ev") (by decide +kernel)) ?_
    refine sp2 (x := .int (a : Nat)) (y := .int ((b :: l).sum : Nat)) (ea_cons (ep_call (by walk_at "ev") ⟨k, sg, [a], rfl, by simp, by simp, by simp⟩) (ea_cons (ep_call (by walk_at "ev") ⟨k, sg, b :: l, rfl, by simp, by simp; omega, rfl⟩) ea_nil)) ?_
    refine rs_ret (ep_is (ep_ifF (et_is (by walk_at "ev") (by decide +kernel)) (by walk_at "ev")) ?_) rfl
    simp
theorem pure_marks_of {n : Nat} {K : PySem.W.Frag} {vs : List V} {H : Hp} {Q : VK} {E : XK} (h : sp_marks_of (n + 1) K vs H Q E) : t_marks_of n K { nx := fun _ H' => Q .non H', rt := Q } (L2.start ["many", "sort", "word", "first", "second"] vs) H := pure_of h fun W m ds r hr => run_marks_of K W n m ds r hr
abbrev OK_marks_of (P : Program) (w : World) (K : PySem.W.Frag) (mg : Str → Option Value) (base : Heap) (n : Nat) : Prop := ∃ fd, FnOk P w K mg base CX0 (n+1) (He.ga K "marks_of") fd ["many", "sort"] (sp_marks_of n K) ∧ Binds K fd ["many", "sort"] []
theorem no_marks_of {K : PySem.W.Frag} {vs : List V} {H : Hp} {Q : VK} {E : XK} (h : sp_marks_of 0 K vs H Q E) : False := by
  obtain ⟨_, _, _, _, _, h, _⟩ := h
  exact h
section
variable {P : Program} {w : World} {K : PySem.W.Frag} {mg : Str → Option Value} {base : Heap}
abbrev N_marks_of : List Str := ["many", "sort", "word", "first", "second"]
theorem sc_marks_of : FnScope N_marks_of ["many", "sort"] (defScope s_marks_of) := ⟨rfl, rfl, rfl, by decide +kernel, rfl, by decide +kernel, by decide +kernel⟩
theorem st_marks_of (T : Tx K mg) (n : Nat) (h_marks_of : OK_marks_of P w K mg base n) : OK_marks_of P w K mg base (n + 1) := by
  have nd := sc_marks_of.nd
  obtain ⟨_, G_marks_of, b_marks_of⟩ := h_marks_of
  obtain ⟨fd, F⟩ := T.d_marks_of
  refine ⟨fd, FunD.ok F sc_marks_of (fun vs H Q E h => len_marks_of h) (fun cdv A outer s H vs Q E hr h => ⟨t_marks_of n K, PSs.nox ?_, pure_marks_of h⟩), F.bindsN fun _ _ _ _ _ _ us hl => match us, hl with | [_, _], _ => rfl⟩
  exact pss_cons (ps_set (i := 2) nd rfl (Or.inl rfl) (pe_ix ix_tup (pv 1) (pe_int) (fun _ _ => rfl))) (pss_cons (ps_if (pt_cmpR op_in_seq (pv 2) (pe_tup (pa_cons (pe_str) (pa_cons (pe_str) (pa_nil)))) rfl) (pss_one (ps_ret (pe_ix ix_tup (pv 1) (pe_int) (fun _ _ => rfl)))) (pss_nil)) (pss_cons (ps_if (pt_cmpR op_in_seq (pv 2) (pe_tup (pa_cons (pe_str) (pa_cons (pe_str) (pa_nil)))) rfl) (pss_cons (ps_par (i := 3) (j := 4) rfl nd rfl rfl (by decide) rfl rfl (pa_cons (pe_call G_marks_of (hr.mono (by omega)) rfl T.g_marks_of T.k_marks_of b_marks_of .nil pass0 (pa_cons (pv 0) (pa_cons (pe_ix ix_tup (pv 1) (pe_int) (fun _ _ => rfl)) (pa_nil)))) (pa_cons (pe_call G_marks_of (hr.mono (by omega)) rfl T.g_marks_of T.k_marks_of b_marks_of .nil pass0 (pa_cons (pv 0) (pa_cons (pe_ix ix_tup (pv 1) (pe_int) (fun _ _ => rfl)) (pa_nil)))) (pa_nil))) (by rfl)) (pss_one (ps_ret (pe_ifExp (pt_cmpR op_eq (pv 2) (pe_str) (nomark _)) (pe_callB (call_max2 rfl) (by rfl) T.f_max (by decide +kernel) (pa_cons (pv 3) (pa_cons (pv 4) (pa_nil)))) (pe_op op_add (pv 3) (pv 4)))))) (pss_nil)) (pss_cons (ps_never) (pss_cons (ps_never) (pss_cons (ps_never) (pss_cons (ps_never) (pss_one (ps_never))))))))
theorem zr_marks_of (T : Tx K mg) : OK_marks_of P w K mg base 0 := by
  obtain ⟨fd, F⟩ := T.d_marks_of
  exact ⟨fd, FunD.ok F sc_marks_of (fun vs H Q E h => (no_marks_of h).elim) (fun cdv A outer s H vs Q E hr h => (no_marks_of h).elim), F.bindsN fun _ _ _ _ _ _ us hl => match us, hl with | [_, _], _ => rfl⟩
end
section
variable {P : Program} {w : World} {K : PySem.W.Frag} {mg : Str → Option Value} {base : Heap}
theorem ok_marks_of (T : Tx K mg) : ∀ n, OK_marks_of P w K mg base n
  | 0 => zr_marks_of T
  | n + 1 => st_marks_of T n (ok_marks_of T n)
end
/-! width_of -/
def R_width_of : Nat → List PyData → PyData → Prop
  | 0, _, _ => False
  | n + 1, ds, r => ∃ (sg : Bool) (ns : List Nat), ds = [srtD sg ns] ∧ ns ≠ [] ∧ ns.length ≤ n + 1 ∧ r = .int (ns.length : Nat)
def sp_width_of (n : Nat) (K : PySem.W.Frag) : Sp := SpP (R_width_of n)
def t_width_of (n : Nat) (K : PySem.W.Frag) : TS := tSeq (tAsg (tOp (rIxT K) (tVar 0) (tC (.int 0))) (gName 1)) (tSeq (tIfS (tTest (tOp (rIn K false) (tVar 1) (tTup (tCons (tC (.str "either")) (tCons (tC (.str "pair")) (tNil)))))) (tSeq (tPar 2 3 (tCons (tCall (sp_width_of (n) K) [] E0 (tCons (tOp (rIxT K) (tVar 0) (tC (.int 1))) (tNil))) (tCons (tCall (sp_width_of (n) K) [] E0 (tCons (tOp (rIxT K) (tVar 0) (tC (.int 2))) (tNil))) (tNil)))) (tRet (tIf (tTest (tOp (rEq) (tVar 1) (tC (.str "either")))) (tCB (rMax) (tCons (tVar 2) (tCons (tVar 3) (tNil)))) (tOp (rI0 fun i j => .int (i + j)) (tVar 2) (tVar 3))))) (tNext)) (tSeq (tIfS (tTest (tOp (rIn K false) (tVar 1) (tTup (tCons (tC (.str "list")) (tCons (tC (.str "family")) (tCons (tC (.str "heap")) (tNil))))))) (tRet (tOp (rRepT K) (tOp (rIxT K) (tVar 0) (tC (.int 1))) (tCall (sp_width_of (n) K) [] E0 (tCons (tOp (rIxT K) (tVar 0) (tC (.int 2))) (tNil))))) (tNext)) (tRet (tC (.int 1)))))
theorem len_width_of {n : Nat} {K : PySem.W.Frag} {vs : List V} {H : Hp} {Q : VK} {E : XK} (h : sp_width_of (n + 1) K vs H Q E) : vs.length = 1 := spP_len h fun ds r ⟨_, _, e, _⟩ => by rw [e]; rfl
theorem run_width_of (K : PySem.W.Frag) (W : Wd) (n m : Nat) (ds : List PyData) (r : PyData) (h : R_width_of (n + 1) ds r) : RunS W (t_width_of n K) m (ds.map Slot.d ++ List.replicate (4 - ds.length) .non) (fun o => o = .rt m r) := by
  obtain ⟨sg, ns, rfl, hne, hl, rfl⟩ := h
  rcases srtD_shape sg ns hne with ⟨a, rfl⟩ | ⟨a, b, l, rfl⟩
  · rw [srtD_one]
    refine sa (by walk_at "ev") ?_
    refine sf (et_is (by walk_at "ev") (by cases sg <;> decide +kernel)) ?_
    refine sf (et_is (by walk_at "ev") (by cases sg <;> decide +kernel)) ?_
    exact rs_ret (ep_is (by walk_at "ev") (by simp)) rfl
  · rw [srtD_two]
    simp only [List.length_cons] at hl
    obtain ⟨n, rfl⟩ : ∃ k, n = k + 1 := ⟨n - 1, by omega⟩
    refine sa (by walk_at "ev") ?_
    refine st (et_is (by walk_at "ev") (by decide +kernel)) ?_
    refine sp2 (x := .int (1 : Nat)) (y := .int ((b :: l).length : Nat)) (ea_cons (ep_call (by walk_at "ev") ⟨sg, [a], rfl, by simp, by simp, by simp⟩) (ea_cons (ep_call (by walk_at "ev") ⟨sg, b :: l, rfl, by simp, by simp; omega, rfl⟩) ea_nil)) ?_
    refine rs_ret (ep_is (ep_ifF (et_is (by walk_at "ev") (by decide +kernel)) (by walk_at "ev")) ?_) rfl
    simp
    omega
theorem pure_width_of {n : Nat} {K : PySem.W.Frag} {vs : List V} {H : Hp} {Q : VK} {E : XK} (h : sp_width_of (n + 1) K vs H Q E) : t_width_of n K { nx := fun _ H' => Q .non H', rt := Q } (L2.start ["sort", "word", "first", "second"] vs) H := pure_of h fun W m ds r hr => run_width_of K W n m ds r hr
abbrev OK_width_of (P : Program) (w : World) (K : PySem.W.Frag) (mg : Str → Option Value) (base : Heap) (n : Nat) : Prop := ∃ fd, FnOk P w K mg base CX0 (n+1) (He.ga K "width_of") fd ["sort"] (sp_width_of n K) ∧ Binds K fd ["sort"] []
theorem no_width_of {K : PySem.W.Frag} {vs : List V} {H : Hp} {Q : VK} {E : XK} (h : sp_width_of 0 K vs H Q E) : False := by
  obtain ⟨_, _, _, _, _, h, _⟩ := h
  exact h
section
variable {P : Program} {w : World} {K : PySem.W.Frag} {mg : Str → Option Value} {base : Heap}
abbrev N_width_of : List Str := ["sort", "word", "first", "second"]
theorem sc_width_of : FnScope N_width_of ["sort"] (defScope s_width_of) := ⟨rfl, rfl, rfl, by decide +kernel, rfl, by decide +kernel, by decide +kernel⟩
theorem st_width_of (T : Tx K mg) (n : Nat) (h_width_of : OK_width_of P w K mg base n) : OK_width_of P w K mg base (n + 1) := by
  have nd := sc_width_of.nd
  obtain ⟨_, G_width_of, b_width_of⟩ := h_width_of
  obtain ⟨fd, F⟩ := T.d_width_of
  refine ⟨fd, FunD.ok F sc_width_of (fun vs H Q E h => len_width_of h) (fun cdv A outer s H vs Q E hr h => ⟨t_width_of n K, PSs.nox ?_, pure_width_of h⟩), F.bindsN fun _ _ _ _ _ _ us hl => match us, hl with | [_], _ => rfl⟩
  exact pss_cons (ps_set (i := 1) nd rfl (Or.inl rfl) (pe_ix ix_tup (pv 0) (pe_int) (fun _ _ => rfl))) (pss_cons (ps_if (pt_cmpR op_in_seq (pv 1) (pe_tup (pa_cons (pe_str) (pa_cons (pe_str) (pa_nil)))) rfl) (pss_cons (ps_par (i := 2) (j := 3) rfl nd rfl rfl (by decide) rfl rfl (pa_cons (pe_call G_width_of (hr.mono (by omega)) rfl T.g_width_of T.k_width_of b_width_of .nil pass0 (pa_cons (pe_ix ix_tup (pv 0) (pe_int) (fun _ _ => rfl)) (pa_nil))) (pa_cons (pe_call G_width_of (hr.mono (by omega)) rfl T.g_width_of T.k_width_of b_width_of .nil pass0 (pa_cons (pe_ix ix_tup (pv 0) (pe_int) (fun _ _ => rfl)) (pa_nil))) (pa_nil))) (by rfl)) (pss_one (ps_ret (pe_ifExp (pt_cmpR op_eq (pv 1) (pe_str) (nomark _)) (pe_callB (call_max2 rfl) (by rfl) T.f_max (by decide +kernel) (pa_cons (pv 2) (pa_cons (pv 3) (pa_nil)))) (pe_op op_add (pv 2) (pv 3)))))) (pss_nil)) (pss_cons (ps_if (pt_cmpR op_in_seq (pv 1) (pe_tup (pa_cons (pe_str) (pa_cons (pe_str) (pa_cons (pe_str) (pa_nil))))) rfl) (pss_one (ps_ret (pe_op op_repT (pe_ix ix_tup (pv 0) (pe_int) (fun _ _ => rfl)) (pe_call G_width_of (hr.mono (by omega)) rfl T.g_width_of T.k_width_of b_width_of .nil pass0 (pa_cons (pe_ix ix_tup (pv 0) (pe_int) (fun _ _ => rfl)) (pa_nil)))))) (pss_nil)) (pss_one (ps_ret (pe_int)))))
theorem zr_width_of (T : Tx K mg) : OK_width_of P w K mg base 0 := by
  obtain ⟨fd, F⟩ := T.d_width_of
  exact ⟨fd, FunD.ok F sc_width_of (fun vs H Q E h => (no_width_of h).elim) (fun cdv A outer s H vs Q E hr h => (no_width_of h).elim), F.bindsN fun _ _ _ _ _ _ us hl => match us, hl with | [_], _ => rfl⟩
end
section
variable {P : Program} {w : World} {K : PySem.W.Frag} {mg : Str → Option Value} {base : Heap}
theorem ok_width_of (T : Tx K mg) : ∀ n, OK_width_of P w K mg base n
  | 0 => zr_width_of T
  | n + 1 => st_width_of T n (ok_width_of T n)
end
end Uh

set_option Elab.async false
set_option linter.all false
set_option maxRecDepth 100000
set_option maxHeartbeats 1000000
namespace Uh
open PySem PySem.Spec PyProof.Rows L2
local macro_rules | `(tactic| walk_at "ev") => `(tactic| repeat (first
  | with_reducible exact ep_var rfl | with_reducible exact ep_int | with_reducible exact ep_bl | with_reducible exact ep_non | with_reducible exact ep_str
  | with_reducible exact ea_nil | with_reducible apply ea_cons | with_reducible apply ep_tupG | with_reducible apply ef_lstG | with_reducible exact et_yes
  | with_reducible apply ca_isiG | with_reducible exact kit_tuple _ | with_reducible exact kit_int _ | with_reducible exact kit_bool _ | with_reducible exact kit_str _
  | with_reducible apply et_test | with_reducible apply et_b | with_reducible apply et_not | with_reducible apply et_orG | with_reducible apply et_andG
  | with_reducible apply ep_orG | with_reducible apply ep_andG | with_reducible apply ep_notV | with_reducible apply ep_chainG
  | with_reducible apply ep_inG | with_reducible apply ep_op | with_reducible apply ep_un | with_reducible apply ep_cb
  | with_reducible exact od_i | with_reducible exact od_b | with_reducible exact od_eqI | with_reducible exact od_neI | with_reducible exact od_eqS | with_reducible exact od_eqB | with_reducible exact od_isN | with_reducible exact od_notN | with_reducible exact ud_i
  | with_reducible exact od_ixT at3_0 | with_reducible exact od_ixT at3_1 | with_reducible exact od_ixT at3_2 | with_reducible exact od_ixT at2_0 | with_reducible exact od_ixT at2_1
  | with_reducible apply od_catA | (with_reducible show _ + _ ≤ 100000; first | omega | (simp; done) | (simp; omega))
  | with_reducible exact ca_lenT | with_reducible exact ca_lenL
  | exact (show allS _ = true from rfl) | exact (show Nat.ble _ 100000 = true from rfl)))
/-- choices by steps; none: 0 came out ahead -/
def chS (first : Int) : Nat → Option Int
  | 0 => some 1
  | k + 1 => (chS first k).bind fun f => if f * (first - (k : Int)) / ((k : Int) + 1) ≤ 0 then none else some (f * (first - (k : Int)) / ((k : Int) + 1))
def chF (n t : Nat) (ag : Bool) : Int := if ag then (n : Int) + t - 1 else n
def chV (n t : Nat) (ag : Bool) : Int := (chS (chF n t ag) t).getD 0
theorem chS_none {first : Int} {i : Nat} (h : chS first i = none) : ∀ d, chS first (i + d) = none
  | 0 => h
  | d + 1 => by
    show (chS first (i + d)).bind _ = none
    rw [chS_none h d]
    rfl
def chOk : Bool := (List.range 6).all fun n => (List.range 13).all fun t => [true, false].all fun ag => (List.range 13).all fun k => match chS (chF n t ag) k with
  | none => true
  | some f => decide (0 < f) && decide (f ≤ 20000)
theorem chOk_true : chOk = true := by decide +kernel
theorem chS_bound {n t k : Nat} {ag : Bool} {f : Int} (hn : n ≤ 5) (ht : t ≤ 12) (hk : k ≤ 12) (h : chS (chF n t ag) k = some f) : 0 < f ∧ f ≤ 20000 := by
  have h0 := chOk_true
  unfold chOk at h0
  rw [List.all_eq_true] at h0
  have h1 := h0 n (List.mem_range.mpr (by omega))
  rw [List.all_eq_true] at h1
  have h2 := h1 t (List.mem_range.mpr (by omega))
  rw [List.all_eq_true] at h2
  have h3 := h2 ag (by cases ag <;> simp)
  rw [List.all_eq_true] at h3
  have h4 := h3 k (List.mem_range.mpr (by omega))
  rw [h] at h4
  simpa using h4
theorem chV_bound {n t : Nat} {ag : Bool} (hn : n ≤ 5) (ht : t ≤ 12) : 0 ≤ chV n t ag ∧ chV n t ag ≤ 20000 := by
  unfold chV
  cases h : chS (chF n t ag) t with
  | none => simp
  | some f =>
    have := chS_bound hn ht ht h
    simp
    omega
/-! choices -/
def R_choices (ds : List PyData) (r : PyData) : Prop := ∃ (k t : Nat) (ag : Bool), ds = [.int (k : Nat), .int (t : Nat), .bool ag] ∧ k ≤ 5 ∧ t ≤ 12 ∧ r = .int (chV k t ag)
def sp_choices (K : PySem.W.Frag) : Sp := SpP R_choices
def t_choices (K : PySem.W.Frag) : TS := tSeq (tAsg (tC (.int 1)) (gName 3)) (tSeq (tAsg (tIf (tB (tVar 2)) (tOp (rI0 fun i j => .int (i - j)) (tOp (rI0 fun i j => .int (i + j)) (tVar 0) (tVar 1)) (tC (.int 1))) (tVar 0)) (gName 4)) (tSeq (tFor (iRng1 (tCons (tVar 1) (tNil))) (gName 5) (tSeq (tAsg (tOp (rI CDiv fun i j => .int (i / j)) (tOp (rI CMul fun i j => .int (i * j)) (tVar 3) (tOp (rI0 fun i j => .int (i - j)) (tVar 4) (tVar 5))) (tOp (rI0 fun i j => .int (i + j)) (tVar 5) (tC (.int 1)))) (gName 3)) (tIfS (tTest (tOp (rI0 fun i j => .bl (decide (i ≤ j))) (tVar 3) (tC (.int 0)))) (tRet (tC (.int 0))) (tNext)))) (tRet (tVar 3))))
theorem len_choices {K : PySem.W.Frag} {vs : List V} {H : Hp} {Q : VK} {E : XK} (h : sp_choices K vs H Q E) : vs.length = 3 := spP_len h fun ds r ⟨_, _, _, e, _⟩ => by rw [e]; rfl
theorem run_choices (K : PySem.W.Frag) (W : Wd) (n : Nat) (ds : List PyData) (r : PyData) (h : R_choices ds r) : RunS W (t_choices K) n (ds.map Slot.d ++ List.replicate (6 - ds.length) .non) (fun o => o = .rt n r) := by
  obtain ⟨k, t, ag, rfl, hk, ht, rfl⟩ := h
  refine sa (by walk_at "ev") ?_
  refine sa (d := .int (chF k t ag)) (ep_if (b := ag) (by walk_at "ev") (fun e => ?_) fun e => ?_) ?_
  · refine ep_is (by walk_at "ev") ?_
    unfold chF
    rw [if_pos e]
  · refine ep_is (by walk_at "ev") ?_
    unfold chF
    rw [if_neg (by simp [e])]
  refine sfor (xs := irange 0 t) (enc := PyData.int) (f := fun v ss => ss.set 5 (.d (.int v))) (fun i n' ss' => n' = n ∧ ∃ f s, chS (chF k t ag) i = some f ∧ ss' = [.d (.int k), .d (.int t), .d (.bool ag), .d (.int f), .d (.int (chF k t ag)), s]) (by
    have hw := wk_r1 (ss := [Slot.d (.int k), .d (.int t), .d (.bool ag), .d (.int 1), .d (.int (chF k t ag)), .non]) (ta := tCons (tVar 1) tNil) (n := (t : Int)) (by walk_at "ev") (by omega) (by omega)
    exact hw) (fun _ _ => tg_name) ⟨rfl, _, _, rfl, rfl⟩ ?_ ?_
  · rintro i v _ _ hi ⟨rfl, f, s, hf, rfl⟩
    obtain ⟨hit, rfl⟩ := irange_get hi
    rw [Int.zero_add]
    obtain ⟨b0, b1⟩ := chS_bound hk ht (by omega) hf
    refine sa (d := .int (f * (chF k t ag - (i : Int)) / ((i : Int) + 1))) (ep_op (ep_op (by walk_at "ev") (by walk_at "ev") (od_c (.inl ⟨by omega, by omega⟩))) (by walk_at "ev") (od_c ⟨by omega, by omega⟩)) ?_
    by_cases hle : f * (chF k t ag - (i : Int)) / ((i : Int) + 1) ≤ 0
    · refine rs_ifT (et_is (by walk_at "ev") (decide_eq_true hle)) (rs_ret (by walk_at "ev") ?_)
      have hn : chS (chF k t ag) (i + 1) = none := by
        show (chS _ i).bind _ = none
        rw [hf]
        show (if _ then _ else _) = _
        rw [if_pos hle]
      have h0 : chV k t ag = 0 := by
        unfold chV
        have := chS_none hn (t - (i + 1))
        rw [show i + 1 + (t - (i + 1)) = t by omega] at this
        rw [this]
        rfl
      show Out.rt _ _ = Out.rt _ _
      rw [h0]
    · refine rs_ifF (et_is (by walk_at "ev") (decide_eq_false hle)) (rs_next ⟨rfl, _, _, ?_, rfl⟩)
      show (chS _ i).bind _ = _
      rw [hf]
      show (if _ then _ else _) = _
      rw [if_neg hle]
  · rintro _ _ ⟨rfl, f, s, hf, rfl⟩
    refine rs_ret (ep_is (by walk_at "ev") ?_) rfl
    rw [irange_len] at hf
    unfold chV
    rw [hf]
    rfl
theorem pure_choices {K : PySem.W.Frag} {vs : List V} {H : Hp} {Q : VK} {E : XK} (h : sp_choices K vs H Q E) : t_choices K { nx := fun _ H' => Q .non H', rt := Q } (L2.start ["number", "times", "again", "found", "first", "step"] vs) H := pure_of h fun W n ds r hr => run_choices K W n ds r hr
section
variable {P : Program} {w : World} {K : PySem.W.Frag} {mg : Str → Option Value} {base : Heap}
abbrev N_choices : List Str := ["number", "times", "again", "found", "first", "step"]
theorem sc_choices : FnScope N_choices ["number", "times", "again"] (defScope s_choices) := ⟨rfl, rfl, rfl, by decide +kernel, rfl, by decide +kernel, by decide +kernel⟩
theorem ok_choices (T : Tx K mg) : ∃ fd, FnOk P w K mg base CX0 1 (He.ga K "choices") fd ["number", "times", "again"] (sp_choices K) ∧ Binds K fd ["number", "times", "again"] [] := by
  have nd := sc_choices.nd
  obtain ⟨fd, F⟩ := T.d_choices
  refine ⟨fd, FunD.ok F sc_choices (fun vs H Q E h => len_choices h) (fun cdv A outer s H vs Q E hr h => ⟨t_choices K, PSs.nox ?_, pure_choices h⟩), F.bindsN fun _ _ _ _ _ _ us hl => match us, hl with | [_, _, _], _ => rfl⟩
  exact pss_cons (ps_set (i := 3) nd rfl (Or.inl rfl) (pe_int)) (pss_cons (ps_set (i := 4) nd rfl (Or.inl rfl) (pe_ifExp (pt_val (pv 2)) (pe_op op_sub (pe_op op_add (pv 0) (pv 1)) (pe_int)) (pv 0))) (pss_cons (ps_for PassesOwn.never rfl (pi_range1 rfl T.f_range (pa_cons (pv 1) (pa_nil))) (pg_name (i := 5) nd rfl (Or.inl rfl)) (pss_cons (ps_set (i := 3) nd rfl (Or.inl rfl) (pe_op op_fdiv (pe_op op_mul (pv 3) (pe_op op_sub (pv 4) (pv 5))) (pe_op op_add (pv 5) (pe_int)))) (pss_one (ps_if (pt_cmpR op_le (pv 3) (pe_int) (nomark _)) (pss_one (ps_ret (pe_int))) (pss_nil))))) (pss_one (ps_ret (pv 3)))))
end
/-! bare_size -/
def R_bare_size (ds : List PyData) (r : PyData) : Prop := ∃ (k t : Nat) (sg : Bool), ds = [.int (k : Nat), leafD sg t] ∧ k ≤ 5 ∧ t ≤ 12 ∧ r = .int (chV k t (!sg))
def sp_bare_size (K : PySem.W.Frag) : Sp := SpP R_bare_size
def t_bare_size (K : PySem.W.Frag) : TS := tSeq (tAsg (tOp (rIxT K) (tVar 1) (tC (.int 0))) (gName 2)) (tSeq (tIfS (tTest (tOp (rEq) (tVar 2) (tC (.str "none")))) (tRet (tC (.int 0))) (tNext)) (tSeq (tIfS (tTest (tOp (rEq) (tVar 2) (tC (.str "one")))) (tRet (tVar 0)) (tNext)) (tSeq (tIfS (tTest (tOp (rIn K false) (tVar 2) (tTup (tCons (tC (.str "subset")) (tCons (tC (.str "bag")) (tNil)))))) (tRet (tCall (sp_choices K) [] E0 (tCons (tVar 0) (tCons (tOp (rIxT K) (tVar 1) (tC (.int 1))) (tCons (tOp (rEq) (tVar 2) (tC (.str "bag"))) (tNil)))))) (tNext)) (tSeq (tNever) (tNever)))))
theorem len_bare_size {K : PySem.W.Frag} {vs : List V} {H : Hp} {Q : VK} {E : XK} (h : sp_bare_size K vs H Q E) : vs.length = 2 := spP_len h fun ds r ⟨_, _, _, e, _⟩ => by rw [e]; rfl
theorem run_bare_size (K : PySem.W.Frag) (W : Wd) (n : Nat) (ds : List PyData) (r : PyData) (h : R_bare_size ds r) : RunS W (t_bare_size K) n (ds.map Slot.d ++ List.replicate (3 - ds.length) .non) (fun o => o = .rt n r) := by
  obtain ⟨k, t, sg, rfl, hk, ht, rfl⟩ := h
  refine sa (by walk_at "ev") ?_
  refine sf (et_is (by walk_at "ev") (by cases sg <;> decide +kernel)) ?_
  refine sf (et_is (by walk_at "ev") (by cases sg <;> decide +kernel)) ?_
  refine st (et_is (by walk_at "ev") (by cases sg <;> decide +kernel)) ?_
  have e : (decide (wdS sg = "bag")) = !sg := by cases sg <;> decide +kernel
  refine rs_ret (ep_call (by walk_at "ev") ⟨k, t, !sg, by rw [e], hk, ht, rfl⟩) rfl
theorem pure_bare_size {K : PySem.W.Frag} {vs : List V} {H : Hp} {Q : VK} {E : XK} (h : sp_bare_size K vs H Q E) : t_bare_size K { nx := fun _ H' => Q .non H', rt := Q } (L2.start ["many", "sort", "word"] vs) H := pure_of h fun W n ds r hr => run_bare_size K W n ds r hr
section
variable {P : Program} {w : World} {K : PySem.W.Frag} {mg : Str → Option Value} {base : Heap}
abbrev N_bare_size : List Str := ["many", "sort", "word"]
theorem sc_bare_size : FnScope N_bare_size ["many", "sort"] (defScope s_bare_size) := ⟨rfl, rfl, rfl, by decide +kernel, rfl, by decide +kernel, by decide +kernel⟩
theorem ok_bare_size (T : Tx K mg) : ∃ fd, FnOk P w K mg base CX0 2 (He.ga K "bare_size") fd ["many", "sort"] (sp_bare_size K) ∧ Binds K fd ["many", "sort"] [] := by
  have nd := sc_bare_size.nd
  obtain ⟨_, G_choices, b_choices⟩ := ok_choices (P := P) (w := w) (base := base) T
  obtain ⟨fd, F⟩ := T.d_bare_size
  refine ⟨fd, FunD.ok F sc_bare_size (fun vs H Q E h => len_bare_size h) (fun cdv A outer s H vs Q E hr h => ⟨t_bare_size K, PSs.nox ?_, pure_bare_size h⟩), F.bindsN fun _ _ _ _ _ _ us hl => match us, hl with | [_, _], _ => rfl⟩
  exact pss_cons (ps_set (i := 2) nd rfl (Or.inl rfl) (pe_ix ix_tup (pv 1) (pe_int) (fun _ _ => rfl))) (pss_cons (ps_if (pt_cmpR op_eq (pv 2) (pe_str) (nomark _)) (pss_one (ps_ret (pe_int))) (pss_nil)) (pss_cons (ps_if (pt_cmpR op_eq (pv 2) (pe_str) (nomark _)) (pss_one (ps_ret (pv 0))) (pss_nil)) (pss_cons (ps_if (pt_cmpR op_in_seq (pv 2) (pe_tup (pa_cons (pe_str) (pa_cons (pe_str) (pa_nil)))) rfl) (pss_one (ps_ret (pe_call G_choices (hr.mono (by omega)) rfl T.g_choices T.k_choices b_choices .nil pass0 (pa_cons (pv 0) (pa_cons (pe_ix ix_tup (pv 1) (pe_int) (fun _ _ => rfl)) (pa_cons (pe_cmpR op_eq (pv 2) (pe_str) (nomark _)) (pa_nil))))))) (pss_nil)) (pss_cons (ps_never) (pss_one (ps_never))))))
end
def szV (k : Nat) (sg : Bool) : List Nat → Int
  | [] => 1
  | c :: cs => match cs with
    | [] => chV k c (!sg)
    | _ :: _ => chV k c (!sg) * szV k sg cs
theorem szV_two {k : Nat} {sg : Bool} {a b : Nat} {l : List Nat} : szV k sg (a :: b :: l) = chV k a (!sg) * szV k sg (b :: l) := rfl
theorem szV_bound {k : Nat} {sg : Bool} (hk : k ≤ 5) : ∀ ns : List Nat, ns ≠ [] → (∀ x ∈ ns, x ≤ 12) → 0 ≤ szV k sg ns ∧ szV k sg ns ≤ 20000 ^ ns.length
  | [], h, _ => absurd rfl h
  | [a], _, h => by
    have := chV_bound (n := k) (t := a) (ag := !sg) hk (h a (by simp))
    show 0 ≤ chV k a (!sg) ∧ chV k a (!sg) ≤ 20000 ^ 1
    omega
  | a :: b :: l, _, h => by
    have h1 := chV_bound (n := k) (t := a) (ag := !sg) hk (h a (by simp))
    have h2 := szV_bound (k := k) (sg := sg) hk (b :: l) (by simp) fun x hx => h x (List.mem_cons_of_mem _ hx)
    rw [szV_two, List.length_cons, Int.pow_succ, Int.mul_comm (20000 ^ (b :: l).length) 20000]
    exact ⟨Int.mul_nonneg h1.1 h2.1, Int.mul_le_mul h1.2 h2.2 h2.1 (by omega)⟩
theorem szV_le {k : Nat} {sg : Bool} {ns : List Nat} (hk : k ≤ 5) (hne : ns ≠ []) (hb : ∀ x ∈ ns, x ≤ 12) (hl : ns.length ≤ 5) : 0 ≤ szV k sg ns ∧ szV k sg ns ≤ 32000000000000000000000 := by
  obtain ⟨h1, h2⟩ := szV_bound (k := k) (sg := sg) hk ns hne hb
  refine ⟨h1, Int.le_trans h2 ?_⟩
  have : ns.length = 0 ∨ ns.length = 1 ∨ ns.length = 2 ∨ ns.length = 3 ∨ ns.length = 4 ∨ ns.length = 5 := by omega
  rcases this with e | e | e | e | e | e <;> rw [e] <;> decide
/-! size_of -/
def R_size_of : Nat → List PyData → PyData → Prop
  | 0, _, _ => False
  | n + 1, ds, r => ∃ (k : Nat) (sg : Bool) (ns : List Nat), ds = [.int (k : Nat), srtD sg ns] ∧ k ≤ 5 ∧ ns ≠ [] ∧ ns.length ≤ n + 1 ∧ ns.length ≤ 5 ∧ (∀ x ∈ ns, x ≤ 12) ∧ r = .int (szV k sg ns)
def sp_size_of (n : Nat) (K : PySem.W.Frag) : Sp := SpP (R_size_of n)
def t_size_of (n : Nat) (K : PySem.W.Frag) : TS := tSeq (tAsg (tOp (rIxT K) (tVar 1) (tC (.int 0))) (gName 2)) (tSeq (tIfS (tTest (tOp (rIn K false) (tVar 2) (tTup (tCons (tC (.str "either")) (tCons (tC (.str "pair")) (tNil)))))) (tSeq (tPar 3 4 (tCons (tCall (sp_size_of (n) K) [] E0 (tCons (tVar 0) (tCons (tOp (rIxT K) (tVar 1) (tC (.int 1))) (tNil)))) (tCons (tCall (sp_size_of (n) K) [] E0 (tCons (tVar 0) (tCons (tOp (rIxT K) (tVar 1) (tC (.int 2))) (tNil)))) (tNil)))) (tAsg (tIf (tTest (tOp (rEq) (tVar 2) (tC (.str "either")))) (tOp (rI0 fun i j => .int (i + j)) (tVar 3) (tVar 4)) (tOp (rI CMul fun i j => .int (i * j)) (tVar 3) (tVar 4))) (gName 5))) (tIfS (tTest (tOp (rEq) (tVar 2) (tC (.str "list")))) (tNever) (tIfS (tTest (tOp (rIn K false) (tVar 2) (tTup (tCons (tC (.str "family")) (tCons (tC (.str "heap")) (tNil)))))) (tNever) (tAsg (tCall (sp_bare_size K) [] E0 (tCons (tVar 0) (tCons (tVar 1) (tNil)))) (gName 5))))) (tSeq (tIfS (tTest (tOp (rI0 fun i j => .bl (decide (j < i))) (tVar 5) (tC (.int 1000000000000000000000000000000)))) (tNever) (tNext)) (tRet (tVar 5))))
theorem len_size_of {n : Nat} {K : PySem.W.Frag} {vs : List V} {H : Hp} {Q : VK} {E : XK} (h : sp_size_of (n + 1) K vs H Q E) : vs.length = 2 := spP_len h fun ds r ⟨_, _, _, e, _⟩ => by rw [e]; rfl
theorem run_size_of (K : PySem.W.Frag) (W : Wd) (n m : Nat) (ds : List PyData) (r : PyData) (h : R_size_of (n + 1) ds r) : RunS W (t_size_of n K) m (ds.map Slot.d ++ List.replicate (6 - ds.length) .non) (fun o => o = .rt m r) := by
  obtain ⟨k, sg, ns, rfl, hk, hne, hl, hl5, hb, rfl⟩ := h
  have bd := szV_le (sg := sg) hk hne hb hl5
  rcases srtD_shape sg ns hne with ⟨a, rfl⟩ | ⟨a, b, l, rfl⟩
  · rw [srtD_one]
    refine sa (by walk_at "ev") ?_
    refine rs_seq (rs_ifF (et_is (by walk_at "ev") (by cases sg <;> decide +kernel)) (rs_ifF (et_is (by walk_at "ev") (by cases sg <;> decide +kernel)) (rs_ifF (et_is (by walk_at "ev") (by cases sg <;> decide +kernel)) (rs_asg (ep_call (by walk_at "ev") ⟨k, a, sg, rfl, hk, hb a (by simp), rfl⟩) ?_))))
    refine sf (et_is (by walk_at "ev") (decide_eq_false ?_)) (rs_ret (by walk_at "ev") rfl)
    have e : chV k a (!sg) = szV k sg [a] := rfl
    rw [e]
    omega
  · rw [srtD_two]
    simp only [List.length_cons] at hl
    obtain ⟨n, rfl⟩ : ∃ k, n = k + 1 := ⟨n - 1, by omega⟩
    have b1 := chV_bound (n := k) (t := a) (ag := !sg) hk (hb a (by simp))
    refine sa (by walk_at "ev") ?_
    refine rs_seq (rs_ifT (et_is (by walk_at "ev") (by decide +kernel)) ?_)
    refine sp2 (x := .int (chV k a (!sg))) (y := .int (szV k sg (b :: l))) (ea_cons (ep_call (by walk_at "ev") ⟨k, sg, [a], rfl, hk, by simp, by simp, by simp, fun x hx => hb x (by simp at hx; simp [hx]), rfl⟩) (ea_cons (ep_call (by walk_at "ev") ⟨k, sg, b :: l, rfl, hk, by simp, by simp; omega, by simp at hl5 ⊢; omega, fun x hx => hb x (List.mem_cons_of_mem _ hx), rfl⟩) ea_nil)) ?_
    refine rs_asg (ep_ifF (et_is (by walk_at "ev") (by decide +kernel)) (ep_op (by walk_at "ev") (by walk_at "ev") (od_c (.inl ⟨by omega, by omega⟩)))) ?_
    refine sf (et_is (by walk_at "ev") (decide_eq_false ?_)) (rs_ret (by walk_at "ev") rfl)
    rw [← szV_two]
    omega
theorem pure_size_of {n : Nat} {K : PySem.W.Frag} {vs : List V} {H : Hp} {Q : VK} {E : XK} (h : sp_size_of (n + 1) K vs H Q E) : t_size_of n K { nx := fun _ H' => Q .non H', rt := Q } (L2.start ["many", "sort", "word", "first", "second", "number"] vs) H := pure_of h fun W m ds r hr => run_size_of K W n m ds r hr
abbrev OK_size_of (P : Program) (w : World) (K : PySem.W.Frag) (mg : Str → Option Value) (base : Heap) (n : Nat) : Prop := ∃ fd, FnOk P w K mg base CX0 (2+n+1) (He.ga K "size_of") fd ["many", "sort"] (sp_size_of n K) ∧ Binds K fd ["many", "sort"] []
theorem no_size_of {K : PySem.W.Frag} {vs : List V} {H : Hp} {Q : VK} {E : XK} (h : sp_size_of 0 K vs H Q E) : False := by
  obtain ⟨_, _, _, _, _, h, _⟩ := h
  exact h
section
variable {P : Program} {w : World} {K : PySem.W.Frag} {mg : Str → Option Value} {base : Heap}
abbrev N_size_of : List Str := ["many", "sort", "word", "first", "second", "number"]
theorem sc_size_of : FnScope N_size_of ["many", "sort"] (defScope s_size_of) := ⟨rfl, rfl, rfl, by decide +kernel, rfl, by decide +kernel, by decide +kernel⟩
theorem st_size_of (T : Tx K mg) (n : Nat) (h_size_of : OK_size_of P w K mg base n) : OK_size_of P w K mg base (n + 1) := by
  have nd := sc_size_of.nd
  obtain ⟨_, G_size_of, b_size_of⟩ := h_size_of
  obtain ⟨_, G_bare_size, b_bare_size⟩ := ok_bare_size (P := P) (w := w) (base := base) T
  obtain ⟨_, m_MOST_MEMBERS⟩ := T.m_MOST_MEMBERS
  obtain ⟨fd, F⟩ := T.d_size_of
  refine ⟨fd, FunD.ok F sc_size_of (fun vs H Q E h => len_size_of h) (fun cdv A outer s H vs Q E hr h => ⟨t_size_of n K, PSs.nox ?_, pure_size_of h⟩), F.bindsN fun _ _ _ _ _ _ us hl => match us, hl with | [_, _], _ => rfl⟩
  exact pss_cons (ps_set (i := 2) nd rfl (Or.inl rfl) (pe_ix ix_tup (pv 1) (pe_int) (fun _ _ => rfl))) (pss_cons (ps_if (pt_cmpR op_in_seq (pv 2) (pe_tup (pa_cons (pe_str) (pa_cons (pe_str) (pa_nil)))) rfl) (pss_cons (ps_par (i := 3) (j := 4) rfl nd rfl rfl (by decide) rfl rfl (pa_cons (pe_call G_size_of (hr.mono (by omega)) rfl T.g_size_of T.k_size_of b_size_of .nil pass0 (pa_cons (pv 0) (pa_cons (pe_ix ix_tup (pv 1) (pe_int) (fun _ _ => rfl)) (pa_nil)))) (pa_cons (pe_call G_size_of (hr.mono (by omega)) rfl T.g_size_of T.k_size_of b_size_of .nil pass0 (pa_cons (pv 0) (pa_cons (pe_ix ix_tup (pv 1) (pe_int) (fun _ _ => rfl)) (pa_nil)))) (pa_nil))) (by rfl)) (pss_one (ps_set (i := 5) nd rfl (Or.inl rfl) (pe_ifExp (pt_cmpR op_eq (pv 2) (pe_str) (nomark _)) (pe_op op_add (pv 3) (pv 4)) (pe_op op_mul (pv 3) (pv 4)))))) (pss_one (ps_if (pt_cmpR op_eq (pv 2) (pe_str) (nomark _)) (pss_one (ps_never)) (pss_one (ps_if (pt_cmpR op_in_seq (pv 2) (pe_tup (pa_cons (pe_str) (pa_cons (pe_str) (pa_nil)))) rfl) (pss_one (ps_never)) (pss_one (ps_set (i := 5) nd rfl (Or.inl rfl) (pe_call G_bare_size (hr.mono (by omega)) rfl T.g_bare_size T.k_bare_size b_bare_size .nil pass0 (pa_cons (pv 0) (pa_cons (pv 1) (pa_nil))))))))))) (pss_cons (ps_if (pt_cmpR op_gt (pv 5) (pe_glob rfl m_MOST_MEMBERS ⟨_, rfl⟩) (nomark _)) (pss_one (ps_never)) (pss_nil)) (pss_one (ps_ret (pv 5)))))
theorem zr_size_of (T : Tx K mg) : OK_size_of P w K mg base 0 := by
  obtain ⟨fd, F⟩ := T.d_size_of
  exact ⟨fd, FunD.ok F sc_size_of (fun vs H Q E h => (no_size_of h).elim) (fun cdv A outer s H vs Q E hr h => (no_size_of h).elim), F.bindsN fun _ _ _ _ _ _ us hl => match us, hl with | [_, _], _ => rfl⟩
end
section
variable {P : Program} {w : World} {K : PySem.W.Frag} {mg : Str → Option Value} {base : Heap}
theorem ok_size_of (T : Tx K mg) : ∀ n, OK_size_of P w K mg base n
  | 0 => zr_size_of T
  | n + 1 => st_size_of T n (ok_size_of T n)
end
theorem le_sum : ∀ {ns : List Nat} (x : Nat), x ∈ ns → x ≤ ns.sum
  | [], x, h => by simp at h
  | n :: ns, x, h => by
    rw [List.sum_cons]
    rcases List.mem_cons.mp h with e | e
    · omega
    · have := le_sum x e
      omega
/-! need_sort -/
def R_need_sort (ds : List PyData) (r : PyData) : Prop := ∃ (k : Nat) (sg : Bool) (ns : List Nat), ds = [.int (k : Nat), srtD sg ns] ∧ 2 ≤ k ∧ k ≤ 5 ∧ ns ≠ [] ∧ ns.length ≤ 5 ∧ ns.sum ≤ 12 ∧ r = srtD sg ns
def sp_need_sort (K : PySem.W.Frag) : Sp := SpP R_need_sort
def t_need_sort (K : PySem.W.Frag) : TS := tSeq (tDrop (tCall (sp_need_many K) [] E0 (tCons (tVar 0) (tNil)))) (tSeq (tDrop (tCall (sp_walked (5) K) [] E0 (tCons (tVar 1) (tCons (tTup (tNil)) (tCons (tC (.int 1)) (tCons (tC (.int 0)) (tNil))))))) (tSeq (tIfS (tTest (tOp (rI0 fun i j => .bl (decide (j < i))) (tCall (sp_marks_of (5) K) [] E0 (tCons (tVar 0) (tCons (tVar 1) (tNil)))) (tC (.int 12)))) (tNever) (tNext)) (tSeq (tIfS (tTest (tOp (rI0 fun i j => .bl (decide (j < i))) (tCall (sp_width_of (5) K) [] E0 (tCons (tVar 1) (tNil))) (tC (.int 40)))) (tNever) (tNext)) (tSeq (tDrop (tCall (sp_size_of (5) K) [] E0 (tCons (tVar 0) (tCons (tVar 1) (tNil))))) (tRet (tVar 1))))))
theorem len_need_sort {K : PySem.W.Frag} {vs : List V} {H : Hp} {Q : VK} {E : XK} (h : sp_need_sort K vs H Q E) : vs.length = 2 := spP_len h fun ds r ⟨_, _, _, e, _⟩ => by rw [e]; rfl
theorem run_need_sort (K : PySem.W.Frag) (W : Wd) (n : Nat) (ds : List PyData) (r : PyData) (h : R_need_sort ds r) : RunS W (t_need_sort K) n (ds.map Slot.d ++ List.replicate (2 - ds.length) .non) (fun o => o = .rt n r) := by
  obtain ⟨k, sg, ns, rfl, hk2, hk, hne, hl, hs, rfl⟩ := h
  have hb : ∀ x ∈ ns, x ≤ 12 := fun x hx => Nat.le_trans (le_sum x hx) hs
  have hlen : 0 < ns.length := List.length_pos_iff.mpr hne
  refine sdrop (ep_call (by walk_at "ev") ⟨k, rfl, by omega, by omega, rfl⟩) ?_
  refine sdrop (ep_call (by walk_at "ev") ⟨sg, ns, [], 1, 0, rfl, hne, by omega, hb, by simp, by omega, by omega, by omega, by omega, by simp; omega, rfl⟩) ?_
  refine sf (et_is (et_test (ep_op (ep_call (by walk_at "ev") ⟨k, sg, ns, rfl, hne, by omega, rfl⟩) (by walk_at "ev") od_b)) (decide_eq_false (by omega))) ?_
  refine sf (et_is (et_test (ep_op (ep_call (by walk_at "ev") ⟨sg, ns, rfl, hne, by omega, rfl⟩) (by walk_at "ev") od_b)) (decide_eq_false (by omega))) ?_
  refine sdrop (ep_call (by walk_at "ev") ⟨k, sg, ns, rfl, by omega, hne, by omega, by omega, hb, rfl⟩) ?_
  exact rs_ret (by walk_at "ev") rfl
theorem pure_need_sort {K : PySem.W.Frag} {vs : List V} {H : Hp} {Q : VK} {E : XK} (h : sp_need_sort K vs H Q E) : t_need_sort K { nx := fun _ H' => Q .non H', rt := Q } (L2.start ["many", "value"] vs) H := pure_of h fun W n ds r hr => run_need_sort K W n ds r hr
section
variable {P : Program} {w : World} {K : PySem.W.Frag} {mg : Str → Option Value} {base : Heap}
abbrev N_need_sort : List Str := ["many", "value"]
theorem sc_need_sort : FnScope N_need_sort ["many", "value"] (defScope s_need_sort) := ⟨rfl, rfl, rfl, by decide +kernel, rfl, by decide +kernel, by decide +kernel⟩
theorem ok_need_sort (T : Tx K mg) : ∃ fd, FnOk P w K mg base CX0 9 (He.ga K "need_sort") fd ["many", "value"] (sp_need_sort K) ∧ Binds K fd ["many", "value"] [] := by
  have nd := sc_need_sort.nd
  obtain ⟨_, G_size_of, b_size_of⟩ := ok_size_of (P := P) (w := w) (base := base) T (5)
  obtain ⟨_, G_width_of, b_width_of⟩ := ok_width_of (P := P) (w := w) (base := base) T (5)
  obtain ⟨_, G_marks_of, b_marks_of⟩ := ok_marks_of (P := P) (w := w) (base := base) T (5)
  obtain ⟨_, G_walked, b_walked⟩ := ok_walked (P := P) (w := w) (base := base) T (5)
  obtain ⟨_, G_need_many, b_need_many⟩ := ok_need_many (P := P) (w := w) (base := base) T
  obtain ⟨_, m_MOST_WIDTH⟩ := T.m_MOST_WIDTH
  obtain ⟨_, m_MOST_MARKS_sorts⟩ := T.m_MOST_MARKS_sorts
  obtain ⟨fd, F⟩ := T.d_need_sort
  refine ⟨fd, FunD.ok F sc_need_sort (fun vs H Q E h => len_need_sort h) (fun cdv A outer s H vs Q E hr h => ⟨t_need_sort K, PSs.nox ?_, pure_need_sort h⟩), F.bindsN fun _ _ _ _ _ _ us hl => match us, hl with | [_, _], _ => rfl⟩
  exact pss_cons (ps_expr (pe_call G_need_many (hr.mono (by omega)) rfl T.g_need_many T.k_need_many b_need_many .nil pass0 (pa_cons (pv 0) (pa_nil)))) (pss_cons (ps_expr (pe_call G_walked (hr.mono (by omega)) rfl T.g_walked T.k_walked b_walked .nil pass0 (pa_cons (pv 1) (pa_cons (pe_tup (pa_nil)) (pa_cons (pe_int) (pa_cons (pe_int) (pa_nil))))))) (pss_cons (ps_if (pt_cmpR op_gt (pe_call G_marks_of (hr.mono (by omega)) rfl T.g_marks_of T.k_marks_of b_marks_of .nil pass0 (pa_cons (pv 0) (pa_cons (pv 1) (pa_nil)))) (pe_glob rfl m_MOST_MARKS_sorts ⟨_, rfl⟩) (nomark _)) (pss_one (ps_never)) (pss_nil)) (pss_cons (ps_if (pt_cmpR op_gt (pe_call G_width_of (hr.mono (by omega)) rfl T.g_width_of T.k_width_of b_width_of .nil pass0 (pa_cons (pv 1) (pa_nil))) (pe_glob rfl m_MOST_WIDTH ⟨_, rfl⟩) (nomark _)) (pss_one (ps_never)) (pss_nil)) (pss_cons (ps_expr (pe_call G_size_of (hr.mono (by omega)) rfl T.g_size_of T.k_size_of b_size_of .nil pass0 (pa_cons (pv 0) (pa_cons (pv 1) (pa_nil))))) (pss_one (ps_ret (pv 1)))))))
end
end Uh

set_option Elab.async false
set_option linter.all false
set_option maxRecDepth 100000
set_option maxHeartbeats 1000000
namespace Uh
open PySem PySem.Spec PyProof.Rows L2
local macro_rules | `(tactic| walk_at "ev") => `(tactic| repeat (first
  | with_reducible exact ep_var rfl | with_reducible exact ep_int | with_reducible exact ep_bl | with_reducible exact ep_non | with_reducible exact ep_str
  | with_reducible exact ea_nil | with_reducible apply ea_cons | with_reducible apply ep_tupG | with_reducible apply ef_lstG | with_reducible exact et_yes
  | with_reducible apply ca_isiG | with_reducible exact kit_tuple _ | with_reducible exact kit_int _ | with_reducible exact kit_bool _ | with_reducible exact kit_str _
  | with_reducible apply et_test | with_reducible apply et_b | with_reducible apply et_not | with_reducible apply et_orG | with_reducible apply et_andG
  | with_reducible apply ep_orG | with_reducible apply ep_andG | with_reducible apply ep_notV | with_reducible apply ep_chainG
  | with_reducible apply ep_inG | with_reducible apply ep_op | with_reducible apply ep_un | with_reducible apply ep_cb
  | with_reducible exact od_i | with_reducible exact od_b | with_reducible exact od_eqI | with_reducible exact od_neI | with_reducible exact od_eqS | with_reducible exact od_eqB | with_reducible exact od_isN | with_reducible exact od_notN | with_reducible exact ud_i
  | with_reducible exact od_ixT at3_0 | with_reducible exact od_ixT at3_1 | with_reducible exact od_ixT at3_2 | with_reducible exact od_ixT at2_0 | with_reducible exact od_ixT at2_1 | with_reducible exact od_ixT at1_0
  | with_reducible apply od_catA | (with_reducible show _ + _ ≤ 100000; first | omega | (simp; done) | (simp; omega))
  | with_reducible exact ca_lenT | with_reducible exact ca_lenL
  | exact (show allS _ = true from rfl) | exact (show Nat.ble _ 100000 = true from rfl)))
/-- ascending, or (ag) never descending -/
def Ris (ag : Bool) (ns : List Int) : Prop := ∀ (i : Nat) (x y : Int), ns[i]? = some x → ns[i + 1]? = some y → x < y ∨ (ag = true ∧ x = y)
/-- the letters of a column -/
structure ColOk (m : Int) (sg : Bool) (c : List Int) : Prop where
  rng : ∀ x ∈ c, 0 ≤ x ∧ x ≤ m - 1
  ris : Ris (!sg) c
  len : c.length ≤ 12
theorem cutD_tail {x : PyData} {xs : List PyData} : cutD (x :: xs) (some 1) none = xs := by
  unfold cutD
  rw [HT.sIx_none, show (1 : Int) = ((1 : Nat) : Int) from rfl, HT.sIx_nat]
  rw [show min 1 (x :: xs).length = 1 by simp]
  simp
/-! rising -/
def R_rising (ds : List PyData) (r : PyData) : Prop := ∃ (ns : List Int) (ag : Bool), ds = [.tuple (ns.map .int), .bool ag] ∧ ns.length ≤ 1000 ∧ Ris ag ns ∧ r = .bool true
def sp_rising (K : PySem.W.Frag) : Sp := SpP R_rising
def t_rising (K : PySem.W.Frag) : TS := tSeq (tFor (RZ.iZipA K (tCons (tVar 0) (tCons (tSl (rSlA K) (tVar 0) (tPart (tC (.int 1))) (tNoPart)) (tNil)))) (gTup K 2 (gCons (gName 2) (gCons (gName 3) (gNil)))) (tIfS (tAnd (tNot (tTest (tOp (rI0 fun i j => .bl (decide (i < j))) (tVar 2) (tVar 3)))) (tNot (tAnd (tB (tVar 1)) (tTest (tOp (rEq) (tVar 2) (tVar 3)))))) (tRet (tC (.bl false))) (tNext))) (tRet (tC (.bl true)))
theorem len_rising {K : PySem.W.Frag} {vs : List V} {H : Hp} {Q : VK} {E : XK} (h : sp_rising K vs H Q E) : vs.length = 2 := spP_len h fun ds r ⟨_, _, e, _⟩ => by rw [e]; rfl
theorem run_rising (K : PySem.W.Frag) (W : Wd) (n : Nat) (ds : List PyData) (r : PyData) (h : R_rising ds r) : RunS W (t_rising K) n (ds.map Slot.d ++ List.replicate (4 - ds.length) .non) (fun o => o = .rt n r) := by
  obtain ⟨ns, ag, rfl, hl, hr, rfl⟩ := h
  have hc : ∃ ms : List Int, cutD (ns.map PyData.int) (some 1) none = ms.map PyData.int ∧ ms = ns.drop 1 := by
    cases ns with
    | nil => exact ⟨[], by simp [cutD], rfl⟩
    | cons a l => exact ⟨l, by rw [List.map_cons, cutD_tail], rfl⟩
  obtain ⟨ms, hc, em⟩ := hc
  refine sfor (xs := ns.zip ms) (enc := fun p => .tuple [.int p.1, .int p.2]) (f := fun p ss => (ss.set 2 (.d (.int p.1))).set 3 (.d (.int p.2))) (fun i n' ss' => n' = n ∧ ∃ s t, ss' = [.d (.tuple (ns.map .int)), .d (.bool ag), s, t]) (by
    have hw := wk_zipT (K := K) (ss := [Slot.d (.tuple (ns.map .int)), .d (.bool ag), .non, .non]) (ta := tCons (tVar 0) (tCons (tSl (rSlA K) (tVar 0) (tPart (tC (.int 1))) (tNoPart)) (tNil))) (xs := ns.map .int) (ys := ms.map .int) (ea_cons (ep_var rfl) (ea_cons (ep_is (ep_sl (ep_var rfl) (eo_some ep_int) eo_none sd_tup) (by rw [hc])) ea_nil))
    have e : (((ns.map PyData.int).zip (ms.map PyData.int)).map fun p => PyData.tuple [p.1, p.2]) = (ns.zip ms).map fun p => PyData.tuple [.int p.1, .int p.2] := by
      rw [List.zip_map, List.map_map]
      rfl
    rw [e] at hw
    exact hw) (fun _ _ => tg_two) ⟨rfl, _, _, rfl⟩ ?_ ?_
  · rintro i ⟨x, y⟩ _ _ hi ⟨rfl, s, t, rfl⟩
    have h1 : ns[i]? = some x ∧ ms[i]? = some y := by
      rw [List.getElem?_zip_eq_some] at hi
      exact hi
    have h2 : ns[i + 1]? = some y := by
      rw [em, List.getElem?_drop] at h1
      rw [Nat.add_comm]
      exact h1.2
    refine rs_ifF (et_is (by walk_at "ev") ?_) (rs_next ⟨rfl, _, _, rfl⟩)
    rcases hr i x y h1.1 h2 with e | ⟨e1, e2⟩
    · simp [e]
    · simp [e1, e2]
  · rintro _ _ ⟨rfl, s, t, rfl⟩
    exact rs_ret (by walk_at "ev") rfl
theorem pure_rising {K : PySem.W.Frag} {vs : List V} {H : Hp} {Q : VK} {E : XK} (h : sp_rising K vs H Q E) : t_rising K { nx := fun _ H' => Q .non H', rt := Q } (L2.start ["things", "again", "first", "second"] vs) H := pure_of h fun W n ds r hr => run_rising K W n ds r hr
section
variable {P : Program} {w : World} {K : PySem.W.Frag} {mg : Str → Option Value} {base : Heap}
abbrev N_rising : List Str := ["things", "again", "first", "second"]
theorem sc_rising : FnScope N_rising ["things", "again"] (defScope s_rising) := ⟨rfl, rfl, rfl, by decide +kernel, rfl, by decide +kernel, by decide +kernel⟩
theorem ok_rising (T : Tx K mg) : ∃ fd, FnOk P w K mg base CX0 1 (He.ga K "rising") fd ["things", "again"] (sp_rising K) ∧ Binds K fd ["things", "again"] [] := by
  have nd := sc_rising.nd
  obtain ⟨fd, F⟩ := T.d_rising
  refine ⟨fd, FunD.ok F sc_rising (fun vs H Q E h => len_rising h) (fun cdv A outer s H vs Q E hr h => ⟨t_rising K, PSs.nox ?_, pure_rising h⟩), F.bindsN fun _ _ _ _ _ _ us hl => match us, hl with | [_, _], _ => rfl⟩
  exact pss_cons (ps_for PassesOwn.never rfl (RZ.pi_zipA (by rfl) T.f_zip (pa_cons (pv 0) (pa_cons (pe_slice sl_tupA (pv 0) (po_some (pe_int)) (po_none)) (pa_nil)))) (pg_tup rfl (pgs_cons (pg_name (i := 2) nd rfl (Or.inl rfl)) (pgs_cons (pg_name (i := 3) nd rfl (Or.inl rfl)) (pgs_nil)))) (pss_one (ps_if (PW.pt (pw_and (pt_not (pt_cmpR op_lt (pv 2) (pv 3) (nomark _))) (pw_and1 (pt_not (PW.pt (pw_and (pt_val (pv 1)) (pw_and1 (pt_cmpR op_eq (pv 2) (pv 3) (nomark _))))))))) (pss_one (ps_ret (pe_bl))) (pss_nil)))) (pss_one (ps_ret (pe_bl)))
end
/-! member_like and all_like -/
def R_member_like : Nat → List PyData → PyData → Prop
  | 0, _, _ => False
  | n + 1, ds, r => (∃ m v : Int, ds = [.int m, .tuple [.str "one"], .int v] ∧ r = .bool (decide (0 ≤ v) && decide (v ≤ m - 1))) ∨
      ∃ (m : Int) (sg : Bool) (cs : List (List Int)), ds = [.int m, srtD sg (cs.map (·.length)), memD cs] ∧ cs ≠ [] ∧ cs.length + 2 ≤ n + 1 ∧ (∀ c ∈ cs, ColOk m sg c) ∧ r = .bool true
def sp_member_like (n : Nat) (K : PySem.W.Frag) : Sp := SpP (R_member_like n)
abbrev OK_member_like (P : Program) (w : World) (K : PySem.W.Frag) (mg : Str → Option Value) (base : Heap) (n : Nat) : Prop := ∃ fd, FnOk P w K mg base CX0 (2+n+1) (He.ga K "member_like") fd ["many", "sort", "value"] (sp_member_like n K) ∧ Binds K fd ["many", "sort", "value"] []
/-! all_like -/
def R_all_like : Nat → List PyData → PyData → Prop
  | 0, _, _ => False
  | n + 1, ds, r => ∃ (m : Int) (ns : List Int), 1 ≤ n ∧ ds = [.int m, .tuple [.str "one"], .tuple (ns.map .int)] ∧ (∀ x ∈ ns, 0 ≤ x ∧ x ≤ m - 1) ∧ r = .bool true
def sp_all_like (n : Nat) (K : PySem.W.Frag) : Sp := SpP (R_all_like n)
def t_all_like (n : Nat) (K : PySem.W.Frag) : TS := tSeq (tFor (iTup K (tVar 2)) (gName 3) (tIfS (tNot (tB (tCall (sp_member_like (n) K) [] E0 (tCons (tVar 0) (tCons (tVar 1) (tCons (tVar 3) (tNil))))))) (tRet (tC (.bl false))) (tNext))) (tRet (tC (.bl true)))
theorem len_all_like {n : Nat} {K : PySem.W.Frag} {vs : List V} {H : Hp} {Q : VK} {E : XK} (h : sp_all_like (n + 1) K vs H Q E) : vs.length = 3 := spP_len h fun ds r ⟨_, _, _, e, _⟩ => by rw [e]; rfl
theorem run_all_like (K : PySem.W.Frag) (W : Wd) (n m : Nat) (ds : List PyData) (r : PyData) (h : R_all_like (n + 1) ds r) : RunS W (t_all_like n K) m (ds.map Slot.d ++ List.replicate (4 - ds.length) .non) (fun o => o = .rt m r) := by
  obtain ⟨k, ns, hn, rfl, hr, rfl⟩ := h
  obtain ⟨n, rfl⟩ : ∃ k, n = k + 1 := ⟨n - 1, by omega⟩
  refine sfor (xs := ns) (enc := PyData.int) (f := fun v ss => ss.set 3 (.d (.int v))) (fun _ n' ss' => n' = m ∧ ∃ s, ss' = [.d (.int k), .d (.tuple [.str "one"]), .d (.tuple (ns.map .int)), s]) (wk_tup (ep_is (by walk_at "ev") (by rfl))) (fun _ _ => tg_name) ⟨rfl, _, rfl⟩ ?_ ?_
  · rintro i v _ _ hi ⟨rfl, s, rfl⟩
    obtain ⟨h0, h1⟩ := hr v (List.mem_of_getElem? hi)
    exact rs_ifF (et_is (et_not (et_b (ep_call (by walk_at "ev") (.inl ⟨k, v, rfl, rfl⟩)))) (by simp; omega)) (rs_next ⟨rfl, _, rfl⟩)
  · rintro _ _ ⟨rfl, s, rfl⟩
    exact rs_ret (by walk_at "ev") rfl
theorem pure_all_like {n : Nat} {K : PySem.W.Frag} {vs : List V} {H : Hp} {Q : VK} {E : XK} (h : sp_all_like (n + 1) K vs H Q E) : t_all_like n K { nx := fun _ H' => Q .non H', rt := Q } (L2.start ["many", "sort", "value", "thing"] vs) H := pure_of h fun W m ds r hr => run_all_like K W n m ds r hr
abbrev OK_all_like (P : Program) (w : World) (K : PySem.W.Frag) (mg : Str → Option Value) (base : Heap) (n : Nat) : Prop := ∃ fd, FnOk P w K mg base CX0 (2+n+1) (He.ga K "all_like") fd ["many", "sort", "value"] (sp_all_like n K) ∧ Binds K fd ["many", "sort", "value"] []
theorem no_all_like {K : PySem.W.Frag} {vs : List V} {H : Hp} {Q : VK} {E : XK} (h : sp_all_like 0 K vs H Q E) : False := by
  obtain ⟨_, _, _, _, _, h, _⟩ := h
  exact h
section
variable {P : Program} {w : World} {K : PySem.W.Frag} {mg : Str → Option Value} {base : Heap}
abbrev N_all_like : List Str := ["many", "sort", "value", "thing"]
theorem sc_all_like : FnScope N_all_like ["many", "sort", "value"] (defScope s_all_like) := ⟨rfl, rfl, rfl, by decide +kernel, rfl, by decide +kernel, by decide +kernel⟩
theorem st_all_like (T : Tx K mg) (n : Nat) (h_member_like : OK_member_like P w K mg base n) : OK_all_like P w K mg base (n + 1) := by
  have nd := sc_all_like.nd
  obtain ⟨_, G_member_like, b_member_like⟩ := h_member_like
  obtain ⟨fd, F⟩ := T.d_all_like
  refine ⟨fd, FunD.ok F sc_all_like (fun vs H Q E h => len_all_like h) (fun cdv A outer s H vs Q E hr h => ⟨t_all_like n K, PSs.nox ?_, pure_all_like h⟩), F.bindsN fun _ _ _ _ _ _ us hl => match us, hl with | [_, _, _], _ => rfl⟩
  exact pss_cons (ps_for PassesOwn.never rfl (pi_tup (pv 2)) (pg_name (i := 3) nd rfl (Or.inl rfl)) (pss_one (ps_if (pt_not (pt_val (pe_call G_member_like (hr.mono (by omega)) rfl T.g_member_like T.k_member_like b_member_like .nil pass0 (pa_cons (pv 0) (pa_cons (pv 1) (pa_cons (pv 3) (pa_nil))))))) (pss_one (ps_ret (pe_bl))) (pss_nil)))) (pss_one (ps_ret (pe_bl)))
theorem zr_all_like (T : Tx K mg) : OK_all_like P w K mg base 0 := by
  obtain ⟨fd, F⟩ := T.d_all_like
  exact ⟨fd, FunD.ok F sc_all_like (fun vs H Q E h => (no_all_like h).elim) (fun cdv A outer s H vs Q E hr h => (no_all_like h).elim), F.bindsN fun _ _ _ _ _ _ us hl => match us, hl with | [_, _, _], _ => rfl⟩
end
/-! member_like -/
def t_member_like (n : Nat) (K : PySem.W.Frag) : TS := tSeq (tAsg (tOp (rIxT K) (tVar 1) (tC (.int 0))) (gName 3)) (tSeq (tIfS (tTest (tOp (rEq) (tVar 3) (tC (.str "one")))) (tRet (tCall (sp_is_from K) [] E0 (tCons (tVar 2) (tCons (tC (.int 0)) (tCons (tOp (rI0 fun i j => .int (i - j)) (tVar 0) (tC (.int 1))) (tNil)))))) (tNext)) (tSeq (tIfS (tTest (tOp (rIn K false) (tVar 3) (tTup (tCons (tC (.str "trees")) (tCons (tC (.str "rooted")) (tNil)))))) (tNever) (tNext)) (tSeq (tIfS (tOr (tTest (tOp (rEq) (tVar 3) (tC (.str "none")))) (tNot (tB (tCB (rIsi K) (tCons (tVar 2) (tCons (tC (.ty "tuple")) (tNil))))))) (tRet (tC (.bl false))) (tNext)) (tSeq (tIfS (tTest (tOp (rIn K false) (tVar 3) (tTup (tCons (tC (.str "subset")) (tCons (tC (.str "bag")) (tNil)))))) (tRet (tAndV (tOp (rEq) (tCB (rLen K) (tCons (tVar 2) (tNil))) (tOp (rIxT K) (tVar 1) (tC (.int 1)))) (tAndV (tCall (sp_all_like (n) K) [] E0 (tCons (tVar 0) (tCons (tTup (tCons (tC (.str "one")) (tNil))) (tCons (tVar 2) (tNil))))) (tCall (sp_rising K) [] E0 (tCons (tVar 2) (tCons (tOp (rEq) (tVar 3) (tC (.str "bag"))) (tNil))))))) (tNext)) (tSeq (tIfS (tTest (tOp (rEq) (tVar 3) (tC (.str "rounds")))) (tNever) (tNext)) (tSeq (tIfS (tTest (tOp (rEq) (tVar 3) (tC (.str "either")))) (tNever) (tNext)) (tSeq (tIfS (tTest (tOp (rEq) (tVar 3) (tC (.str "pair")))) (tRet (tAndV (tOp (rEq) (tCB (rLen K) (tCons (tVar 2) (tNil))) (tC (.int 2))) (tAndV (tCall (sp_member_like (n) K) [] E0 (tCons (tVar 0) (tCons (tOp (rIxT K) (tVar 1) (tC (.int 1))) (tCons (tOp (rIxT K) (tVar 2) (tC (.int 0))) (tNil))))) (tCall (sp_member_like (n) K) [] E0 (tCons (tVar 0) (tCons (tOp (rIxT K) (tVar 1) (tC (.int 2))) (tCons (tOp (rIxT K) (tVar 2) (tC (.int 1))) (tNil)))))))) (tNext)) (tSeq (tNever) (tNever)))))))))
theorem len_member_like {n : Nat} {K : PySem.W.Frag} {vs : List V} {H : Hp} {Q : VK} {E : XK} (h : sp_member_like (n + 1) K vs H Q E) : vs.length = 3 := spP_len h fun ds r h => by rcases h with ⟨_, _, e, _⟩ | ⟨_, _, _, e, _⟩ <;> (rw [e]; rfl)
theorem run_member_like (K : PySem.W.Frag) (W : Wd) (n m : Nat) (ds : List PyData) (r : PyData) (h : R_member_like (n + 1) ds r) : RunS W (t_member_like n K) m (ds.map Slot.d ++ List.replicate (4 - ds.length) .non) (fun o => o = .rt m r) := by
  rcases h with ⟨k, v, rfl, rfl⟩ | ⟨k, sg, cs, rfl, hne, hl, hc, rfl⟩
  · refine sa (by walk_at "ev") ?_
    refine str (et_is (by walk_at "ev") (by decide +kernel)) (ep_call (by walk_at "ev") ⟨v, 0, k - 1, rfl, rfl⟩) rfl
  · obtain ⟨n, rfl⟩ : ∃ k, n = k + 1 := ⟨n - 1, by have := List.length_pos_iff.mpr hne; omega⟩
    match cs, hne with
    | [c], _ =>
      have hk := hc c (by simp)
      have e1 : srtD sg ([c].map (·.length)) = leafD sg c.length := rfl
      have e2 : memD [c] = ltD c := rfl
      rw [e1, e2]
      refine sa (by walk_at "ev") ?_
      refine sf (et_is (by walk_at "ev") (by cases sg <;> decide +kernel)) ?_
      refine sf (et_is (by walk_at "ev") (by cases sg <;> decide +kernel)) ?_
      refine sf (et_is (by walk_at "ev") (by rw [show decide (wdS sg = "none") = false by cases sg <;> decide +kernel]; rfl)) ?_
      refine str (et_is (by walk_at "ev") (by cases sg <;> decide +kernel)) (ep_andT (ep_is (ep_op (ep_cb (ea_cons (ep_lt (ep_var rfl)) ea_nil) ca_lenT) (by walk_at "ev") od_eqI) (by simp)) (ep_andT (ep_call (ea_cons (by walk_at "ev") (ea_cons (by walk_at "ev") (ea_cons (ep_lt (ep_var rfl)) ea_nil))) ⟨k, c, by simp only [List.length_cons, List.length_nil] at hl; omega, rfl, hk.rng, rfl⟩) (ep_call (ea_cons (ep_lt (ep_var rfl)) (by walk_at "ev")) ⟨c, !sg, by congr 2; cases sg <;> rfl, Nat.le_trans hk.len (by omega), hk.ris, rfl⟩))) rfl
    | c :: d :: l, _ =>
      have e1 : srtD sg ((c :: d :: l).map (·.length)) = .tuple [.str "pair", leafD sg c.length, srtD sg ((d :: l).map (·.length))] := rfl
      rw [e1, memD_two]
      simp only [List.length_cons] at hl
      refine sa (by walk_at "ev") ?_
      refine sf (et_is (by walk_at "ev") (by decide +kernel)) ?_
      refine sf (et_is (by walk_at "ev") (by decide +kernel)) ?_
      refine sf (et_is (by walk_at "ev") (by rw [show decide (("pair" : Str) = "none") = false by decide +kernel]; rfl)) ?_
      refine sf (et_is (by walk_at "ev") (by decide +kernel)) ?_
      refine sf (et_is (by walk_at "ev") (by decide +kernel)) ?_
      refine sf (et_is (by walk_at "ev") (by decide +kernel)) ?_
      refine str (et_is (by walk_at "ev") (by decide +kernel)) (ep_andT (ep_is (by walk_at "ev") (by simp)) (ep_andT (ep_call (by walk_at "ev") (.inr ⟨k, sg, [c], rfl, by simp, by simp; omega, fun x hx => hc x (by simp at hx; simp [hx]), rfl⟩)) (ep_call (by walk_at "ev") (.inr ⟨k, sg, d :: l, rfl, by simp, by simp; omega, fun x hx => hc x (List.mem_cons_of_mem _ hx), rfl⟩)))) rfl
theorem pure_member_like {n : Nat} {K : PySem.W.Frag} {vs : List V} {H : Hp} {Q : VK} {E : XK} (h : sp_member_like (n + 1) K vs H Q E) : t_member_like n K { nx := fun _ H' => Q .non H', rt := Q } (L2.start ["many", "sort", "value", "word"] vs) H := pure_of h fun W m ds r hr => run_member_like K W n m ds r hr
theorem no_member_like {K : PySem.W.Frag} {vs : List V} {H : Hp} {Q : VK} {E : XK} (h : sp_member_like 0 K vs H Q E) : False := by
  obtain ⟨_, _, _, _, _, h, _⟩ := h
  exact h
section
variable {P : Program} {w : World} {K : PySem.W.Frag} {mg : Str → Option Value} {base : Heap}
abbrev N_member_like : List Str := ["many", "sort", "value", "word"]
theorem sc_member_like : FnScope N_member_like ["many", "sort", "value"] (defScope s_member_like) := ⟨rfl, rfl, rfl, by decide +kernel, rfl, by decide +kernel, by decide +kernel⟩
theorem st_member_like (T : Tx K mg) (n : Nat) (h_member_like : OK_member_like P w K mg base n) (h_all_like : OK_all_like P w K mg base n) : OK_member_like P w K mg base (n + 1) := by
  have nd := sc_member_like.nd
  obtain ⟨_, G_member_like, b_member_like⟩ := h_member_like
  obtain ⟨_, G_all_like, b_all_like⟩ := h_all_like
  obtain ⟨_, G_rising, b_rising⟩ := ok_rising (P := P) (w := w) (base := base) T
  obtain ⟨_, G_is_from, b_is_from⟩ := ok_is_from (P := P) (w := w) (base := base) T
  obtain ⟨fd, F⟩ := T.d_member_like
  refine ⟨fd, FunD.ok F sc_member_like (fun vs H Q E h => len_member_like h) (fun cdv A outer s H vs Q E hr h => ⟨t_member_like n K, PSs.nox ?_, pure_member_like h⟩), F.bindsN fun _ _ _ _ _ _ us hl => match us, hl with | [_, _, _], _ => rfl⟩
  exact pss_cons (ps_set (i := 3) nd rfl (Or.inl rfl) (pe_ix ix_tup (pv 1) (pe_int) (fun _ _ => rfl))) (pss_cons (ps_if (pt_cmpR op_eq (pv 3) (pe_str) (nomark _)) (pss_one (ps_ret (pe_call G_is_from (hr.mono (by omega)) rfl T.g_is_from T.k_is_from b_is_from .nil pass0 (pa_cons (pv 2) (pa_cons (pe_int) (pa_cons (pe_op op_sub (pv 0) (pe_int)) (pa_nil))))))) (pss_nil)) (pss_cons (ps_if (pt_cmpR op_in_seq (pv 3) (pe_tup (pa_cons (pe_str) (pa_cons (pe_str) (pa_nil)))) rfl) (pss_one (ps_never)) (pss_nil)) (pss_cons (ps_if (PW.pt (pw_or (pt_cmpR op_eq (pv 3) (pe_str) (nomark _)) (pw_or1 (pt_not (pt_val (pe_callB call_isi (by rfl) T.f_isinstance (by decide +kernel) (pa_cons (pv 2) (pa_cons (pe_bltn (v := .ty "tuple") (by rfl) (T.f_tuple) (by decide +kernel) rfl) (pa_nil))))))))) (pss_one (ps_ret (pe_bl))) (pss_nil)) (pss_cons (ps_if (pt_cmpR op_in_seq (pv 3) (pe_tup (pa_cons (pe_str) (pa_cons (pe_str) (pa_nil)))) rfl) (pss_one (ps_ret (pe_and (pe_cmpR op_eq (pe_callB call_len_seq (by rfl) T.f_len (by decide +kernel) (pa_cons (pv 2) (pa_nil))) (pe_ix ix_tup (pv 1) (pe_int) (fun _ _ => rfl)) (nomark _)) (pe_and (pe_call G_all_like (hr.mono (by omega)) rfl T.g_all_like T.k_all_like b_all_like .nil pass0 (pa_cons (pv 0) (pa_cons (pe_tup (pa_cons (pe_str) (pa_nil))) (pa_cons (pv 2) (pa_nil))))) (pe_one (pe_call G_rising (hr.mono (by omega)) rfl T.g_rising T.k_rising b_rising .nil pass0 (pa_cons (pv 2) (pa_cons (pe_cmpR op_eq (pv 3) (pe_str) (nomark _)) (pa_nil))))))))) (pss_nil)) (pss_cons (ps_if (pt_cmpR op_eq (pv 3) (pe_str) (nomark _)) (pss_one (ps_never)) (pss_nil)) (pss_cons (ps_if (pt_cmpR op_eq (pv 3) (pe_str) (nomark _)) (pss_one (ps_never)) (pss_nil)) (pss_cons (ps_if (pt_cmpR op_eq (pv 3) (pe_str) (nomark _)) (pss_one (ps_ret (pe_and (pe_cmpR op_eq (pe_callB call_len_seq (by rfl) T.f_len (by decide +kernel) (pa_cons (pv 2) (pa_nil))) (pe_int) (nomark _)) (pe_and (pe_call G_member_like (hr.mono (by omega)) rfl T.g_member_like T.k_member_like b_member_like .nil pass0 (pa_cons (pv 0) (pa_cons (pe_ix ix_tup (pv 1) (pe_int) (fun _ _ => rfl)) (pa_cons (pe_ix ix_tup (pv 2) (pe_int) (fun _ _ => rfl)) (pa_nil))))) (pe_one (pe_call G_member_like (hr.mono (by omega)) rfl T.g_member_like T.k_member_like b_member_like .nil pass0 (pa_cons (pv 0) (pa_cons (pe_ix ix_tup (pv 1) (pe_int) (fun _ _ => rfl)) (pa_cons (pe_ix ix_tup (pv 2) (pe_int) (fun _ _ => rfl)) (pa_nil)))))))))) (pss_nil)) (pss_cons (ps_never) (pss_one (ps_never))))))))))
theorem zr_member_like (T : Tx K mg) : OK_member_like P w K mg base 0 := by
  obtain ⟨fd, F⟩ := T.d_member_like
  exact ⟨fd, FunD.ok F sc_member_like (fun vs H Q E h => (no_member_like h).elim) (fun cdv A outer s H vs Q E hr h => (no_member_like h).elim), F.bindsN fun _ _ _ _ _ _ us hl => match us, hl with | [_, _, _], _ => rfl⟩
end
section
variable {P : Program} {w : World} {K : PySem.W.Frag} {mg : Str → Option Value} {base : Heap}
theorem ok_ml (T : Tx K mg) : ∀ n, OK_member_like P w K mg base n ∧ OK_all_like P w K mg base n
  | 0 => ⟨zr_member_like T, zr_all_like T⟩
  | n + 1 => let h := ok_ml T n; ⟨st_member_like T n h.1 h.2, st_all_like T n h.1⟩
theorem ok_member_like (T : Tx K mg) (n : Nat) : OK_member_like P w K mg base n := (ok_ml T n).1
end
/-- a member of a sort, as the program asks it -/
structure MemOk (k : Nat) (sg : Bool) (cs : List (List Int)) : Prop where
  k2 : 2 ≤ k
  k5 : k ≤ 5
  ne : cs ≠ []
  l5 : cs.length ≤ 5
  col : ∀ c ∈ cs, ColOk (k : Nat) sg c
  sum : (cs.map (·.length)).sum ≤ 12
abbrev srtC (sg : Bool) (cs : List (List Int)) : PyData := srtD sg (cs.map (·.length))
theorem MemOk.sort {k : Nat} {sg : Bool} {cs : List (List Int)} (h : MemOk k sg cs) : R_need_sort [.int (k : Nat), srtC sg cs] (srtC sg cs) := ⟨k, sg, _, rfl, h.k2, h.k5, by simp [h.ne], by simp; exact h.l5, h.sum, rfl⟩
/-! is_member -/
def R_is_member (ds : List PyData) (r : PyData) : Prop := ∃ (k : Nat) (sg : Bool) (cs : List (List Int)), ds = [.int (k : Nat), srtC sg cs, memD cs] ∧ MemOk k sg cs ∧ r = .bool true
def sp_is_member (K : PySem.W.Frag) : Sp := SpP R_is_member
def t_is_member (K : PySem.W.Frag) : TS := tRet (tCall (sp_member_like (7) K) [] E0 (tCons (tVar 0) (tCons (tCall (sp_need_sort K) [] E0 (tCons (tVar 0) (tCons (tVar 1) (tNil)))) (tCons (tVar 2) (tNil)))))
theorem len_is_member {K : PySem.W.Frag} {vs : List V} {H : Hp} {Q : VK} {E : XK} (h : sp_is_member K vs H Q E) : vs.length = 3 := spP_len h fun ds r ⟨_, _, _, e, _⟩ => by rw [e]; rfl
theorem run_is_member (K : PySem.W.Frag) (W : Wd) (n : Nat) (ds : List PyData) (r : PyData) (h : R_is_member ds r) : RunS W (t_is_member K) n (ds.map Slot.d ++ List.replicate (3 - ds.length) .non) (fun o => o = .rt n r) := by
  obtain ⟨k, sg, cs, rfl, hm, rfl⟩ := h
  have := hm.l5
  exact rs_ret (ep_call (ea_cons (by walk_at "ev") (ea_cons (ep_call (by walk_at "ev") hm.sort) (by walk_at "ev"))) (.inr ⟨k, sg, cs, rfl, hm.ne, (show cs.length + 2 ≤ 6 + 1 by omega), hm.col, rfl⟩)) rfl
theorem pure_is_member {K : PySem.W.Frag} {vs : List V} {H : Hp} {Q : VK} {E : XK} (h : sp_is_member K vs H Q E) : t_is_member K { nx := fun _ H' => Q .non H', rt := Q } (L2.start ["many", "sort", "value"] vs) H := pure_of h fun W n ds r hr => run_is_member K W n ds r hr
section
variable {P : Program} {w : World} {K : PySem.W.Frag} {mg : Str → Option Value} {base : Heap}
abbrev N_is_member : List Str := ["many", "sort", "value"]
theorem sc_is_member : FnScope N_is_member ["many", "sort", "value"] (defScope s_is_member) := ⟨rfl, rfl, rfl, by decide +kernel, rfl, by decide +kernel, by decide +kernel⟩
theorem ok_is_member (T : Tx K mg) : ∃ fd, FnOk P w K mg base CX0 11 (He.ga K "is_member") fd ["many", "sort", "value"] (sp_is_member K) ∧ Binds K fd ["many", "sort", "value"] [] := by
  have nd := sc_is_member.nd
  obtain ⟨_, G_member_like, b_member_like⟩ := ok_member_like (P := P) (w := w) (base := base) T (7)
  obtain ⟨_, G_need_sort, b_need_sort⟩ := ok_need_sort (P := P) (w := w) (base := base) T
  obtain ⟨fd, F⟩ := T.d_is_member
  refine ⟨fd, FunD.ok F sc_is_member (fun vs H Q E h => len_is_member h) (fun cdv A outer s H vs Q E hr h => ⟨t_is_member K, PSs.nox ?_, pure_is_member h⟩), F.bindsN fun _ _ _ _ _ _ us hl => match us, hl with | [_, _, _], _ => rfl⟩
  exact pss_one (ps_ret (pe_call G_member_like (hr.mono (by omega)) rfl T.g_member_like T.k_member_like b_member_like .nil pass0 (pa_cons (pv 0) (pa_cons (pe_call G_need_sort (hr.mono (by omega)) rfl T.g_need_sort T.k_need_sort b_need_sort .nil pass0 (pa_cons (pv 0) (pa_cons (pv 1) (pa_nil)))) (pa_cons (pv 2) (pa_nil))))))
end
/-! need_member -/
def R_need_member (ds : List PyData) (r : PyData) : Prop := ∃ (k : Nat) (sg : Bool) (cs : List (List Int)), ds = [.int (k : Nat), srtC sg cs, memD cs] ∧ MemOk k sg cs ∧ r = memD cs
def sp_need_member (K : PySem.W.Frag) : Sp := SpP R_need_member
def t_need_member (K : PySem.W.Frag) : TS := tSeq (tIfS (tNot (tB (tCall (sp_is_member K) [] E0 (tCons (tVar 0) (tCons (tVar 1) (tCons (tVar 2) (tNil))))))) (tNever) (tNext)) (tRet (tVar 2))
theorem len_need_member {K : PySem.W.Frag} {vs : List V} {H : Hp} {Q : VK} {E : XK} (h : sp_need_member K vs H Q E) : vs.length = 3 := spP_len h fun ds r ⟨_, _, _, e, _⟩ => by rw [e]; rfl
theorem run_need_member (K : PySem.W.Frag) (W : Wd) (n : Nat) (ds : List PyData) (r : PyData) (h : R_need_member ds r) : RunS W (t_need_member K) n (ds.map Slot.d ++ List.replicate (3 - ds.length) .non) (fun o => o = .rt n r) := by
  obtain ⟨k, sg, cs, rfl, hm, rfl⟩ := h
  exact sf (et_is (et_not (et_b (ep_call (by walk_at "ev") ⟨k, sg, cs, rfl, hm, rfl⟩))) rfl) (rs_ret (by walk_at "ev") rfl)
theorem pure_need_member {K : PySem.W.Frag} {vs : List V} {H : Hp} {Q : VK} {E : XK} (h : sp_need_member K vs H Q E) : t_need_member K { nx := fun _ H' => Q .non H', rt := Q } (L2.start ["many", "sort", "value"] vs) H := pure_of h fun W n ds r hr => run_need_member K W n ds r hr
section
variable {P : Program} {w : World} {K : PySem.W.Frag} {mg : Str → Option Value} {base : Heap}
abbrev N_need_member : List Str := ["many", "sort", "value"]
theorem sc_need_member : FnScope N_need_member ["many", "sort", "value"] (defScope s_need_member) := ⟨rfl, rfl, rfl, by decide +kernel, rfl, by decide +kernel, by decide +kernel⟩
theorem ok_need_member (T : Tx K mg) : ∃ fd, FnOk P w K mg base CX0 12 (He.ga K "need_member") fd ["many", "sort", "value"] (sp_need_member K) ∧ Binds K fd ["many", "sort", "value"] [] := by
  have nd := sc_need_member.nd
  obtain ⟨_, G_is_member, b_is_member⟩ := ok_is_member (P := P) (w := w) (base := base) T
  obtain ⟨fd, F⟩ := T.d_need_member
  refine ⟨fd, FunD.ok F sc_need_member (fun vs H Q E h => len_need_member h) (fun cdv A outer s H vs Q E hr h => ⟨t_need_member K, PSs.nox ?_, pure_need_member h⟩), F.bindsN fun _ _ _ _ _ _ us hl => match us, hl with | [_, _, _], _ => rfl⟩
  exact pss_cons (ps_if (pt_not (pt_val (pe_call G_is_member (hr.mono (by omega)) rfl T.g_is_member T.k_is_member b_is_member .nil pass0 (pa_cons (pv 0) (pa_cons (pv 1) (pa_cons (pv 2) (pa_nil))))))) (pss_one (ps_never)) (pss_nil)) (pss_one (ps_ret (pv 2)))
end
end Uh

set_option Elab.async false
set_option linter.all false
set_option maxRecDepth 100000
set_option maxHeartbeats 1000000
namespace Uh
open PySem PySem.Spec PyProof.Rows L2
open Evl (Ex)
local macro_rules | `(tactic| walk_at "ev") => `(tactic| repeat (first
  | with_reducible exact ep_var rfl | with_reducible exact ep_int | with_reducible exact ep_bl | with_reducible exact ep_non | with_reducible exact ep_str
  | with_reducible exact ea_nil | with_reducible apply ea_cons | with_reducible apply ep_tupG | with_reducible apply ef_lstG | with_reducible exact et_yes
  | with_reducible apply ca_isiG | with_reducible exact kit_tuple _ | with_reducible exact kit_int _ | with_reducible exact kit_bool _ | with_reducible exact kit_str _
  | with_reducible apply et_test | with_reducible apply et_b | with_reducible apply et_not | with_reducible apply et_orG | with_reducible apply et_andG
  | with_reducible apply ep_orG | with_reducible apply ep_andG | with_reducible apply ep_notV | with_reducible apply ep_chainG
  | with_reducible apply ep_inG | with_reducible apply ep_op | with_reducible apply ep_un | with_reducible apply ep_cb
  | with_reducible exact od_i | with_reducible exact od_b | with_reducible exact od_eqI | with_reducible exact od_neI | with_reducible exact od_eqS | with_reducible exact od_eqB | with_reducible exact od_isN | with_reducible exact od_notN | with_reducible exact ud_i
  | with_reducible exact od_ixT at3_0 | with_reducible exact od_ixT at3_1 | with_reducible exact od_ixT at3_2 | with_reducible exact od_ixT at2_0 | with_reducible exact od_ixT at2_1 | with_reducible exact od_ixT at1_0
  | with_reducible apply od_catA | (with_reducible show _ + _ ≤ 100000; first | omega | (simp; done) | (simp; omega))
  | with_reducible exact ca_lenT | with_reducible exact ca_lenL
  | exact (show allS _ = true from rfl) | exact (show Nat.ble _ 100000 = true from rfl)))
section
variable {W : Wd} {n : Nat} {ss : List Slot} {te tf : TE} {tu : TS} {P : Out → Prop}
/-- two new lists -/
theorem rs_new2 {i j : Nat} {xs ys : List PyData} (h1 : EvF te ss xs) (h2 : EvF tf ss ys) (k : ∀ a b, P (.nx n ((ss.set i (.own a xs)).set j (.own b ys)))) : RunS W (tPar i j (tCons te (tCons tf tNil))) n ss P := fun D H σ s g => by
  refine h1 _ H σ s.live s.fits _ fun p H1 vs e1 hp h1' r1 => ?_
  have lv : Live (fun a => avd W (owns ss) a ∨ a = p) H1 := fun a z => by
    rcases z with z | z
    · exact (s.live.ex e1) a z
    · exact ⟨_, by rw [z]; exact h1'⟩
  refine h2 _ H1 σ lv (s.fits.avoid e1 hp) _ fun q H2 ws e2 hq h2' r2 => ?_
  have s1 := s.make (i := i) e1 hp h1' r1
  have s2 := s1.make (i := j) e2 hq h2' (r2.weak fun a z => by
    rcases z with z | z
    · refine .inl ?_
      rcases z with z | z
      · exact .inl (.inl z)
      · rcases owns_set_own a z with w | w
        · exact .inr w
        · exact .inl (.inr w)
    · exact .inr z)
  refine ⟨_, _, rfl, g.nx n _ H2 _ (k p q) (.of_ex (e1.trans e2)) ?_ s2⟩
  exact Fr.own (Fr.own .self hp) (Evl.fresh_back e1 hq)
theorem snew2 {i j : Nat} {xs ys : List PyData} (h1 : EvF te ss xs) (h2 : EvF tf ss ys) (k : ∀ a b, RunS W tu n ((ss.set i (.own a xs)).set j (.own b ys)) P) : RunS W (tSeq (tPar i j (tCons te (tCons tf tNil))) tu) n ss P := rs_seq (rs_new2 h1 h2 k)
end
section
variable {W : Wd} {n : Nat} {ss : List Slot} {te tf : TE} {tu tb : TS} {tc : TT} {P : Out → Prop} {d r : PyData}
theorem rtEq (e : r = d) : Out.rt n d = Out.rt n r := by rw [e]
theorem rs_asgT {g : TG} {f : List Slot → List Slot} (h : EvP te ss d) (hg : TgD g d f) (p : P (.nx n (f ss))) : RunS W (tAsg te g) n ss P := fun D H σ s G => h.at s fun v H2 e s2 r =>
  hg.2 _ H2 σ ss v s2.fits r _ fun σ' k => G.nx n _ H2 _ p (.of_ex e) (fun q hq => .inl ((hg.1 ss).subset hq)) (s2.tg (hg.1 ss) k)
end
theorem cutD_take {xs : List PyData} {j : Nat} : cutD xs none (some (j : Nat)) = xs.take j := by
  unfold cutD
  rw [HT.sIx_none, HT.sIx_nat, List.drop_zero, Nat.sub_zero]
  by_cases h : j ≤ xs.length
  · rw [Nat.min_eq_left h]
  · rw [Nat.min_eq_right (by omega), List.take_of_length_le (Nat.le_refl _), List.take_of_length_le (by omega)]
theorem cutD_drop {xs : List PyData} {j : Nat} : cutD xs (some (j : Nat)) none = xs.drop j := by
  unfold cutD
  rw [HT.sIx_none, HT.sIx_nat]
  by_cases h : j ≤ xs.length
  · rw [Nat.min_eq_left h, List.take_of_length_le (by simp)]
  · rw [Nat.min_eq_right (by omega), List.drop_of_length_le (Nat.le_refl _), List.drop_of_length_le (by omega)]
    simp
/-- one letter in the stead of another one, in order again -/
def stead (c : List Int) (old new : Int) : List Int := (new :: c.erase old).mergeSort (fun a b => decide (a ≤ b))
theorem stead_perm {c : List Int} {old new : Int} : (stead c old new).Perm (new :: c.erase old) := List.mergeSort_perm _ _
theorem stead_sorted {c : List Int} {old new : Int} : (stead c old new).Pairwise (· ≤ ·) := by
  have h := List.pairwise_mergeSort (le := fun a b : Int => decide (a ≤ b)) (fun a b c h1 h2 => by simp at h1 h2 ⊢; omega) (fun a b => by simp; omega) (new :: c.erase old)
  exact h.imp fun h => by simpa using h
theorem sorted_uniq {a b : List Int} (p : a.Perm b) (ha : a.Pairwise (· ≤ ·)) (hb : b.Pairwise (· ≤ ·)) : a = b := List.Perm.eq_of_pairwise (fun _ _ _ _ h1 h2 => Int.le_antisymm h1 h2) ha hb p
theorem first_at {old : Int} : ∀ {c : List Int}, old ∈ c → ∃ j : Nat, c[j]? = some old ∧ (∀ m : Nat, m < j → c[m]? ≠ some old) ∧ c.erase old = c.take j ++ c.drop (j + 1)
  | [], h => by simp at h
  | x :: c, h => by
    by_cases e : x = old
    · subst e
      exact ⟨0, rfl, fun m hm => by omega, by simp⟩
    · obtain ⟨j, h1, h2, h3⟩ := first_at (old := old) (c := c) (by simpa [Ne.symm e] using h)
      refine ⟨j + 1, by simpa using h1, fun m hm => ?_, ?_⟩
      · cases m with
        | zero => simp [e]
        | succ m => simpa using h2 m (by omega)
      · rw [List.erase_cons_tail (by simpa using e), h3]
        rfl
/-! in_stead -/
def R_in_stead (ds : List PyData) (r : PyData) : Prop := ∃ (c : List Int) (old new : Int), ds = [ltD c, .int old, .int new] ∧ old ∈ c ∧ c.length ≤ 100 ∧ r = ltD (stead c old new)
def sp_in_stead (K : PySem.W.Frag) : Sp := SpP R_in_stead
def t_in_stead (K : PySem.W.Frag) : TS := tSeq (tAsg (tTM K (rTIdx K) (tVar 0) (tCons (tVar 1) (tNil))) (gName 3)) (tRet (tCB (rTupleFz K) (tCons (tCB (rSortT K) (tCons (tOp (rCatA K) (tOp (rCatA K) (tSl (rSlA K) (tVar 0) (tNoPart) (tPart (tVar 3))) (tTup (tCons (tVar 2) (tNil)))) (tSl (rSlA K) (tVar 0) (tPart (tOp (rI0 fun i j => .int (i + j)) (tVar 3) (tC (.int 1)))) (tNoPart))) (tNil))) (tNil))))
theorem len_in_stead {K : PySem.W.Frag} {vs : List V} {H : Hp} {Q : VK} {E : XK} (h : sp_in_stead K vs H Q E) : vs.length = 3 := spP_len h fun ds r ⟨_, _, _, e, _⟩ => by rw [e]; rfl
theorem run_in_stead (K : PySem.W.Frag) (W : Wd) (n : Nat) (ds : List PyData) (r : PyData) (h : R_in_stead ds r) : RunS W (t_in_stead K) n (ds.map Slot.d ++ List.replicate (4 - ds.length) .non) (fun o => o = .rt n r) := by
  obtain ⟨c, old, new, rfl, hm, hl, rfl⟩ := h
  obtain ⟨j, h1, h2, h3⟩ := first_at hm
  refine sa (ep_index (ep_var rfl) (ep_var rfl) h1 h2) ?_
  have e1 : (((c.map PyData.int).take j ++ [PyData.int new]) ++ (c.map PyData.int).drop (j + 1)) = ((c.take j ++ [new]) ++ c.drop (j + 1)).map PyData.int := by simp
  have hz : ((c.map PyData.int).take j).length ≤ 100 := by
    rw [List.length_take, List.length_map]; omega
  have hz2 : ((c.map PyData.int).drop (j + 1)).length ≤ 100 := by
    rw [List.length_drop, List.length_map]; omega
  refine rs_ret (ep_cb (ea_cons (ep_cb (ea_cons (ep_is (ep_op (ep_op (ep_is (ep_sl (ep_lt (ep_var rfl)) eo_none (eo_some (ep_var rfl)) sd_tup) (by rw [cutD_take])) (by walk_at "ev") (od_catA (by simp only [List.length_cons, List.length_nil]; omega))) (ep_is (ep_sl (ep_lt (ep_var rfl)) (eo_some (ep_is (by walk_at "ev") (show PyData.int ((j : Nat) + 1) = .int ((j + 1 : Nat) : Int) by simp))) eo_none sd_tup) (by rw [cutD_drop])) (od_catA (by rw [List.length_append]; simp only [List.length_cons, List.length_nil]; omega))) (by rw [e1])) ea_nil) (ca_sortT (ms := stead c old new) fun ms' p q => ?_)) ea_nil) ca_tupleFz) rfl
  refine sorted_uniq (p.trans (.trans ?_ stead_perm.symm)) q stead_sorted
  rw [h3]
  have : (c.take j ++ [new] ++ c.drop (j + 1)).Perm (new :: (c.take j ++ c.drop (j + 1))) := by
    rw [List.append_assoc]
    exact List.perm_middle
  exact this
theorem pure_in_stead {K : PySem.W.Frag} {vs : List V} {H : Hp} {Q : VK} {E : XK} (h : sp_in_stead K vs H Q E) : t_in_stead K { nx := fun _ H' => Q .non H', rt := Q } (L2.start ["things", "old", "new", "spot"] vs) H := pure_of h fun W n ds r hr => run_in_stead K W n ds r hr
section
variable {P : Program} {w : World} {K : PySem.W.Frag} {mg : Str → Option Value} {base : Heap}
abbrev N_in_stead : List Str := ["things", "old", "new", "spot"]
theorem sc_in_stead : FnScope N_in_stead ["things", "old", "new"] (defScope s_in_stead) := ⟨rfl, rfl, rfl, by decide +kernel, rfl, by decide +kernel, by decide +kernel⟩
theorem ok_in_stead (T : Tx K mg) : ∃ fd, FnOk P w K mg base CX0 1 (He.ga K "in_stead") fd ["things", "old", "new"] (sp_in_stead K) ∧ Binds K fd ["things", "old", "new"] [] := by
  have nd := sc_in_stead.nd
  obtain ⟨fd, F⟩ := T.d_in_stead
  refine ⟨fd, FunD.ok F sc_in_stead (fun vs H Q E h => len_in_stead h) (fun cdv A outer s H vs Q E hr h => ⟨t_in_stead K, PSs.nox ?_, pure_in_stead h⟩), F.bindsN fun _ _ _ _ _ _ us hl => match us, hl with | [_, _, _], _ => rfl⟩
  exact pss_cons (ps_set (i := 3) nd rfl (Or.inl rfl) (pe_tm PySem.F.plainAttrs_tuple PySem.F.slot_tuple_index PySem.F.type_tuple_index mt_tup_indexI (pv 0) (pa_cons (pv 1) (pa_nil)))) (pss_one (ps_ret (pe_callTy call_tupleFz (by rfl) T.f_tuple (by decide +kernel) (pa_cons (pe_callB cr_sortT (by rfl) T.f_sorted (by decide +kernel) (pa_cons (pe_op op_catA (pe_op op_catA (pe_slice sl_tupA (pv 0) (po_none) (po_some (pv 3))) (pe_tup (pa_cons (pv 2) (pa_nil)))) (pe_slice sl_tupA (pv 0) (po_some (pe_op op_add (pv 3) (pe_int))) (po_none))) (pa_nil))) (pa_nil)))))
end
/-- a bracket: true for the closing one -/
abbrev brD (b : Bool) : PyData := .str (if b then ")" else "(")
abbrev itN (p : Bool × List Int) : PyData := .tuple [brD p.1, ltD p.2]
abbrev itM (p : Bool × List (List Int)) : PyData := .tuple [brD p.1, memD p.2]
/-- the places of one column -/
def npl (sg : Bool) (c : List Int) (lo hi : Int) : List (Bool × List Int) :=
  if sg then (if c.contains lo = c.contains hi then [] else if c.contains lo then [(false, stead c lo hi)] else [(true, stead c hi lo)])
  else List.replicate (c.count hi) (true, stead c hi lo) ++ List.replicate (c.count lo) (false, stead c lo hi)
theorem filter_const {z : PyData} {v : Int} : ∀ {c : List Int}, ((c.filter fun x => decide (x = v)).map fun _ => z) = List.replicate (c.count v) z
  | [] => rfl
  | x :: c => by
    by_cases e : x = v
    · subst e
      rw [List.filter_cons, if_pos (by simp), List.map_cons, filter_const, List.count_cons_self, List.replicate_succ]
    · rw [List.filter_cons, if_neg (by simp [e]), filter_const, List.count_cons_of_ne e]
/-! name_places -/
def R_name_places (ds : List PyData) (r : PyData) : Prop := ∃ (sg : Bool) (k : Nat) (c : List Int) (lo hi : Int), ds = [leafD sg k, ltD c, .int lo, .int hi] ∧ c.length ≤ 100 ∧ r = .list ((npl sg c lo hi).map itN)
def sp_name_places (K : PySem.W.Frag) : Sp := SpP R_name_places
def t_name_places (K : PySem.W.Frag) : TS := tSeq (tAsg (tOp (rIxT K) (tVar 0) (tC (.int 0))) (gName 4)) (tSeq (tIfS (tTest (tOp (rEq) (tVar 4) (tC (.str "one")))) (tSeq (tNever) (tNever)) (tNext)) (tSeq (tIfS (tTest (tOp (rEq) (tVar 4) (tC (.str "subset")))) (tSeq (tIfS (tTest (tOp (rEq) (tOp (rIn K false) (tVar 2) (tVar 1)) (tOp (rIn K false) (tVar 3) (tVar 1)))) (tRet (tLst (tNil))) (tNext)) (tSeq (tIfS (tTest (tOp (rIn K false) (tVar 2) (tVar 1))) (tRet (tLst (tCons (tTup (tCons (tC (.str "(")) (tCons (tCall (sp_in_stead K) [] E0 (tCons (tVar 1) (tCons (tVar 2) (tCons (tVar 3) (tNil))))) (tNil)))) (tNil)))) (tNext)) (tRet (tLst (tCons (tTup (tCons (tC (.str ")")) (tCons (tCall (sp_in_stead K) [] E0 (tCons (tVar 1) (tCons (tVar 3) (tCons (tVar 2) (tNil))))) (tNil)))) (tNil)))))) (tNext)) (tSeq (tAsg (tLc (iTup K (tVar 1)) (gName 6) (tTest (tOp (rEq) (tVar 6) (tVar 3))) (tTup (tCons (tC (.str ")")) (tCons (tCall (sp_in_stead K) [] E0 (tCons (tVar 1) (tCons (tVar 3) (tCons (tVar 2) (tNil))))) (tNil)))) [6]) (gName 5)) (tRet (tOp (rCat) (tVar 5) (tLc (iTup K (tVar 1)) (gName 6) (tTest (tOp (rEq) (tVar 6) (tVar 2))) (tTup (tCons (tC (.str "(")) (tCons (tCall (sp_in_stead K) [] E0 (tCons (tVar 1) (tCons (tVar 2) (tCons (tVar 3) (tNil))))) (tNil)))) [6]))))))
theorem len_name_places {K : PySem.W.Frag} {vs : List V} {H : Hp} {Q : VK} {E : XK} (h : sp_name_places K vs H Q E) : vs.length = 4 := spP_len h fun ds r ⟨_, _, _, _, _, e, _⟩ => by rw [e]; rfl
theorem run_name_places (K : PySem.W.Frag) (W : Wd) (n : Nat) (ds : List PyData) (r : PyData) (h : R_name_places ds r) : RunS W (t_name_places K) n (ds.map Slot.d ++ List.replicate (7 - ds.length) .non) (fun o => o = .rt n r) := by
  obtain ⟨sg, k, c, lo, hi, rfl, hl, rfl⟩ := h
  refine sa (by walk_at "ev") ?_
  refine sf (et_is (by walk_at "ev") (by cases sg <;> decide +kernel)) ?_
  cases sg with
  | true =>
    refine st (et_is (by walk_at "ev") (by decide +kernel)) ?_
    by_cases e1 : c.contains lo = c.contains hi
    · refine str (et_is (et_test (ep_op (ep_op (ep_var rfl) (ep_lt (ep_var rfl)) od_inT) (ep_op (ep_var rfl) (ep_lt (ep_var rfl)) od_inT) od_eqB)) (decide_eq_true e1)) (EvF.p (by walk_at "ev")) (rtEq ?_)
      unfold npl
      rw [if_pos rfl, if_pos e1]
      rfl
    · refine sf (et_is (et_test (ep_op (ep_op (ep_var rfl) (ep_lt (ep_var rfl)) od_inT) (ep_op (ep_var rfl) (ep_lt (ep_var rfl)) od_inT) od_eqB)) (decide_eq_false e1)) ?_
      by_cases e2 : c.contains lo = true
      · refine str (et_is (et_test (ep_op (ep_var rfl) (ep_lt (ep_var rfl)) od_inT)) e2) (EvF.p (ef_lstG (ea_cons (ep_tupG (ea_cons ep_str (ea_cons (ep_call (by walk_at "ev") ⟨c, lo, hi, rfl, by simpa using e2, hl, rfl⟩) ea_nil)) rfl) ea_nil) rfl)) (rtEq ?_)
        unfold npl
        rw [if_pos rfl, if_neg e1, if_pos e2]
        rfl
      · have e3 : c.contains hi = true := by
          cases h1 : c.contains lo <;> cases h2 : c.contains hi <;> simp_all
        refine sf (et_is (et_test (ep_op (ep_var rfl) (ep_lt (ep_var rfl)) od_inT)) (by simpa using e2)) ?_
        refine rs_ret (EvF.p (ef_lstG (ea_cons (ep_tupG (ea_cons ep_str (ea_cons (ep_call (by walk_at "ev") ⟨c, hi, lo, rfl, by simpa using e3, hl, rfl⟩) ea_nil)) rfl) ea_nil) rfl)) (rtEq ?_)
        unfold npl
        rw [if_pos rfl, if_neg e1, if_neg e2]
        rfl
  | false =>
    refine sf (et_is (by walk_at "ev") (by decide +kernel)) ?_
    refine sa (EvF.p (ef_lc (xs := c) (enc := PyData.int) (f := fun v ss => ss.set 6 (.d (.int v))) (fun x => decide (x = hi)) (fun _ => itN (true, stead c hi lo)) (wk_tup (ep_lt (ep_var rfl))) (by omega) (fun _ _ => tc_name) (fun _ _ => by walk_at "ev")
      (fun a ha hp => ep_tupG (ea_cons ep_str (ea_cons (ep_call (by walk_at "ev") ⟨c, hi, lo, rfl, by have := of_decide_eq_true hp; rw [← this]; exact ha, hl, rfl⟩) ea_nil)) rfl))) ?_
    refine rs_ret (ep_is (ep_op (ep_var rfl) (EvF.p (ef_lc (xs := c) (enc := PyData.int) (f := fun v ss => ss.set 6 (.d (.int v))) (fun x => decide (x = lo)) (fun _ => itN (false, stead c lo hi)) (wk_tup (ep_lt (ep_var rfl))) (by omega) (fun _ _ => tc_name) (fun _ _ => by walk_at "ev")
      (fun a ha hp => ep_tupG (ea_cons ep_str (ea_cons (ep_call (by walk_at "ev") ⟨c, lo, hi, rfl, by have := of_decide_eq_true hp; rw [← this]; exact ha, hl, rfl⟩) ea_nil)) rfl))) (od_cat ?_)) ?_) rfl
    · rw [List.length_map, List.length_map]
      have h1 := List.length_filter_le (fun x => decide (x = hi)) c
      have h2 := List.length_filter_le (fun x => decide (x = lo)) c
      omega
    · unfold npl
      rw [filter_const, filter_const]
      simp
theorem pure_name_places {K : PySem.W.Frag} {vs : List V} {H : Hp} {Q : VK} {E : XK} (h : sp_name_places K vs H Q E) : t_name_places K { nx := fun _ H' => Q .non H', rt := Q } (L2.start ["sort", "member", "low", "high", "word", "found", "name"] vs) H := pure_of h fun W n ds r hr => run_name_places K W n ds r hr
section
variable {P : Program} {w : World} {K : PySem.W.Frag} {mg : Str → Option Value} {base : Heap}
abbrev N_name_places : List Str := ["sort", "member", "low", "high", "word", "found", "name"]
theorem sc_name_places : FnScope N_name_places ["sort", "member", "low", "high"] (defScope s_name_places) := ⟨rfl, rfl, rfl, by decide +kernel, rfl, by decide +kernel, by decide +kernel⟩
theorem ok_name_places (T : Tx K mg) : ∃ fd, FnOk P w K mg base CX0 2 (He.ga K "name_places") fd ["sort", "member", "low", "high"] (sp_name_places K) ∧ Binds K fd ["sort", "member", "low", "high"] [] := by
  have nd := sc_name_places.nd
  obtain ⟨_, G_in_stead, b_in_stead⟩ := ok_in_stead (P := P) (w := w) (base := base) T
  obtain ⟨fd, F⟩ := T.d_name_places
  refine ⟨fd, FunD.ok F sc_name_places (fun vs H Q E h => len_name_places h) (fun cdv A outer s H vs Q E hr h => ⟨t_name_places K, PSs.nox ?_, pure_name_places h⟩), F.bindsN fun _ _ _ _ _ _ us hl => match us, hl with | [_, _, _, _], _ => rfl⟩
  exact pss_cons (ps_set (i := 4) nd rfl (Or.inl rfl) (pe_ix ix_tup (pv 0) (pe_int) (fun _ _ => rfl))) (pss_cons (ps_if (pt_cmpR op_eq (pv 4) (pe_str) (nomark _)) (pss_cons (ps_never) (pss_one (ps_never))) (pss_nil)) (pss_cons (ps_if (pt_cmpR op_eq (pv 4) (pe_str) (nomark _)) (pss_cons (ps_if (pt_cmpR op_eq (pe_cmpR op_in_seq (pv 2) (pv 1) rfl) (pe_cmpR op_in_seq (pv 3) (pv 1) rfl) (nomark _)) (pss_one (ps_ret (pe_lst (pa_nil)))) (pss_nil)) (pss_cons (ps_if (pt_cmpR op_in_seq (pv 2) (pv 1) rfl) (pss_one (ps_ret (pe_lst (pa_cons (pe_tup (pa_cons (pe_str) (pa_cons (pe_call G_in_stead (hr.mono (by omega)) rfl T.g_in_stead T.k_in_stead b_in_stead .nil pass0 (pa_cons (pv 1) (pa_cons (pv 2) (pa_cons (pv 3) (pa_nil))))) (pa_nil)))) (pa_nil))))) (pss_nil)) (pss_one (ps_ret (pe_lst (pa_cons (pe_tup (pa_cons (pe_str) (pa_cons (pe_call G_in_stead (hr.mono (by omega)) rfl T.g_in_stead T.k_in_stead b_in_stead .nil pass0 (pa_cons (pv 1) (pa_cons (pv 3) (pa_cons (pv 2) (pa_nil))))) (pa_nil)))) (pa_nil))))))) (pss_nil)) (pss_cons (ps_setLc (i := 5) (own := [(("name" : Str), 6)]) rfl nd rfl rfl (sw_true rfl rfl rfl (by decide +kernel)) (pi_tup (pv 1)) (blkOk_by (N := N_name_places) (sc := defScope s_name_places) (by decide +kernel)) (fun _ _ _ _ _ => pg_name (i := 6) nd rfl (Or.inl rfl)) (fun _ _ _ _ _ => pts_one (pt_cmpR op_eq (pv 6) (pv 3) (nomark _))) (fun _ _ _ _ _ => pe_tup (pa_cons (pe_str) (pa_cons (pe_call G_in_stead (hr.mono (by omega)) rfl T.g_in_stead T.k_in_stead b_in_stead .nil pass0 (pa_cons (pv 1) (pa_cons (pv 3) (pa_cons (pv 2) (pa_nil))))) (pa_nil))))) (pss_one (ps_ret (pe_op op_cat (pv 5) (pe_lc (own := [(("name" : Str), 6)]) rfl nd (pi_tup (pv 1)) (blkOk_by (N := N_name_places) (sc := defScope s_name_places) (by decide +kernel)) (fun _ _ _ _ _ => pg_name (i := 6) nd rfl (Or.inl rfl)) (fun _ _ _ _ _ => pts_one (pt_cmpR op_eq (pv 6) (pv 2) (nomark _))) (fun _ _ _ _ _ => pe_tup (pa_cons (pe_str) (pa_cons (pe_call G_in_stead (hr.mono (by omega)) rfl T.g_in_stead T.k_in_stead b_in_stead .nil pass0 (pa_cons (pv 1) (pa_cons (pv 2) (pa_cons (pv 3) (pa_nil))))) (pa_nil)))))))))))
end
end Uh

set_option Elab.async false
set_option linter.all false
set_option maxRecDepth 100000
set_option maxHeartbeats 1000000
namespace Uh
open PySem PySem.Spec PyProof.Rows L2
open Evl (Ex)
local macro_rules | `(tactic| walk_at "ev") => `(tactic| repeat (first
  | with_reducible exact ep_var rfl | with_reducible exact ep_int | with_reducible exact ep_bl | with_reducible exact ep_non | with_reducible exact ep_str
  | with_reducible exact ea_nil | with_reducible apply ea_cons | with_reducible apply ep_tupG | with_reducible apply ef_lstG | with_reducible exact et_yes
  | with_reducible apply ca_isiG | with_reducible exact kit_tuple _ | with_reducible exact kit_int _ | with_reducible exact kit_bool _ | with_reducible exact kit_str _
  | with_reducible apply et_test | with_reducible apply et_b | with_reducible apply et_not | with_reducible apply et_orG | with_reducible apply et_andG
  | with_reducible apply ep_orG | with_reducible apply ep_andG | with_reducible apply ep_notV | with_reducible apply ep_chainG
  | with_reducible apply ep_inG | with_reducible apply ep_op | with_reducible apply ep_un | with_reducible apply ep_cb
  | with_reducible exact od_i | with_reducible exact od_b | with_reducible exact od_eqI | with_reducible exact od_neI | with_reducible exact od_eqS | with_reducible exact od_eqB | with_reducible exact od_isN | with_reducible exact od_notN | with_reducible exact ud_i
  | with_reducible exact od_ixT at3_0 | with_reducible exact od_ixT at3_1 | with_reducible exact od_ixT at3_2 | with_reducible exact od_ixT at2_0 | with_reducible exact od_ixT at2_1 | with_reducible exact od_ixT at1_0
  | with_reducible apply od_catA | (with_reducible show _ + _ ≤ 100000; first | omega | (simp; done) | (simp; omega))
  | with_reducible exact ca_lenT | with_reducible exact ca_lenL
  | exact (show allS _ = true from rfl) | exact (show Nat.ble _ 100000 = true from rfl)))
theorem canAll : ∀ {ds : List PyData}, (∀ d ∈ ds, PyData.canLay0 d = true) → PyData.canLayAll0 ds = true
  | [], _ => rfl
  | d :: ds, h => by
    show (PyData.canLay0 d && PyData.canLayAll0 ds) = true
    rw [h d (by simp), canAll fun x hx => h x (List.mem_cons_of_mem _ hx)]
    rfl
theorem depthAll_le {k : Nat} : ∀ {ds : List PyData}, (∀ d ∈ ds, PyData.depth d ≤ k) → PyData.depthAll ds ≤ k
  | [], _ => Nat.zero_le _
  | d :: ds, h => by
    show max (PyData.depth d) (PyData.depthAll ds) ≤ k
    exact Nat.max_le.mpr ⟨h d (by simp), depthAll_le fun x hx => h x (List.mem_cons_of_mem _ hx)⟩
theorem shaped_list {ds : List PyData} (h : ∀ d ∈ ds, PyData.canLay0 d = true) (k : ∀ d ∈ ds, PyData.depth d ≤ 60) : SeqAt.shaped (.list ds) = true := by
  unfold SeqAt.shaped
  have h1 : PyData.canLay0 (.list ds) = true := canAll h
  have h2 : PyData.depth (.list ds) ≤ 64 := by
    have := depthAll_le k
    show PyData.depthAll ds + 1 ≤ 64
    omega
  rw [h1, decide_eq_true h2]
  rfl
theorem shaped_tuple {ds : List PyData} (h : ∀ d ∈ ds, PyData.canLay0 d = true) (k : ∀ d ∈ ds, PyData.depth d ≤ 60) : SeqAt.shaped (.tuple ds) = true := by
  unfold SeqAt.shaped
  have h1 : PyData.canLay0 (.tuple ds) = true := canAll h
  have h2 : PyData.depth (.tuple ds) ≤ 64 := by
    have := depthAll_le k
    show PyData.depthAll ds + 1 ≤ 64
    omega
  rw [h1, decide_eq_true h2]
  rfl
theorem plainL_all : ∀ {ds : List PyData}, (∀ d ∈ ds, plainD d = true) → plainL ds = true
  | [], _ => rfl
  | d :: ds, h => by
    show (plainD d && plainL ds) = true
    rw [h d (by simp), plainL_all fun x hx => h x (List.mem_cons_of_mem _ hx)]
    rfl
theorem ints_can {ns : List Int} : ∀ d ∈ ns.map PyData.int, PyData.canLay0 d = true := fun d h => by
  obtain ⟨i, _, rfl⟩ := List.mem_map.mp h
  rfl
theorem ints_depth {ns : List Int} : ∀ d ∈ ns.map PyData.int, PyData.depth d ≤ 60 := fun d h => by
  obtain ⟨i, _, rfl⟩ := List.mem_map.mp h
  exact Nat.zero_le _
theorem ints_plain {ns : List Int} : ∀ d ∈ ns.map PyData.int, plainD d = true := fun d h => by
  obtain ⟨i, _, rfl⟩ := List.mem_map.mp h
  rfl
theorem eqv_nil {ds : List PyData} : PyData.eqv (.list ds) (.list []) = ds.isEmpty := by
  cases ds <;> rfl
/-- xs != [] of a list of ints -/
theorem ne_nil {K : PySem.W.Frag} {ss : List Slot} {te : TE} {ns : List Int} (h : EvP te ss (.list (ns.map .int))) : EvT (tTest (tOp (rNeD K) te (tLst tNil))) ss (!ns.isEmpty) := by
  refine et_test (ep_is (ep_op h (EvF.p (ef_lstG ea_nil rfl)) (od_neD (plainL_all ints_plain) rfl (shaped_list ints_can ints_depth) (by decide))) ?_)
  rw [eqv_nil]
  cases ns <;> rfl
/-! brackets -/
def stepB {α : Type} (s : List α × List α) (p : Bool × α) : List α × List α := if p.1 then (if s.2.isEmpty then (s.1 ++ [p.2], s.2) else (s.1, s.2.dropLast)) else (s.1, s.2 ++ [p.2])
/-- the free closing ones, the open ones -/
def scanB {α : Type} (l : List (Bool × α)) : List α × List α := l.foldl stepB ([], [])
theorem scanB_snoc {α : Type} {l : List (Bool × α)} {p : Bool × α} : scanB (l ++ [p]) = stepB (scanB l) p := by
  unfold scanB
  rw [List.foldl_append]
  rfl
theorem scanB_len {α : Type} (l : List (Bool × α)) : (scanB l).1.length ≤ l.length ∧ (scanB l).2.length ≤ l.length := by
  have : ∀ (l : List (Bool × α)) (s : List α × List α), (l.foldl stepB s).1.length ≤ s.1.length + l.length ∧ (l.foldl stepB s).2.length ≤ s.2.length + l.length := by
    intro l
    induction l with
    | nil => intro s; exact ⟨Nat.le_refl _, Nat.le_refl _⟩
    | cons p l ih =>
      intro s
      have h := ih (stepB s p)
      have h1 : (stepB s p).1.length ≤ s.1.length + 1 ∧ (stepB s p).2.length ≤ s.2.length + 1 := by
        unfold stepB
        split
        · split
          · simp
          · simp; omega
        · simp
      simp only [List.foldl_cons, List.length_cons]
      omega
  simpa [scanB] using this l ([], [])
def idx {α : Type} : Nat → List α → List (Nat × α)
  | _, [] => []
  | k, x :: r => (k, x) :: idx (k + 1) r
theorem idx_len {α : Type} : ∀ {l : List α} {k : Nat}, (idx k l).length = l.length
  | [], _ => rfl
  | _ :: l, k => congrArg (· + 1) (idx_len (l := l) (k := k + 1))
theorem idx_get {α : Type} : ∀ {l : List α} {k i : Nat} {q : Nat × α}, (idx k l)[i]? = some q → q.1 = k + i ∧ l[i]? = some q.2
  | [], _, _, _, h => by simp [idx] at h
  | x :: l, k, 0, q, h => by
    have e : (k, x) = q := by simpa [idx] using h
    subst e
    exact ⟨rfl, rfl⟩
  | x :: l, k, i + 1, q, h => by
    obtain ⟨h1, h2⟩ := idx_get (l := l) (k := k + 1) (i := i) (by simpa [idx] using h)
    exact ⟨by omega, by simpa using h2⟩
theorem enumD_idx {α : Type} {enc : α → PyData} : ∀ {l : List α} {k : Nat}, enumD k (l.map enc) = (idx k l).map fun q => .tuple [.int (q.1 : Nat), enc q.2]
  | [], _ => rfl
  | x :: l, k => by
    show _ :: enumD (k + 1) (l.map enc) = _ :: _
    rw [enumD_idx]
/-- a bracket with its number -/
def numb (l : List (Bool × PyData)) : List (Bool × Int) := (idx 0 l).map fun q => (q.2.1, (q.1 : Int))
theorem take_snoc {α : Type} {l : List α} {i : Nat} {a : α} (h : l[i]? = some a) : l.take (i + 1) = l.take i ++ [a] := by
  rw [List.take_succ, h]
  rfl
theorem brD_eq {b : Bool} : decide ((if b then (")" : Str) else "(") = "(") = !b := by cases b <;> decide +kernel
/-! free_numbers -/
def R_free_numbers (ds : List PyData) (r : PyData) : Prop := ∃ (bs : List (Bool × PyData)), ds = [.list (bs.map fun p => .tuple [brD p.1, p.2])] ∧ bs.length ≤ 1000 ∧ r = .tuple [.list ((scanB (numb bs)).1.map .int), .list ((scanB (numb bs)).2.map .int)]
def sp_free_numbers (K : PySem.W.Frag) : Sp := SpP R_free_numbers
def t_free_numbers (K : PySem.W.Frag) : TS := tSeq (tPar 1 2 (tCons (tLst (tNil)) (tCons (tLst (tNil)) (tNil)))) (tSeq (tFor (iEnum K (tCons (tVar 0) (tNil))) (gTup K 2 (gCons (gName 3) (gCons (gName 4) (gNil)))) (tIfS (tTest (tOp (rEq) (tOp (rIxT K) (tVar 4) (tC (.int 0))) (tC (.str "(")))) (tDrop (tBM K "list" rAppend (tVar 2) (tCons (tVar 3) (tNil)))) (tIfS (tTest (tOp (rNeD K) (tVar 2) (tLst (tNil)))) (tDrop (tBM0 K "list" rPop (tVar 2))) (tDrop (tBM K "list" rAppend (tVar 1) (tCons (tVar 3) (tNil))))))) (tRet (tTup (tCons (tVar 1) (tCons (tVar 2) (tNil))))))
theorem len_free_numbers {K : PySem.W.Frag} {vs : List V} {H : Hp} {Q : VK} {E : XK} (h : sp_free_numbers K vs H Q E) : vs.length = 1 := spP_len h fun ds r ⟨_, e, _⟩ => by rw [e]; rfl
theorem run_free_numbers (K : PySem.W.Frag) (W : Wd) (n : Nat) (ds : List PyData) (r : PyData) (h : R_free_numbers ds r) : RunS W (t_free_numbers K) n (ds.map Slot.d ++ List.replicate (5 - ds.length) .non) (fun o => o = .rt n r) := by
  obtain ⟨bs, rfl, hl, rfl⟩ := h
  refine snew2 (ef_lstG ea_nil rfl) (ef_lstG ea_nil rfl) fun a b => ?_
  refine sfor (xs := idx 0 bs) (enc := fun q => .tuple [.int (q.1 : Nat), .tuple [brD q.2.1, q.2.2]]) (f := fun q ss => (ss.set 3 (.d (.int (q.1 : Nat)))).set 4 (.d (.tuple [brD q.2.1, q.2.2])))
    (fun i n' ss' => n' = n ∧ ∃ s t, ss' = [.d (.list (bs.map fun p => .tuple [brD p.1, p.2])), .own a ((scanB ((numb bs).take i)).1.map .int), .own b ((scanB ((numb bs).take i)).2.map .int), s, t]) (by
    have hw := wk_enumL (K := K) (ss := [.d (.list (bs.map fun p => .tuple [brD p.1, p.2])), .own a [], .own b [], .non, .non]) (ta := tCons (tVar 0) tNil) (ds := bs.map fun p => .tuple [brD p.1, p.2]) (by walk_at "ev")
    rw [enumD_idx] at hw
    exact hw) (fun _ _ => tg_two) ⟨rfl, _, _, rfl⟩ ?_ ?_
  · rintro i ⟨j, c, x⟩ _ _ hi ⟨rfl, s, t, rfl⟩
    have hj : j = i := by
      have := (idx_get hi).1
      simpa using this
    subst hj
    have hnum : (numb bs)[j]? = some (c, (j : Int)) := by
      unfold numb
      rw [List.getElem?_map, hi]
      rfl
    have htk := take_snoc hnum
    have hln := scanB_len ((numb bs).take j)
    have hjl : j < bs.length := by
      have := (List.getElem?_eq_some_iff.mp hi).1
      rw [idx_len] at this
      exact this
    have hlt : ((numb bs).take j).length ≤ 1000 := by
      rw [List.length_take]
      omega
    cases c with
    | false =>
      refine rs_ifT (et_is (by walk_at "ev") brD_eq) (rs_app (i := 2) (a := b) rfl (by rw [List.length_map]; omega) (by walk_at "ev") ⟨rfl, .d (.int (j : Nat)), .d (.tuple [brD false, x]), ?_⟩)
      rw [htk, scanB_snoc]
      unfold stepB
      simp only [Bool.false_eq_true, if_false, List.map_append, List.map_cons, List.map_nil]
      rfl
    | true =>
      refine rs_ifF (et_is (by walk_at "ev") brD_eq) ?_
      by_cases he : (scanB ((numb bs).take j)).2.isEmpty = true
      · refine rs_ifF (et_is (et_thaw (i := 2) (p := b) rfl (ne_nil (ep_var rfl))) (by rw [he]; rfl)) (rs_app (i := 1) (a := a) rfl (by rw [List.length_map]; omega) (by walk_at "ev") ⟨rfl, .d (.int (j : Nat)), .d (.tuple [brD true, x]), ?_⟩)
        rw [htk, scanB_snoc]
        unfold stepB
        simp only [if_true, he, List.map_append, List.map_cons, List.map_nil]
        rfl
      · refine rs_ifT (et_is (et_thaw (i := 2) (p := b) rfl (ne_nil (ep_var rfl))) (by simp [he])) (rs_pop (i := 2) (a := b) rfl (by
          intro z
          apply he
          rw [List.map_eq_nil_iff] at z
          rw [z]
          rfl) ⟨rfl, .d (.int (j : Nat)), .d (.tuple [brD true, x]), ?_⟩)
        rw [htk, scanB_snoc]
        unfold stepB
        have he' : (scanB ((numb bs).take j)).2.isEmpty = false := by simpa using he
        simp only [if_true, he', Bool.false_eq_true, if_false, List.map_dropLast]
        rfl
  · rintro _ _ ⟨rfl, s, t, rfl⟩
    rw [idx_len, List.take_of_length_le (by unfold numb; rw [List.length_map, idx_len]; exact Nat.le_refl _)]
    refine rs_freeze (i := 1) rfl (rs_freeze (i := 2) rfl (rs_ret (by walk_at "ev") rfl))
theorem pure_free_numbers {K : PySem.W.Frag} {vs : List V} {H : Hp} {Q : VK} {E : XK} (h : sp_free_numbers K vs H Q E) : t_free_numbers K { nx := fun _ H' => Q .non H', rt := Q } (L2.start ["row", "closing", "opening", "number", "item"] vs) H := pure_of h fun W n ds r hr => run_free_numbers K W n ds r hr
section
variable {P : Program} {w : World} {K : PySem.W.Frag} {mg : Str → Option Value} {base : Heap}
abbrev N_free_numbers : List Str := ["row", "closing", "opening", "number", "item"]
theorem sc_free_numbers : FnScope N_free_numbers ["row"] (defScope s_free_numbers) := ⟨rfl, rfl, rfl, by decide +kernel, rfl, by decide +kernel, by decide +kernel⟩
theorem ok_free_numbers (T : Tx K mg) : ∃ fd, FnOk P w K mg base CX0 1 (He.ga K "free_numbers") fd ["row"] (sp_free_numbers K) ∧ Binds K fd ["row"] [] := by
  have nd := sc_free_numbers.nd
  obtain ⟨fd, F⟩ := T.d_free_numbers
  refine ⟨fd, FunD.ok F sc_free_numbers (fun vs H Q E h => len_free_numbers h) (fun cdv A outer s H vs Q E hr h => ⟨t_free_numbers K, PSs.nox ?_, pure_free_numbers h⟩), F.bindsN fun _ _ _ _ _ _ us hl => match us, hl with | [_], _ => rfl⟩
  exact pss_cons (ps_par (i := 1) (j := 2) rfl nd rfl rfl (by decide) rfl rfl (pa_cons (pe_lst (pa_nil)) (pa_cons (pe_lst (pa_nil)) (pa_nil))) (by rfl)) (pss_cons (ps_for PassesOwn.never rfl (pi_enum (by rfl) T.f_enumerate (pa_cons (pv 0) (pa_nil))) (pg_tup rfl (pgs_cons (pg_name (i := 3) nd rfl (Or.inl rfl)) (pgs_cons (pg_name (i := 4) nd rfl (Or.inl rfl)) (pgs_nil)))) (pss_one (ps_if (pt_cmpR op_eq (pe_ix ix_tup (pv 4) (pe_int) (fun _ _ => rfl)) (pe_str) (nomark _)) (pss_one (ps_expr (pe_bm PySem.F.plainAttrs_list PySem.F.slot_list_append PySem.F.type_list_append mt_append (pv 2) (pa_cons (pv 3) (pa_nil))))) (pss_one (ps_if (pt_cmpR (op_neD hr.units) (pv 2) (pe_lst (pa_nil)) (nomark _)) (pss_one (ps_expr (pe_bm0 PySem.F.plainAttrs_list PySem.F.slot_list_pop PySem.F.type_list_pop mt_pop (pv 2)))) (pss_one (ps_expr (pe_bm PySem.F.plainAttrs_list PySem.F.slot_list_append PySem.F.type_list_append mt_append (pv 1) (pa_cons (pv 3) (pa_nil)))))))))) (pss_one (ps_ret (pe_tup (pa_cons (pv 1) (pa_cons (pv 2) (pa_nil)))))))
end
end Uh

set_option Elab.async false
set_option linter.all false
set_option maxRecDepth 100000
set_option maxHeartbeats 100000
namespace Uh
open PySem PySem.Spec PyProof.Rows L2
open Evl (Ex)
local macro_rules | `(tactic| walk_at "ev") => `(tactic| repeat (first
  | with_reducible exact ep_var rfl | with_reducible exact ep_int | with_reducible exact ep_bl | with_reducible exact ep_non | with_reducible exact ep_str
  | with_reducible exact ea_nil | with_reducible apply ea_cons | with_reducible apply ep_tupG | with_reducible apply ef_lstG | with_reducible exact et_yes
  | with_reducible apply ca_isiG | with_reducible exact kit_tuple _ | with_reducible exact kit_int _ | with_reducible exact kit_bool _ | with_reducible exact kit_str _
  | with_reducible apply et_test | with_reducible apply et_b | with_reducible apply et_not | with_reducible apply et_orG | with_reducible apply et_andG
  | with_reducible apply ep_orG | with_reducible apply ep_andG | with_reducible apply ep_notV | with_reducible apply ep_chainG
  | with_reducible apply ep_inG | with_reducible apply ep_op | with_reducible apply ep_un | with_reducible apply ep_cb
  | with_reducible exact od_i | with_reducible exact od_b | with_reducible exact od_eqI | with_reducible exact od_neI | with_reducible exact od_eqS | with_reducible exact od_eqB | with_reducible exact od_isN | with_reducible exact od_notN | with_reducible exact ud_i
  | with_reducible exact od_ixT at3_0 | with_reducible exact od_ixT at3_1 | with_reducible exact od_ixT at3_2 | with_reducible exact od_ixT at2_0 | with_reducible exact od_ixT at2_1 | with_reducible exact od_ixT at1_0
  | with_reducible apply od_catA | (with_reducible show _ + _ ≤ 100000; first | omega | (simp; done) | (simp; omega))
  | with_reducible exact ca_lenT | with_reducible exact ca_lenL
  | exact (show allS _ = true from rfl) | exact (show Nat.ble _ 100000 = true from rfl)))
/-- the places of a member: each with its bracket and the member with this place turned -/
def plc (sg : Bool) : List (List Int) → Int → Int → List (Bool × List (List Int))
  | [], _, _ => []
  | c :: cs, lo, hi => (npl sg c lo hi).map (fun p => (p.1, p.2 :: cs)) ++ (plc sg cs lo hi).map (fun p => (p.1, c :: p.2))
theorem plc_one {sg : Bool} {c : List Int} {lo hi : Int} : plc sg [c] lo hi = (npl sg c lo hi).map fun p => (p.1, [p.2]) := by simp [plc]
theorem npl_len {sg : Bool} {c : List Int} {lo hi : Int} (h : c.length ≤ 12) : (npl sg c lo hi).length ≤ 24 := by
  unfold npl
  have h1 := List.count_le_length (a := hi) (l := c)
  have h2 := List.count_le_length (a := lo) (l := c)
  repeat' split
  all_goals simp
  all_goals omega
theorem plc_len {sg : Bool} {lo hi : Int} : ∀ {cs : List (List Int)}, (∀ c ∈ cs, c.length ≤ 12) → (plc sg cs lo hi).length ≤ 24 * cs.length
  | [], _ => Nat.zero_le _
  | c :: cs, h => by
    have h1 := npl_len (sg := sg) (lo := lo) (hi := hi) (h c (by simp))
    have h2 := plc_len (sg := sg) (lo := lo) (hi := hi) (cs := cs) fun x hx => h x (List.mem_cons_of_mem _ hx)
    unfold plc
    rw [List.length_append, List.length_map, List.length_map, List.length_cons]
    omega
theorem plc_ne {sg : Bool} {lo hi : Int} : ∀ {cs : List (List Int)} {p : Bool × List (List Int)}, p ∈ plc sg cs lo hi → p.2.length = cs.length
  | [], p, h => by simp [plc] at h
  | c :: cs, p, h => by
    unfold plc at h
    rcases List.mem_append.mp h with h | h
    · obtain ⟨q, _, rfl⟩ := List.mem_map.mp h
      rfl
    · obtain ⟨q, hq, rfl⟩ := List.mem_map.mp h
      show q.2.length + 1 = cs.length + 1
      rw [plc_ne hq]
theorem memD_cons {c : List Int} {cs : List (List Int)} (h : cs ≠ []) : memD (c :: cs) = .tuple [ltD c, memD cs] := by
  cases cs with
  | nil => exact absurd rfl h
  | cons _ _ => rfl
/-! places -/
def R_places : Nat → List PyData → PyData → Prop
  | 0, _, _ => False
  | n + 1, ds, r => ∃ (k : Int) (sg : Bool) (cs : List (List Int)) (lo hi : Int), ds = [.int k, srtC sg cs, memD cs, .int lo, .int hi] ∧ cs ≠ [] ∧ cs.length ≤ n + 1 ∧ cs.length ≤ 5 ∧ (∀ c ∈ cs, c.length ≤ 12) ∧ r = .list ((plc sg cs lo hi).map itM)
def sp_places (n : Nat) (K : PySem.W.Frag) : Sp := SpP (R_places n)
def t_places (n : Nat) (K : PySem.W.Frag) : TS := tSeq (tAsg (tOp (rIxT K) (tVar 1) (tC (.int 0))) (gName 5)) (tSeq (tIfS (tTest (tOp (rIn K false) (tVar 5) (tTup (tCons (tC (.str "one")) (tCons (tC (.str "subset")) (tCons (tC (.str "bag")) (tNil))))))) (tRet (tCall (sp_name_places K) [] E0 (tCons (tVar 1) (tCons (tVar 2) (tCons (tVar 3) (tCons (tVar 4) (tNil))))))) (tNext)) (tSeq (tIfS (tTest (tOp (rIn K false) (tVar 5) (tTup (tCons (tC (.str "family")) (tCons (tC (.str "heap")) (tNil)))))) (tNever) (tNext)) (tSeq (tIfS (tTest (tOp (rEq) (tVar 5) (tC (.str "rounds")))) (tNever) (tNext)) (tSeq (tIfS (tTest (tOp (rIn K false) (tVar 5) (tTup (tCons (tC (.str "trees")) (tCons (tC (.str "rooted")) (tNil)))))) (tNever) (tNext)) (tSeq (tIfS (tTest (tOp (rEq) (tVar 5) (tC (.str "either")))) (tSeq (tNever) (tNever)) (tNext)) (tSeq (tAsg (tLst (tNil)) (gName 7)) (tSeq (tFor (iEnumT K (tCons (tVar 2) (tNil))) (gTup K 2 (gCons (gName 8) (gCons (gName 9) (gNil)))) (tSeq (tAsg (tCall (sp_places (n) K) [] E0 (tCons (tVar 0) (tCons (tIf (tTest (tOp (rEq) (tVar 5) (tC (.str "list")))) (tOp (rIxT K) (tVar 1) (tC (.int 2))) (tOp (rIxT K) (tVar 1) (tOp (rI0 fun i j => .int (i + j)) (tC (.int 1)) (tVar 8)))) (tCons (tVar 9) (tCons (tVar 3) (tCons (tVar 4) (tNil))))))) (gName 6)) (tFor (iList K (tVar 6)) (gTup K 2 (gCons (gName 10) (gCons (gName 11) (gNil)))) (tDrop (tBM K "list" rAppend (tVar 7) (tCons (tTup (tCons (tVar 10) (tCons (tOp (rCatA K) (tOp (rCatA K) (tSl (rSlA K) (tVar 2) (tNoPart) (tPart (tVar 8))) (tTup (tCons (tVar 11) (tNil)))) (tSl (rSlA K) (tVar 2) (tPart (tOp (rI0 fun i j => .int (i + j)) (tVar 8) (tC (.int 1)))) (tNoPart))) (tNil)))) (tNil))))))) (tRet (tVar 7)))))))))
theorem len_places {n : Nat} {K : PySem.W.Frag} {vs : List V} {H : Hp} {Q : VK} {E : XK} (h : sp_places (n + 1) K vs H Q E) : vs.length = 5 := spP_len h fun ds r ⟨_, _, _, _, _, e, _⟩ => by rw [e]; rfl
theorem run_places (K : PySem.W.Frag) (W : Wd) (n m : Nat) (ds : List PyData) (r : PyData) (h : R_places (n + 1) ds r) : RunS W (t_places n K) m (ds.map Slot.d ++ List.replicate (12 - ds.length) .non) (fun o => o = .rt m r) := by
  obtain ⟨k, sg, cs, lo, hi, rfl, hne, hl, hl5, hc, rfl⟩ := h
  match cs, hne with
  | [c], _ =>
    have e1 : srtC sg [c] = leafD sg c.length := rfl
    have e2 : memD [c] = ltD c := rfl
    have e3 : ((npl sg c lo hi).map itN) = (plc sg [c] lo hi).map itM := by
      rw [plc_one, List.map_map]
      rfl
    rw [e1, e2]
    refine sa (by walk_at "ev") ?_
    refine str (et_is (by walk_at "ev") (by cases sg <;> decide +kernel)) (ep_call (by walk_at "ev") ⟨sg, c.length, c, lo, hi, rfl, Nat.le_trans (hc c (by simp)) (by omega), rfl⟩) ?_
    show Out.rt _ _ = Out.rt _ _
    rw [e3]
  | c :: d :: l, _ =>
    have e1 : srtC sg (c :: d :: l) = .tuple [.str "pair", leafD sg c.length, srtC sg (d :: l)] := rfl
    rw [e1, memD_two]
    simp only [List.length_cons] at hl hl5
    obtain ⟨n, rfl⟩ : ∃ k, n = k + 1 := ⟨n - 1, by omega⟩
    have hcd : ∀ x ∈ d :: l, x.length ≤ 12 := fun x hx => hc x (List.mem_cons_of_mem _ hx)
    have b1 := npl_len (sg := sg) (lo := lo) (hi := hi) (hc c (by simp))
    have b2 := plc_len (sg := sg) (lo := lo) (hi := hi) hcd
    simp only [List.length_cons] at b2
    have ep : (plc sg (c :: d :: l) lo hi) = (npl sg c lo hi).map (fun p => (p.1, p.2 :: d :: l)) ++ (plc sg (d :: l) lo hi).map (fun p => (p.1, c :: p.2)) := rfl
    refine sa (by walk_at "ev") ?_
    refine sf (et_is (by walk_at "ev") (by decide +kernel)) ?_
    refine sf (et_is (by walk_at "ev") (by decide +kernel)) ?_
    refine sf (et_is (by walk_at "ev") (by decide +kernel)) ?_
    refine sf (et_is (by walk_at "ev") (by decide +kernel)) ?_
    refine sf (et_is (by walk_at "ev") (by decide +kernel)) ?_
    refine snew (ef_lstG ea_nil rfl) fun A => ?_
    let L1 := ((npl sg c lo hi).map fun p => (p.1, p.2 :: d :: l)).map itM
    let L2 := ((plc sg (d :: l) lo hi).map fun p => (p.1, c :: p.2)).map itM
    refine sfor (xs := [((0 : Nat), ltD c), (1, memD (d :: l))]) (enc := fun q => .tuple [.int (q.1 : Nat), q.2]) (f := fun q ss => (ss.set 8 (.d (.int (q.1 : Nat)))).set 9 (.d q.2))
      (fun i n' ss' => n' = m ∧ ∃ s6 s8 s9 s10 s11, ss' = [.d (.int k), .d (.tuple [.str "pair", leafD sg c.length, srtC sg (d :: l)]), .d (.tuple [ltD c, memD (d :: l)]), .d (.int lo), .d (.int hi), .d (.str "pair"), s6, .own A (if i = 0 then [] else if i = 1 then L1 else L1 ++ L2), s8, s9, s10, s11])
      (wk_enumT (ta := tCons (tVar 2) tNil) (ds := [ltD c, memD (d :: l)]) (by walk_at "ev")) (fun _ _ => tg_two) ⟨rfl, _, _, _, _, _, rfl⟩ ?_ ?_
    · rintro i ⟨j, th⟩ m _ hi' ⟨rfl, s6, s8, s9, s10, s11, rfl⟩
      match i, hi' with
      | 0, hi' =>
        obtain ⟨rfl, rfl⟩ : 0 = j ∧ ltD c = th := by simpa using hi'
        refine sa (ep_call (ea_cons (by walk_at "ev") (ea_cons (ep_ifF (et_is (by walk_at "ev") (by decide +kernel)) (ep_op (by walk_at "ev") (by walk_at "ev") (od_ixT (z := leafD sg c.length) rfl))) (by walk_at "ev"))) ⟨k, sg, [c], lo, hi, rfl, by simp, by simp, by simp, fun x hx => hc x (by simp at hx; simp [hx]), rfl⟩) ?_
        have e3 : (plc sg [c] lo hi).map itM = (npl sg c lo hi).map fun p => itM (p.1, [p.2]) := by
          rw [plc_one, List.map_map]
          rfl
        rw [e3]
        refine rs_for (xs := npl sg c lo hi) (enc := fun p => itM (p.1, [p.2])) (f := fun p ss => (ss.set 10 (.d (brD p.1))).set 11 (.d (ltD p.2)))
          (Inv := fun i n' ss' => n' = n' ∧ n' = m ∧ ∃ s6 s10 s11, ss' = [.d (.int k), .d (.tuple [.str "pair", leafD sg c.length, srtC sg (d :: l)]), .d (.tuple [ltD c, memD (d :: l)]), .d (.int lo), .d (.int hi), .d (.str "pair"), s6, .own A (L1.take i), .d (.int ((0 : Nat) : Int)), .d (ltD c), s10, s11])
          (wk_list (ep_var rfl)) (fun _ _ => tg_two) ⟨rfl, rfl, _, _, _, rfl⟩ ?_ ?_
        · rintro i p _ _ hp ⟨_, rfl, s6, s10, s11, rfl⟩
          have hL : L1[i]? = some (itM (p.1, p.2 :: d :: l)) := by
            show (((npl sg c lo hi).map fun p => (p.1, p.2 :: d :: l)).map itM)[i]? = _
            rw [List.getElem?_map, List.getElem?_map, hp]
            rfl
          have hz : (L1.take i).length < 100000 := by
            show ((((npl sg c lo hi).map fun p => (p.1, p.2 :: d :: l)).map itM).take i).length < 100000
            rw [List.length_take, List.length_map, List.length_map]
            omega
          refine rs_app (i := 7) (a := A) rfl hz (d := itM (p.1, p.2 :: d :: l)) (ep_is (ep_tupG (ea_cons (ep_var rfl) (ea_cons (ep_op (ep_op (ep_is (ep_sl (ep_var rfl) eo_none (eo_some (ep_var rfl)) sd_tup) (by rw [cutD_take])) (by walk_at "ev") (od_catA (by simp))) (ep_is (ep_sl (ep_var rfl) (eo_some (i := ((1 : Nat) : Int)) (ep_is (by walk_at "ev") (by simp))) eo_none sd_tup) (by rw [cutD_drop])) (od_catA (by simp))) ea_nil)) rfl) rfl) ⟨rfl, rfl, s6, .d (brD p.1), .d (ltD p.2), ?_⟩
          rw [take_snoc hL]
          rfl
        · rintro n' ss' ⟨_, rfl, s6, s10, s11, rfl⟩
          refine ⟨rfl, s6, .d (.int ((0 : Nat) : Int)), .d (ltD c), s10, s11, ?_⟩
          rw [List.take_of_length_le (by show (((npl sg c lo hi).map fun p => (p.1, p.2 :: d :: l)).map itM).length ≤ _; rw [List.length_map, List.length_map]; exact Nat.le_refl _)]
          rfl
      | 1, hi' =>
        obtain ⟨rfl, rfl⟩ : 1 = j ∧ memD (d :: l) = th := by simpa using hi'
        refine sa (ep_call (ea_cons (by walk_at "ev") (ea_cons (ep_ifF (et_is (by walk_at "ev") (by decide +kernel)) (ep_op (by walk_at "ev") (by walk_at "ev") (od_ixT (z := srtC sg (d :: l)) rfl))) (by walk_at "ev"))) ⟨k, sg, d :: l, lo, hi, rfl, by simp, by simp; omega, by simp; omega, hcd, rfl⟩) ?_
        refine rs_for (xs := plc sg (d :: l) lo hi) (enc := itM) (f := fun p ss => (ss.set 10 (.d (brD p.1))).set 11 (.d (memD p.2)))
          (Inv := fun i n' ss' => n' = n' ∧ n' = m ∧ ∃ s6 s10 s11, ss' = [.d (.int k), .d (.tuple [.str "pair", leafD sg c.length, srtC sg (d :: l)]), .d (.tuple [ltD c, memD (d :: l)]), .d (.int lo), .d (.int hi), .d (.str "pair"), s6, .own A (L1 ++ L2.take i), .d (.int ((1 : Nat) : Int)), .d (memD (d :: l)), s10, s11])
          (wk_list (ep_var rfl)) (fun _ _ => tg_two) ⟨rfl, rfl, _, _, _, by rw [List.take_zero, List.append_nil]; rfl⟩ ?_ ?_
        · rintro i p _ _ hp ⟨_, rfl, s6, s10, s11, rfl⟩
          have hpm := plc_ne (List.mem_of_getElem? hp)
          have hpn : p.2 ≠ [] := fun z => by
            rw [z] at hpm
            simp at hpm
          have hL : L2[i]? = some (itM (p.1, c :: p.2)) := by
            show (((plc sg (d :: l) lo hi).map fun p => (p.1, c :: p.2)).map itM)[i]? = _
            rw [List.getElem?_map, List.getElem?_map, hp]
            rfl
          have hz : (L1 ++ L2.take i).length < 100000 := by
            show ((((npl sg c lo hi).map fun p => (p.1, p.2 :: d :: l)).map itM) ++ (((plc sg (d :: l) lo hi).map fun p => (p.1, c :: p.2)).map itM).take i).length < 100000
            rw [List.length_append, List.length_take, List.length_map, List.length_map, List.length_map, List.length_map]
            omega
          have em : itM (p.1, c :: p.2) = .tuple [brD p.1, .tuple [ltD c, memD p.2]] := by
            show PyData.tuple [brD p.1, memD (c :: p.2)] = _
            rw [memD_cons hpn]
          refine rs_app (i := 7) (a := A) rfl hz (d := itM (p.1, c :: p.2)) (ep_is (ep_tupG (ea_cons (ep_var rfl) (ea_cons (ep_op (ep_op (ep_is (ep_sl (ep_var rfl) eo_none (eo_some (ep_var rfl)) sd_tup) (by rw [cutD_take])) (by walk_at "ev") (od_catA (by simp))) (ep_is (ep_sl (ep_var rfl) (eo_some (i := ((2 : Nat) : Int)) (ep_is (by walk_at "ev") (by simp))) eo_none sd_tup) (by rw [cutD_drop])) (od_catA (by simp))) ea_nil)) rfl) (by rw [em]; rfl)) ⟨rfl, rfl, s6, .d (brD p.1), .d (memD p.2), ?_⟩
          rw [take_snoc hL, ← List.append_assoc]
          rfl
        · rintro n' ss' ⟨_, rfl, s6, s10, s11, rfl⟩
          refine ⟨rfl, s6, .d (.int ((1 : Nat) : Int)), .d (memD (d :: l)), s10, s11, ?_⟩
          rw [List.take_of_length_le (by show (((plc sg (d :: l) lo hi).map fun p => (p.1, c :: p.2)).map itM).length ≤ _; rw [List.length_map, List.length_map]; exact Nat.le_refl _)]
          rfl
    · rintro _ _ ⟨rfl, s6, s8, s9, s10, s11, rfl⟩
      refine rs_freeze (i := 7) rfl (rs_ret (ep_is (ep_var rfl) ?_) rfl)
      rw [ep, List.map_append]
      rfl
theorem pure_places {n : Nat} {K : PySem.W.Frag} {vs : List V} {H : Hp} {Q : VK} {E : XK} (h : sp_places (n + 1) K vs H Q E) : t_places n K { nx := fun _ H' => Q .non H', rt := Q } (L2.start ["many", "sort", "member", "low", "high", "word", "inner", "found", "spot", "thing", "bracket", "changed"] vs) H := pure_of h fun W m ds r hr => run_places K W n m ds r hr
abbrev OK_places (P : Program) (w : World) (K : PySem.W.Frag) (mg : Str → Option Value) (base : Heap) (n : Nat) : Prop := ∃ fd, FnOk P w K mg base CX0 (3+n+1) (He.ga K "places") fd ["many", "sort", "member", "low", "high"] (sp_places n K) ∧ Binds K fd ["many", "sort", "member", "low", "high"] []
theorem no_places {K : PySem.W.Frag} {vs : List V} {H : Hp} {Q : VK} {E : XK} (h : sp_places 0 K vs H Q E) : False := by
  obtain ⟨_, _, _, _, _, h, _⟩ := h
  exact h
section
variable {P : Program} {w : World} {K : PySem.W.Frag} {mg : Str → Option Value} {base : Heap}
abbrev N_places : List Str := ["many", "sort", "member", "low", "high", "word", "inner", "found", "spot", "thing", "bracket", "changed"]
theorem sc_places : FnScope N_places ["many", "sort", "member", "low", "high"] (defScope s_places) := ⟨rfl, rfl, rfl, by decide +kernel, rfl, by decide +kernel, by decide +kernel⟩
theorem st_places (T : Tx K mg) (n : Nat) (h_places : OK_places P w K mg base n) : OK_places P w K mg base (n + 1) := by
  have nd := sc_places.nd
  obtain ⟨_, G_places, b_places⟩ := h_places
  obtain ⟨_, G_name_places, b_name_places⟩ := ok_name_places (P := P) (w := w) (base := base) T
  obtain ⟨fd, F⟩ := T.d_places
  refine ⟨fd, FunD.ok F sc_places (fun vs H Q E h => len_places h) (fun cdv A outer s H vs Q E hr h => ⟨t_places n K, PSs.nox ?_, pure_places h⟩), F.bindsN fun _ _ _ _ _ _ us hl => match us, hl with | [_, _, _, _, _], _ => rfl⟩
  exact pss_cons (ps_set (i := 5) nd rfl (Or.inl rfl) (pe_ix ix_tup (pv 1) (pe_int) (fun _ _ => rfl))) (pss_cons (ps_if (pt_cmpR op_in_seq (pv 5) (pe_tup (pa_cons (pe_str) (pa_cons (pe_str) (pa_cons (pe_str) (pa_nil))))) rfl) (pss_one (ps_ret (pe_call G_name_places (hr.mono (by omega)) rfl T.g_name_places T.k_name_places b_name_places .nil pass0 (pa_cons (pv 1) (pa_cons (pv 2) (pa_cons (pv 3) (pa_cons (pv 4) (pa_nil)))))))) (pss_nil)) (pss_cons (ps_if (pt_cmpR op_in_seq (pv 5) (pe_tup (pa_cons (pe_str) (pa_cons (pe_str) (pa_nil)))) rfl) (pss_one (ps_never)) (pss_nil)) (pss_cons (ps_if (pt_cmpR op_eq (pv 5) (pe_str) (nomark _)) (pss_one (ps_never)) (pss_nil)) (pss_cons (ps_if (pt_cmpR op_in_seq (pv 5) (pe_tup (pa_cons (pe_str) (pa_cons (pe_str) (pa_nil)))) rfl) (pss_one (ps_never)) (pss_nil)) (pss_cons (ps_if (pt_cmpR op_eq (pv 5) (pe_str) (nomark _)) (pss_cons (ps_never) (pss_one (ps_never))) (pss_nil)) (pss_cons (ps_set (i := 7) nd rfl (Or.inl rfl) (pe_lst (pa_nil))) (pss_cons (ps_for PassesOwn.never rfl (pi_enumT (by rfl) T.f_enumerate (pa_cons (pv 2) (pa_nil))) (pg_tup rfl (pgs_cons (pg_name (i := 8) nd rfl (Or.inl rfl)) (pgs_cons (pg_name (i := 9) nd rfl (Or.inl rfl)) (pgs_nil)))) (pss_cons (ps_set (i := 6) nd rfl (Or.inl rfl) (pe_call G_places (hr.mono (by omega)) rfl T.g_places T.k_places b_places .nil pass0 (pa_cons (pv 0) (pa_cons (pe_ifExp (pt_cmpR op_eq (pv 5) (pe_str) (nomark _)) (pe_ix ix_tup (pv 1) (pe_int) (fun _ _ => rfl)) (pe_ix ix_tup (pv 1) (pe_op op_add (pe_int) (pv 8)) (fun _ _ => rfl))) (pa_cons (pv 9) (pa_cons (pv 3) (pa_cons (pv 4) (pa_nil)))))))) (pss_one (ps_for PassesOwn.never rfl (pi_list (pv 6)) (pg_tup rfl (pgs_cons (pg_name (i := 10) nd rfl (Or.inl rfl)) (pgs_cons (pg_name (i := 11) nd rfl (Or.inl rfl)) (pgs_nil)))) (pss_one (ps_expr (pe_bm PySem.F.plainAttrs_list PySem.F.slot_list_append PySem.F.type_list_append mt_append (pv 7) (pa_cons (pe_tup (pa_cons (pv 10) (pa_cons (pe_op op_catA (pe_op op_catA (pe_slice sl_tupA (pv 2) (po_none) (po_some (pv 8))) (pe_tup (pa_cons (pv 11) (pa_nil)))) (pe_slice sl_tupA (pv 2) (po_some (pe_op op_add (pv 8) (pe_int))) (po_none))) (pa_nil)))) (pa_nil))))))))) (pss_one (ps_ret (pv 7))))))))))
theorem zr_places (T : Tx K mg) : OK_places P w K mg base 0 := by
  obtain ⟨fd, F⟩ := T.d_places
  exact ⟨fd, FunD.ok F sc_places (fun vs H Q E h => (no_places h).elim) (fun cdv A outer s H vs Q E hr h => (no_places h).elim), F.bindsN fun _ _ _ _ _ _ us hl => match us, hl with | [_, _, _, _, _], _ => rfl⟩
end
end Uh

set_option Elab.async false
set_option linter.all false
set_option maxRecDepth 100000
set_option maxHeartbeats 200000
namespace Uh
open PySem PySem.Spec PyProof.Rows L2
open Evl (Ex)
local macro_rules | `(tactic| walk_at "ev") => `(tactic| repeat (first
  | with_reducible exact ep_var rfl | with_reducible exact ep_int | with_reducible exact ep_bl | with_reducible exact ep_non | with_reducible exact ep_str
  | with_reducible exact ea_nil | with_reducible apply ea_cons | with_reducible apply ep_tupG | with_reducible apply ef_lstG | with_reducible exact et_yes
  | with_reducible apply ca_isiG | with_reducible exact kit_tuple _ | with_reducible exact kit_int _ | with_reducible exact kit_bool _ | with_reducible exact kit_str _
  | with_reducible apply et_test | with_reducible apply et_b | with_reducible apply et_not | with_reducible apply et_orG | with_reducible apply et_andG
  | with_reducible apply ep_orG | with_reducible apply ep_andG | with_reducible apply ep_notV | with_reducible apply ep_chainG
  | with_reducible apply ep_inG | with_reducible apply ep_op | with_reducible apply ep_un | with_reducible apply ep_cb
  | with_reducible exact od_i | with_reducible exact od_b | with_reducible exact od_eqI | with_reducible exact od_neI | with_reducible exact od_eqS | with_reducible exact od_eqB | with_reducible exact od_isN | with_reducible exact od_notN | with_reducible exact ud_i
  | with_reducible exact od_ixT at3_0 | with_reducible exact od_ixT at3_1 | with_reducible exact od_ixT at3_2 | with_reducible exact od_ixT at2_0 | with_reducible exact od_ixT at2_1 | with_reducible exact od_ixT at1_0
  | with_reducible apply od_catA | (with_reducible show _ + _ ≤ 100000; first | omega | (simp; done) | (simp; omega))
  | with_reducible exact ca_lenT | with_reducible exact ca_lenL
  | exact (show allS _ = true from rfl) | exact (show Nat.ble _ 100000 = true from rfl)))
section
variable {P : Program} {w : World} {K : PySem.W.Frag} {mg : Str → Option Value} {base : Heap}
theorem ok_places (T : Tx K mg) : ∀ n, OK_places P w K mg base n
  | 0 => zr_places T
  | n + 1 => st_places T n (ok_places T n)
end
theorem scanB_map {α β : Type} (g : α → β) (l : List (Bool × α)) : scanB (l.map fun p => (p.1, g p.2)) = ((scanB l).1.map g, (scanB l).2.map g) := by
  have : ∀ (l : List (Bool × α)) (s : List α × List α), (l.map fun p => (p.1, g p.2)).foldl stepB (s.1.map g, s.2.map g) = ((l.foldl stepB s).1.map g, (l.foldl stepB s).2.map g) := by
    intro l
    induction l with
    | nil => intro s; rfl
    | cons p l ih =>
      intro s
      rw [List.map_cons, List.foldl_cons, List.foldl_cons, ← ih]
      congr 1
      unfold stepB
      cases p.1 <;> cases h : s.2 <;> simp
  exact this l ([], [])
theorem scanB_mem {α : Type} (l : List (Bool × α)) : (∀ x ∈ (scanB l).1, ∃ b, (b, x) ∈ l) ∧ ∀ x ∈ (scanB l).2, ∃ b, (b, x) ∈ l := by
  have : ∀ (l m : List (Bool × α)) (s : List α × List α), ((∀ x ∈ s.1, ∃ b, (b, x) ∈ m) ∧ ∀ x ∈ s.2, ∃ b, (b, x) ∈ m) → (∀ x ∈ l, x ∈ m) → (∀ x ∈ (l.foldl stepB s).1, ∃ b, (b, x) ∈ m) ∧ ∀ x ∈ (l.foldl stepB s).2, ∃ b, (b, x) ∈ m := by
    intro l
    induction l with
    | nil => intro m s h _; exact h
    | cons p l ih =>
      intro m s h hm
      refine ih m (stepB s p) ?_ fun x hx => hm x (List.mem_cons_of_mem _ hx)
      have hp := hm p (by simp)
      unfold stepB
      split
      · split
        · refine ⟨fun x hx => ?_, h.2⟩
          rcases List.mem_append.mp hx with e | e
          · exact h.1 x e
          · rw [List.mem_singleton.mp e]
            exact ⟨p.1, hp⟩
        · exact ⟨h.1, fun x hx => h.2 x (List.dropLast_subset _ hx)⟩
      · refine ⟨h.1, fun x hx => ?_⟩
        rcases List.mem_append.mp hx with e | e
        · exact h.2 x e
        · rw [List.mem_singleton.mp e]
          exact ⟨p.1, hp⟩
  exact this l l ([], []) ⟨by simp, by simp⟩ fun x hx => hx
theorem idx_map {α β : Type} (g : α → β) : ∀ {l : List α} {k : Nat}, idx k (l.map g) = (idx k l).map fun q => (q.1, g q.2)
  | [], _ => rfl
  | x :: l, k => by
    show _ :: idx (k + 1) (l.map g) = _ :: _
    rw [idx_map g]
theorem idx_snd {α : Type} : ∀ {l : List α} {k : Nat}, (idx k l).map (·.2) = l
  | [], _ => rfl
  | x :: l, k => congrArg (x :: ·) (idx_snd (l := l) (k := k + 1))
/-- the last free closing bracket, by its number and by what it bears -/
theorem numb_last {α : Type} (g : α → PyData) (l : List (Bool × α)) :
    ((scanB l).1.getLast? = none → (scanB (numb (l.map fun p => (p.1, g p.2)))).1 = []) ∧
    ∀ x, (scanB l).1.getLast? = some x → ∃ (j : Nat) (b : Bool) (u : List Int), (scanB (numb (l.map fun p => (p.1, g p.2)))).1 = u ++ [(j : Int)] ∧ l[j]? = some (b, x) := by
  have e1 : numb (l.map fun p => (p.1, g p.2)) = ((idx 0 l).map fun q => (q.2.1, (q.1, q.2.2))).map fun p => (p.1, ((p.2.1 : Nat) : Int)) := by
    unfold numb
    rw [idx_map, List.map_map, List.map_map]
    rfl
  have e2 : l = ((idx 0 l).map fun q => (q.2.1, (q.1, q.2.2))).map fun p => (p.1, p.2.2) := by
    rw [List.map_map]
    exact idx_snd.symm
  have h1 := scanB_map (fun q : Nat × α => ((q.1 : Nat) : Int)) ((idx 0 l).map fun q => (q.2.1, (q.1, q.2.2)))
  have h2 := scanB_map (fun q : Nat × α => q.2) ((idx 0 l).map fun q => (q.2.1, (q.1, q.2.2)))
  have hm := (scanB_mem ((idx 0 l).map fun q => (q.2.1, (q.1, q.2.2)))).1
  rw [← e1] at h1
  rw [← e2] at h2
  rw [h1, h2]
  generalize (scanB ((idx 0 l).map fun q => (q.2.1, (q.1, q.2.2)))).1 = Z at hm
  refine ⟨fun h => ?_, fun x h => ?_⟩
  · rw [List.getLast?_eq_none_iff, List.map_eq_nil_iff] at h
    rw [h]
    rfl
  · rw [List.getLast?_map] at h
    obtain ⟨⟨j, y⟩, hq, e⟩ := Option.map_eq_some_iff.mp h
    obtain rfl : y = x := e
    obtain ⟨u, hu⟩ := List.getLast?_eq_some_iff.mp hq
    have hmem : ((j, y) : Nat × α) ∈ Z := by rw [hu]; simp
    obtain ⟨b, hb⟩ := hm _ hmem
    obtain ⟨⟨k, c, z⟩, hk, ek⟩ := List.mem_map.mp hb
    obtain ⟨i, hi⟩ := List.mem_iff_getElem?.mp hk
    obtain ⟨i1, i2⟩ := idx_get hi
    simp only [Prod.mk.injEq] at ek
    obtain ⟨rfl, rfl, rfl⟩ := ek
    refine ⟨k, c, u.map fun q => ((q.1 : Nat) : Int), by rw [hu]; simp, ?_⟩
    rw [show k = i by simpa using i1]
    exact i2
/-! moved_readings -/
def R_moved_readings (ds : List PyData) (r : PyData) : Prop := ∃ (k : Int) (sg : Bool) (cs : List (List Int)) (lo : Int), ds = [.int k, srtC sg cs, memD cs, .int (lo + 1), .int lo] ∧ cs ≠ [] ∧ cs.length ≤ 5 ∧ (∀ c ∈ cs, c.length ≤ 12) ∧
  r = match (scanB (plc sg cs lo (lo + 1))).1.getLast? with
    | none => .none
    | some c => memD c
def sp_moved_readings (K : PySem.W.Frag) : Sp := SpP R_moved_readings
def t_moved_readings (K : PySem.W.Frag) : TS := tSeq (tAsg (tCall (sp_places (6) K) [] E0 (tCons (tVar 0) (tCons (tVar 1) (tCons (tVar 2) (tCons (tCB (rMin) (tCons (tVar 3) (tCons (tVar 4) (tNil)))) (tCons (tCB (rMax) (tCons (tVar 3) (tCons (tVar 4) (tNil)))) (tNil))))))) (gName 5)) (tSeq (tAsg (tCall (sp_free_numbers K) [] E0 (tCons (tVar 5) (tNil))) (gTup K 2 (gCons (gName 6) (gCons (gName 7) (gNil))))) (tSeq (tIfS (tTest (tOp (rI0 fun i j => .bl (decide (i < j))) (tVar 3) (tVar 4))) (tNever) (tNext)) (tRet (tIf (tTest (tOp (rNeD K) (tVar 6) (tLst (tNil)))) (tOp (rIxT K) (tOp (rIxL K) (tVar 5) (tOp (rIxL K) (tVar 6) (tUn (rU fun i => .int (-i)) (tC (.int 1))))) (tC (.int 1))) (tC .non)))))
theorem len_moved_readings {K : PySem.W.Frag} {vs : List V} {H : Hp} {Q : VK} {E : XK} (h : sp_moved_readings K vs H Q E) : vs.length = 5 := spP_len h fun ds r ⟨_, _, _, _, e, _⟩ => by rw [e]; rfl
theorem run_moved_readings (K : PySem.W.Frag) (W : Wd) (n : Nat) (ds : List PyData) (r : PyData) (h : R_moved_readings ds r) : RunS W (t_moved_readings K) n (ds.map Slot.d ++ List.replicate (8 - ds.length) .non) (fun o => o = .rt n r) := by
  obtain ⟨k, sg, cs, lo, rfl, hne, hl, hc, rfl⟩ := h
  have hpl := plc_len (sg := sg) (lo := lo) (hi := lo + 1) hc
  refine sa (ep_call (ea_cons (by walk_at "ev") (ea_cons (by walk_at "ev") (ea_cons (by walk_at "ev") (ea_cons (ep_cb (by walk_at "ev") ca_min) (ea_cons (ep_cb (by walk_at "ev") ca_max) ea_nil))))) ⟨k, sg, cs, lo, lo + 1, by rw [show min (lo + 1) lo = lo by omega, show max (lo + 1) lo = lo + 1 by omega], hne, (show cs.length ≤ 5 + 1 by omega), hl, hc, rfl⟩) ?_
  let bs := (plc sg cs lo (lo + 1)).map fun p => (p.1, memD p.2)
  have eb : (plc sg cs lo (lo + 1)).map itM = bs.map fun p => .tuple [brD p.1, p.2] := by
    rw [List.map_map]
    rfl
  refine rs_seq (rs_asgT (ep_call (by walk_at "ev") ⟨bs, by rw [eb], by rw [List.length_map]; omega, rfl⟩) tg_two ?_)
  refine sf (et_is (by walk_at "ev") (by simp; omega)) ?_
  obtain ⟨n1, n2⟩ := numb_last memD (plc sg cs lo (lo + 1))
  cases hz : (scanB (plc sg cs lo (lo + 1))).1.getLast? with
  | none =>
    have e0 : (scanB (numb bs)).1 = [] := n1 hz
    refine rs_ret (ep_ifF (et_is (ne_nil (ep_var rfl)) (by rw [e0]; rfl)) ep_non) rfl
  | some c =>
    obtain ⟨j, b, u, e0, hj⟩ := n2 c hz
    have hj2 : ((plc sg cs lo (lo + 1)).map itM)[j]? = some (itM (b, c)) := by
      rw [List.getElem?_map, hj]
      rfl
    refine rs_ret (ep_ifT (et_is (ne_nil (ep_var rfl)) (by rw [show (scanB (numb bs)).1 = u ++ [(j : Int)] from e0]; simp)) (ep_op (ep_op (ep_var rfl) (ep_op (ep_var rfl) (by walk_at "ev") (od_ixL (z := .int (j : Nat)) ?_)) (od_ixL (at_nat hj2))) (by walk_at "ev") (od_ixT at2_1))) rfl
    rw [show (scanB (numb bs)).1 = u ++ [(j : Int)] from e0, List.map_append]
    exact L2.atI_last _ _
theorem pure_moved_readings {K : PySem.W.Frag} {vs : List V} {H : Hp} {Q : VK} {E : XK} (h : sp_moved_readings K vs H Q E) : t_moved_readings K { nx := fun _ H' => Q .non H', rt := Q } (L2.start ["many", "sort", "member", "giver", "taker", "row", "closing", "opening"] vs) H := pure_of h fun W n ds r hr => run_moved_readings K W n ds r hr
section
variable {P : Program} {w : World} {K : PySem.W.Frag} {mg : Str → Option Value} {base : Heap}
abbrev N_moved_readings : List Str := ["many", "sort", "member", "giver", "taker", "row", "closing", "opening"]
theorem sc_moved_readings : FnScope N_moved_readings ["many", "sort", "member", "giver", "taker"] (defScope s_moved_readings) := ⟨rfl, rfl, rfl, by decide +kernel, rfl, by decide +kernel, by decide +kernel⟩
theorem ok_moved_readings (T : Tx K mg) : ∃ fd, FnOk P w K mg base CX0 11 (He.ga K "moved_readings") fd ["many", "sort", "member", "giver", "taker"] (sp_moved_readings K) ∧ Binds K fd ["many", "sort", "member", "giver", "taker"] [] := by
  have nd := sc_moved_readings.nd
  obtain ⟨_, G_free_numbers, b_free_numbers⟩ := ok_free_numbers (P := P) (w := w) (base := base) T
  obtain ⟨_, G_places, b_places⟩ := ok_places (P := P) (w := w) (base := base) T (6)
  obtain ⟨fd, F⟩ := T.d_moved_readings
  refine ⟨fd, FunD.ok F sc_moved_readings (fun vs H Q E h => len_moved_readings h) (fun cdv A outer s H vs Q E hr h => ⟨t_moved_readings K, PSs.nox ?_, pure_moved_readings h⟩), F.bindsN fun _ _ _ _ _ _ us hl => match us, hl with | [_, _, _, _, _], _ => rfl⟩
  exact pss_cons (ps_set (i := 5) nd rfl (Or.inl rfl) (pe_call G_places (hr.mono (by omega)) rfl T.g_places T.k_places b_places .nil pass0 (pa_cons (pv 0) (pa_cons (pv 1) (pa_cons (pv 2) (pa_cons (pe_callB (call_min2 rfl) (by rfl) T.f_min (by decide +kernel) (pa_cons (pv 3) (pa_cons (pv 4) (pa_nil)))) (pa_cons (pe_callB (call_max2 rfl) (by rfl) T.f_max (by decide +kernel) (pa_cons (pv 3) (pa_cons (pv 4) (pa_nil)))) (pa_nil)))))))) (pss_cons (ps_asg (pe_call G_free_numbers (hr.mono (by omega)) rfl T.g_free_numbers T.k_free_numbers b_free_numbers .nil pass0 (pa_cons (pv 5) (pa_nil))) (pg_tup rfl (pgs_cons (pg_name (i := 6) nd rfl (Or.inl rfl)) (pgs_cons (pg_name (i := 7) nd rfl (Or.inl rfl)) (pgs_nil))))) (pss_cons (ps_if (pt_cmpR op_lt (pv 3) (pv 4) (nomark _)) (pss_one (ps_never)) (pss_nil)) (pss_one (ps_ret (pe_ifExp (pt_cmpR (op_neD hr.units) (pv 6) (pe_lst (pa_nil)) (nomark _)) (pe_ix ix_tup (pe_ix ix_list (pv 5) (pe_ix ix_list (pv 6) (pe_un un_neg (pe_int)) (fun _ _ => rfl)) (fun _ _ => rfl)) (pe_int) (fun _ _ => rfl)) (pe_non))))))
end
/-! need_two -/
def R_need_two (ds : List PyData) (r : PyData) : Prop := ∃ (k : Nat) (sg : Bool) (cs : List (List Int)) (a b : Int), ds = [.int (k : Nat), srtC sg cs, memD cs, .int a, .int b] ∧ MemOk k sg cs ∧ 0 ≤ a ∧ a < (k : Int) ∧ 0 ≤ b ∧ b < (k : Int) ∧ a ≠ b ∧ r = .tuple [.int (min a b), .int (max a b)]
def sp_need_two (K : PySem.W.Frag) : Sp := SpP R_need_two
def t_need_two (K : PySem.W.Frag) : TS := tSeq (tDrop (tCall (sp_need_member K) [] E0 (tCons (tVar 0) (tCons (tVar 1) (tCons (tVar 2) (tNil)))))) (tRet (tCall (sp_need_pair K) [] E0 (tCons (tVar 0) (tCons (tVar 3) (tCons (tVar 4) (tNil))))))
theorem len_need_two {K : PySem.W.Frag} {vs : List V} {H : Hp} {Q : VK} {E : XK} (h : sp_need_two K vs H Q E) : vs.length = 5 := spP_len h fun ds r ⟨_, _, _, _, _, e, _⟩ => by rw [e]; rfl
theorem run_need_two (K : PySem.W.Frag) (W : Wd) (n : Nat) (ds : List PyData) (r : PyData) (h : R_need_two ds r) : RunS W (t_need_two K) n (ds.map Slot.d ++ List.replicate (5 - ds.length) .non) (fun o => o = .rt n r) := by
  obtain ⟨k, sg, cs, a, b, rfl, hm, a0, a1, b0, b1, ne, rfl⟩ := h
  have := hm.k2
  have := hm.k5
  refine sdrop (ep_call (by walk_at "ev") ⟨k, sg, cs, rfl, hm, rfl⟩) ?_
  exact rs_ret (ep_call (by walk_at "ev") ⟨(k : Nat), a, b, rfl, by omega, by omega, a0, a1, b0, b1, ne, rfl⟩) rfl
theorem pure_need_two {K : PySem.W.Frag} {vs : List V} {H : Hp} {Q : VK} {E : XK} (h : sp_need_two K vs H Q E) : t_need_two K { nx := fun _ H' => Q .non H', rt := Q } (L2.start ["many", "sort", "member", "name", "other"] vs) H := pure_of h fun W n ds r hr => run_need_two K W n ds r hr
section
variable {P : Program} {w : World} {K : PySem.W.Frag} {mg : Str → Option Value} {base : Heap}
abbrev N_need_two : List Str := ["many", "sort", "member", "name", "other"]
theorem sc_need_two : FnScope N_need_two ["many", "sort", "member", "name", "other"] (defScope s_need_two) := ⟨rfl, rfl, rfl, by decide +kernel, rfl, by decide +kernel, by decide +kernel⟩
theorem ok_need_two (T : Tx K mg) : ∃ fd, FnOk P w K mg base CX0 13 (He.ga K "need_two") fd ["many", "sort", "member", "name", "other"] (sp_need_two K) ∧ Binds K fd ["many", "sort", "member", "name", "other"] [] := by
  have nd := sc_need_two.nd
  obtain ⟨_, G_need_pair, b_need_pair⟩ := ok_need_pair (P := P) (w := w) (base := base) T
  obtain ⟨_, G_need_member, b_need_member⟩ := ok_need_member (P := P) (w := w) (base := base) T
  obtain ⟨fd, F⟩ := T.d_need_two
  refine ⟨fd, FunD.ok F sc_need_two (fun vs H Q E h => len_need_two h) (fun cdv A outer s H vs Q E hr h => ⟨t_need_two K, PSs.nox ?_, pure_need_two h⟩), F.bindsN fun _ _ _ _ _ _ us hl => match us, hl with | [_, _, _, _, _], _ => rfl⟩
  exact pss_cons (ps_expr (pe_call G_need_member (hr.mono (by omega)) rfl T.g_need_member T.k_need_member b_need_member .nil pass0 (pa_cons (pv 0) (pa_cons (pv 1) (pa_cons (pv 2) (pa_nil)))))) (pss_one (ps_ret (pe_call G_need_pair (hr.mono (by omega)) rfl T.g_need_pair T.k_need_pair b_need_pair .nil pass0 (pa_cons (pv 0) (pa_cons (pv 3) (pa_cons (pv 4) (pa_nil)))))))
end
end Uh

set_option Elab.async false
set_option linter.all false
set_option maxRecDepth 100000
set_option maxHeartbeats 200000
namespace Uh
open PySem PySem.Spec PyProof.Rows L2
open Evl (Ex)
local macro_rules | `(tactic| walk_at "ev") => `(tactic| repeat (first
  | with_reducible exact ep_var rfl | with_reducible exact ep_int | with_reducible exact ep_bl | with_reducible exact ep_non | with_reducible exact ep_str
  | with_reducible exact ea_nil | with_reducible apply ea_cons | with_reducible apply ep_tupG | with_reducible apply ef_lstG | with_reducible exact et_yes
  | with_reducible apply ca_isiG | with_reducible exact kit_tuple _ | with_reducible exact kit_int _ | with_reducible exact kit_bool _ | with_reducible exact kit_str _
  | with_reducible apply et_test | with_reducible apply et_b | with_reducible apply et_not | with_reducible apply et_orG | with_reducible apply et_andG
  | with_reducible apply ep_orG | with_reducible apply ep_andG | with_reducible apply ep_notV | with_reducible apply ep_chainG
  | with_reducible apply ep_inG | with_reducible apply ep_op | with_reducible apply ep_un | with_reducible apply ep_cb
  | with_reducible exact od_i | with_reducible exact od_b | with_reducible exact od_eqI | with_reducible exact od_neI | with_reducible exact od_eqS | with_reducible exact od_eqB | with_reducible exact od_isN | with_reducible exact od_notN | with_reducible exact ud_i
  | with_reducible exact od_ixT at3_0 | with_reducible exact od_ixT at3_1 | with_reducible exact od_ixT at3_2 | with_reducible exact od_ixT at2_0 | with_reducible exact od_ixT at2_1 | with_reducible exact od_ixT at1_0
  | with_reducible apply od_catA | (with_reducible show _ + _ ≤ 100000; first | omega | (simp; done) | (simp; omega))
  | with_reducible exact ca_lenT | with_reducible exact ca_lenL
  | exact (show allS _ = true from rfl) | exact (show Nat.ble _ 100000 = true from rfl)))
abbrev xBad (K : PySem.W.Frag) (d : PyData) : Xc := ⟨.ref (cBad K), "value", d⟩
abbrev xGreat (K : PySem.W.Frag) (d : PyData) : Xc := ⟨.ref (cGreat K), "most", d⟩
abbrev xFree (K : PySem.W.Frag) (d : PyData) : Xc := ⟨.ref (cFree K), "taker", d⟩
theorem isNone_mem {cs : List (List Int)} (h : cs ≠ []) : isNone (memD cs) = false := by
  match cs, h with
  | [c], _ => rfl
  | c :: d :: l, _ => rfl
/-- the member behind the transfer from lo + 1 to lo -/
def mvC (sg : Bool) (cs : List (List Int)) (lo : Int) : Option (List (List Int)) := (scanB (plc sg cs lo (lo + 1))).1.getLast?
theorem mvC_ne {sg : Bool} {cs cs' : List (List Int)} {lo : Int} (h : mvC sg cs lo = some cs') : cs'.length = cs.length := by
  have hm := List.mem_of_getLast? h
  obtain ⟨b, hb⟩ := (scanB_mem _).1 _ hm
  exact plc_ne hb
/-! transfer -/
def R_transfer (K : PySem.W.Frag) (ds : List PyData) (r : Rs) : Prop := ∃ (k : Nat) (sg : Bool) (cs : List (List Int)) (lo : Int), ds = [.int (k : Nat), srtC sg cs, memD cs, .int (lo + 1), .int lo] ∧ MemOk k sg cs ∧ 0 ≤ lo ∧ lo + 1 < (k : Int) ∧
  r = match mvC sg cs lo with
    | none => .exc (xFree K (.int lo))
    | some c => .val (memD c)
def sp_transfer (K : PySem.W.Frag) : Sp := SpX (R_transfer K)
def t_transfer (K : PySem.W.Frag) (W : WX) : TS := tSeq (tDrop (tCall (sp_need_two K) [] E0 (tCons (tVar 0) (tCons (tVar 1) (tCons (tVar 2) (tCons (tVar 3) (tCons (tVar 4) (tNil)))))))) (tSeq (tAsg (tCall (sp_moved_readings K) [] E0 (tCons (tVar 0) (tCons (tVar 1) (tCons (tVar 2) (tCons (tVar 3) (tCons (tVar 4) (tNil))))))) (gName 5)) (tSeq (tIfS (tTest (tOp (rIsNo) (tVar 5) (tC .non))) (tRaise (tMkO (cFree K) (spI2 K (cFree K) "giver" "taker") [] (tCons (tVar 3) (tCons (tVar 4) (tNil)))) W) (tNext)) (tRet (tVar 5))))
theorem len_transfer {K : PySem.W.Frag} {vs : List V} {H : Hp} {Q : VK} {E : XK} (h : sp_transfer K vs H Q E) : vs.length = 5 := spX_len h fun ds r ⟨_, _, _, _, e, _⟩ => by rw [e]; rfl
theorem run_transfer (K : PySem.W.Frag) (T : Ers K) (W : Wd) (n : Nat) (ds : List PyData) (r : Rs) (h : R_transfer K ds r) : RunS W (t_transfer K W.xk) n (ds.map Slot.d ++ List.replicate (6 - ds.length) .non) (rsOut n r) := by
  obtain ⟨k, sg, cs, lo, rfl, hm, l0, l1, rfl⟩ := h
  refine sdrop (ep_call (by walk_at "ev") ⟨k, sg, cs, lo + 1, lo, rfl, hm, by omega, by omega, by omega, by omega, by omega, rfl⟩) ?_
  refine sa (ep_call (by walk_at "ev") ⟨k, sg, cs, lo, rfl, hm.ne, hm.l5, fun c hc => (hm.col c hc).len, rfl⟩) ?_
  show RunS _ _ _ (List.set _ _ (Slot.d (match mvC sg cs lo with | none => .none | some c => memD c))) _
  cases hz : mvC sg cs lo with
  | none =>
    show RunS _ _ _ (List.set _ _ (Slot.d PyData.none)) _
    exact rs_seq (rs_ifT (et_is (by walk_at "ev") (by rfl)) (rs_raise2 T.free.oex (T.free.fld _ (by simp)) (T.free.fld _ (by simp)) (by walk_at "ev") ⟨_, rfl⟩))
  | some c =>
    show RunS _ _ _ (List.set _ _ (Slot.d (memD c))) _
    have hn : c ≠ [] := fun z => by
      have h1 := mvC_ne hz
      rw [z] at h1
      exact hm.ne (List.length_eq_zero_iff.mp h1.symm)
    exact sf (et_is (by walk_at "ev") (isNone_mem hn)) (rs_ret (by walk_at "ev") rfl)
theorem pure_transfer {K : PySem.W.Frag} (T : Ers K) {vs : List V} {H : Hp} {Q : VK} {E : XK} (h : sp_transfer K vs H Q E) : t_transfer K (fun cls d _ H' => E cls d H') { nx := fun _ H' => Q .non H', rt := Q } (L2.start ["many", "sort", "member", "giver", "taker", "found"] vs) H := pureX_of (ts := t_transfer K) h fun W n ds r hr => run_transfer K T W n ds r hr
section
variable {P : Program} {w : World} {K : PySem.W.Frag} {mg : Str → Option Value} {base : Heap}
abbrev N_transfer : List Str := ["many", "sort", "member", "giver", "taker", "found"]
theorem sc_transfer : FnScope N_transfer ["many", "sort", "member", "giver", "taker"] (defScope s_transfer) := ⟨rfl, rfl, rfl, by decide +kernel, rfl, by decide +kernel, by decide +kernel⟩
theorem ok_transfer (T : Tx K mg) : ∃ fd, FnOk P w K mg base (L2.CX P w) 14 (He.ga K "transfer") fd ["many", "sort", "member", "giver", "taker"] (sp_transfer K) ∧ Binds K fd ["many", "sort", "member", "giver", "taker"] [] := by
  have nd := sc_transfer.nd
  obtain ⟨_, G_moved_readings, b_moved_readings⟩ := ok_moved_readings (P := P) (w := w) (base := base) T
  obtain ⟨_, G_need_two, b_need_two⟩ := ok_need_two (P := P) (w := w) (base := base) T
  obtain ⟨_, G_iNoFree, b_iNoFree⟩ := ok_iNoFree (P := P) (w := w) (base := base) T
  obtain ⟨fd, F⟩ := T.d_transfer
  refine ⟨fd, FunD.ok F sc_transfer (fun vs H Q E h => len_transfer h) (fun cdv A outer s H vs Q E hr h => ⟨t_transfer K (fun cls d _ H' => E cls d H'), ?_, pure_transfer (ers T) h⟩), F.bindsN fun _ _ _ _ _ _ us hl => match us, hl with | [_, _, _, _, _], _ => rfl⟩
  exact pss_cons (ps_expr (pe_call G_need_two (hr.mono (by omega)) rfl T.g_need_two T.k_need_two b_need_two .nil pass0 (pa_cons (pv 0) (pa_cons (pv 1) (pa_cons (pv 2) (pa_cons (pv 3) (pa_cons (pv 4) (pa_nil)))))))) (pss_cons (ps_set (i := 5) nd rfl (Or.inl rfl) (pe_call G_moved_readings (hr.mono (by omega)) rfl T.g_moved_readings T.k_moved_readings b_moved_readings .nil pass0 (pa_cons (pv 0) (pa_cons (pv 1) (pa_cons (pv 2) (pa_cons (pv 3) (pa_cons (pv 4) (pa_nil)))))))) (pss_cons (ps_if (pt_cmpR op_isN (pv 5) (pe_non) (nomark _)) (pss_one (ps_raise rfl tk_of (pmk_oex (ers T).free.oex (ers T).free.init (ers T).free.ty G_iNoFree (hr.mono (by omega)) b_iNoFree .nil pass0 rfl T.g_NoFree (pa_cons (pv 3) (pa_cons (pv 4) (pa_nil)))))) (pss_nil)) (pss_one (ps_ret (pv 5)))))
end
end Uh

set_option Elab.async false
set_option linter.all false
set_option maxRecDepth 100000
set_option maxHeartbeats 200000
namespace Uh
open PySem PySem.Spec PyProof.Rows L2
open Evl (Ex)
local macro_rules | `(tactic| walk_at "ev") => `(tactic| repeat (first
  | with_reducible exact ep_var rfl | with_reducible exact ep_int | with_reducible exact ep_bl | with_reducible exact ep_non | with_reducible exact ep_str
  | with_reducible exact ea_nil | with_reducible apply ea_cons | with_reducible apply ep_tupG | with_reducible apply ef_lstG | with_reducible exact et_yes
  | with_reducible apply ca_isiG | with_reducible exact kit_tuple _ | with_reducible exact kit_int _ | with_reducible exact kit_bool _ | with_reducible exact kit_str _
  | with_reducible apply et_test | with_reducible apply et_b | with_reducible apply et_not | with_reducible apply et_orG | with_reducible apply et_andG
  | with_reducible apply ep_orG | with_reducible apply ep_andG | with_reducible apply ep_notV | with_reducible apply ep_chainG
  | with_reducible apply ep_inG | with_reducible apply ep_op | with_reducible apply ep_un | with_reducible apply ep_cb
  | with_reducible exact od_i | with_reducible exact od_b | with_reducible exact od_eqI | with_reducible exact od_neI | with_reducible exact od_eqS | with_reducible exact od_eqB | with_reducible exact od_isN | with_reducible exact od_notN | with_reducible exact ud_i
  | with_reducible exact od_ixT at3_0 | with_reducible exact od_ixT at3_1 | with_reducible exact od_ixT at3_2 | with_reducible exact od_ixT at2_0 | with_reducible exact od_ixT at2_1 | with_reducible exact od_ixT at1_0
  | with_reducible apply od_catA | (with_reducible show _ + _ ≤ 100000; first | omega | (simp; done) | (simp; omega))
  | with_reducible exact ca_lenT | with_reducible exact ca_lenL
  | exact (show allS _ = true from rfl) | exact (show Nat.ble _ 100000 = true from rfl)))
/-! ### ranges -/
section
variable {W : Wd} {K : PySem.W.Frag} {n : Nat} {ss : List Slot} {te : TE} {ta : TA} {tu : TS} {P : Out → Prop}
theorem irange_nat {n : Nat} : (irange 0 ((n : Int)).toNat).map PyData.int = (List.range n).map fun k : Nat => PyData.int (k : Nat) := by
  unfold irange
  rw [List.map_map, Int.toNat_natCast]
  apply List.map_congr_left
  intro k _
  show PyData.int (0 + (k : Int)) = _
  rw [Int.zero_add]
theorem wk_rn {m : Nat} (h : EvA ta ss [.int (m : Nat)]) (hn : m ≤ 1000) : Wk (iRng1 ta) ss ((List.range m).map fun k : Nat => PyData.int (k : Nat)) := by
  rw [← irange_nat]
  exact wk_r1 h (by omega) (by omega)
theorem wk_rrn {m : Nat} (h : EvP te ss (.int (m : Nat))) (hn : m ≤ 1000) : Wk (iRevR (tRg1 te)) ss ((List.range m).reverse.map fun k : Nat => PyData.int (k : Nat)) := by
  rw [List.map_reverse, ← irange_nat, ← List.map_reverse]
  exact wk_rr h (by omega) (by omega)
/-- a range as a value -/
theorem srng {i : Nat} {m : Int} (h : EvA ta ss [.int m]) (k : RunS W tu n (ss.set i (.rng 0 m)) P) : RunS W (tSeq (tAsg (tCB rRange1 ta) (gName i)) tu) n ss P := rs_seq fun D H σ s g => by
  refine h _ H σ s.live s.fits _ fun vs H1 e r => ?_
  obtain ⟨v, rfl, r'⟩ := da_one r
  have ev : v = .int m := by simpa [Da] using r'
  subst ev
  refine ⟨m, rfl, fun p hp => ?_⟩
  have s1 := s.ext (e.trans (Ex.new (o := .rng 0 m) hp))
  refine g.nx n _ _ _ k (.of_ex (e.trans (Ex.new hp))) (Fr.plain rfl .self) (s1.plain rfl ⟨p, rfl, (s.live.ex e).no hp, upd_same⟩)
theorem wk_rngO {i m : Nat} (hi : ss[i]? = some (.rng 0 (m : Nat))) (hn : m ≤ 1000) : Wk (iRngO (tVar i)) ss ((List.range m).map fun k : Nat => PyData.int (k : Nat)) := fun av H σ l f R q => by
  obtain ⟨a, e, _, ha⟩ := f.rng hi
  refine ⟨_, e, a, 0, m, rfl, ha, by omega, by omega, by omega, by omega, q _ H (Ex.refl H) ?_⟩
  rw [← irange_nat, Int.sub_zero]
  exact itr_ok
end
/-! ### tables of natural numbers -/
abbrev NT := List (List Nat)
def rowN (r : List Nat) : PyData := .tuple (r.map fun k : Nat => .int (k : Nat))
def tabN (T : NT) : PyData := .tuple (T.map rowN)
theorem rowN_ints (r : List Nat) : rowN r = .tuple ((r.map fun k : Nat => (k : Int)).map .int) := by
  unfold rowN
  rw [List.map_map]
  rfl
structure Rect (T : NT) (r c : Nat) : Prop where
  len : T.length = r
  row : ∀ x ∈ T, x.length = c
  r1 : 1 ≤ r
  r5 : r ≤ 5
  c1 : 1 ≤ c
  c5 : c ≤ 5
def colN (T : NT) (k : Nat) : List Nat := T.map fun row => row.getD k 0
def colsN (T : NT) (c : Nat) : NT := (List.range c).map (colN T)
theorem atN {r : List Nat} {k : Nat} (h : k < r.length) : atI (r.map fun k : Nat => PyData.int (k : Nat)) (k : Nat) = some (.int (r.getD k 0 : Nat)) := by
  refine at_nat ?_
  simp [List.getD, h]
theorem Rect.fst {T : NT} {r c : Nat} (h : Rect T r c) : ∃ x, atI (T.map rowN) 0 = some (rowN x) ∧ x.length = c ∧ x ∈ T := by
  match T, h with
  | [], h => exact absurd h.len (by have := h.r1; simp; omega)
  | x :: l, h => exact ⟨x, at_nat (j := 0) (x := rowN x) rfl, h.row x (by simp), by simp⟩
/-- len(table[0]) -/
theorem ep_wid {K : PySem.W.Frag} {ss : List Slot} {te : TE} {T : NT} {r c : Nat} (hT : Rect T r c) (h : EvP te ss (tabN T)) : EvP (tCB (rLen K) (tCons (tOp (rIxT K) te (tC (.int 0))) tNil)) ss (.int (c : Nat)) := by
  obtain ⟨x, h1, h2, _⟩ := hT.fst
  refine ep_is (ep_cb (ea_cons (ep_op h ep_int (od_ixT h1)) ea_nil) ca_lenT) ?_
  rw [List.length_map, h2]
/-! column_items -/
def R_column_items (ds : List PyData) (r : PyData) : Prop := ∃ (T : NT) (k a b : Nat), ds = [tabN T, .int (k : Nat)] ∧ Rect T a b ∧ k < b ∧ r = rowN (colN T k)
def sp_column_items (K : PySem.W.Frag) : Sp := SpP R_column_items
def t_column_items (K : PySem.W.Frag) : TS := tRet (tCB (rTupleOf K) (tCons (tLc (iTup K (tVar 0)) (gName 2) (tYes) (tOp (rIxT K) (tVar 2) (tVar 1)) [2]) (tNil)))
theorem len_column_items {K : PySem.W.Frag} {vs : List V} {H : Hp} {Q : VK} {E : XK} (h : sp_column_items K vs H Q E) : vs.length = 2 := spP_len h fun ds r ⟨_, _, _, _, e, _⟩ => by rw [e]; rfl
theorem run_column_items (K : PySem.W.Frag) (W : Wd) (n : Nat) (ds : List PyData) (r : PyData) (h : R_column_items ds r) : RunS W (t_column_items K) n (ds.map Slot.d ++ List.replicate (3 - ds.length) .non) (fun o => o = .rt n r) := by
  obtain ⟨T, k, a, b, rfl, hT, hk, rfl⟩ := h
  have h5 := hT.r5
  have hl := hT.len
  refine rs_ret (ep_is (ep_cb (ea_cons (EvF.p (ef_map (xs := T) (enc := rowN) (f := fun row ss => ss.set 2 (.d (rowN row))) (fun row => .int (row.getD k 0 : Nat)) (wk_tup (ep_var rfl)) (by omega) (fun _ _ => tc_name)
    fun row hr => ep_op (ep_var rfl) (ep_var rfl) (od_ixT (atN (by rw [hT.row row hr]; exact hk))))) ea_nil) ca_tuple) ?_) rfl
  unfold rowN colN
  rw [List.map_map]
  rfl
theorem pure_column_items {K : PySem.W.Frag} {vs : List V} {H : Hp} {Q : VK} {E : XK} (h : sp_column_items K vs H Q E) : t_column_items K { nx := fun _ H' => Q .non H', rt := Q } (L2.start ["table", "column", "row"] vs) H := pure_of h fun W n ds r hr => run_column_items K W n ds r hr
section
variable {P : Program} {w : World} {K : PySem.W.Frag} {mg : Str → Option Value} {base : Heap}
abbrev N_column_items : List Str := ["table", "column", "row"]
theorem sc_column_items : FnScope N_column_items ["table", "column"] (defScope s_column_items) := ⟨rfl, rfl, rfl, by decide +kernel, rfl, by decide +kernel, by decide +kernel⟩
theorem ok_column_items (T : Tx K mg) : ∃ fd, FnOk P w K mg base CX0 1 (He.ga K "column_items") fd ["table", "column"] (sp_column_items K) ∧ Binds K fd ["table", "column"] [] := by
  have nd := sc_column_items.nd
  obtain ⟨fd, F⟩ := T.d_column_items
  refine ⟨fd, FunD.ok F sc_column_items (fun vs H Q E h => len_column_items h) (fun cdv A outer s H vs Q E hr h => ⟨t_column_items K, PSs.nox ?_, pure_column_items h⟩), F.bindsN fun _ _ _ _ _ _ us hl => match us, hl with | [_, _], _ => rfl⟩
  exact pss_one (ps_ret (pe_callTy call_tuple_of (by rfl) T.f_tuple (by decide +kernel) (pa_cons (pe_lc (own := [(("row" : Str), 2)]) rfl nd (pi_tup (pv 0)) (blkOk_by (N := N_column_items) (sc := defScope s_column_items) (by decide +kernel)) (fun _ _ _ _ _ => pg_name (i := 2) nd rfl (Or.inl rfl)) (fun _ _ _ _ _ => pts_nil) (fun _ _ _ _ _ => pe_ix ix_tup (pv 2) (pv 1) (fun _ _ => rfl))) (pa_nil))))
end
/-- some things in pairs from the end on -/
def prD (w : Option Str) (x acc : PyData) : PyData := match w with
  | none => .tuple [x, acc]
  | some s => .tuple [.str s, x, acc]
def prsD (w : Option Str) : List PyData → PyData
  | [] => .none
  | x :: l => match l with
    | [] => x
    | _ :: _ => prD w x (prsD w l)
theorem prsD_snoc {w : Option Str} {z : PyData} : ∀ {l : List PyData}, prsD w (l ++ [z]) = l.foldr (prD w) z
  | [] => rfl
  | x :: l => by
    have e : prsD w (x :: (l ++ [z])) = prD w x (prsD w (l ++ [z])) := by
      cases l <;> rfl
    rw [List.cons_append, e, prsD_snoc]
    rfl
def wD : Option Str → PyData
  | none => .none
  | some s => .str s
/-! paired -/
def R_paired (ds : List PyData) (r : PyData) : Prop := ∃ (xs : List PyData) (z : PyData) (w : Option Str), ds = [.list (xs ++ [z]), wD w] ∧ xs.length ≤ 100 ∧ r = prsD w (xs ++ [z])
def sp_paired (K : PySem.W.Frag) : Sp := SpP R_paired
def t_paired (K : PySem.W.Frag) : TS := tSeq (tAsg (tOp (rIxL K) (tVar 0) (tUn (rU fun i => .int (-i)) (tC (.int 1)))) (gName 2)) (tSeq (tFor (RT.iRevA K (tSl (rSlL K) (tVar 0) (tNoPart) (tPart (tUn (rU fun i => .int (-i)) (tC (.int 1)))))) (gName 3) (tAsg (tIf (tTest (tOp (rIsNo) (tVar 1) (tC .non))) (tTup (tCons (tVar 3) (tCons (tVar 2) (tNil)))) (tTup (tCons (tVar 1) (tCons (tVar 3) (tCons (tVar 2) (tNil)))))) (gName 2))) (tRet (tVar 2)))
theorem len_paired {K : PySem.W.Frag} {vs : List V} {H : Hp} {Q : VK} {E : XK} (h : sp_paired K vs H Q E) : vs.length = 2 := spP_len h fun ds r ⟨_, _, _, e, _⟩ => by rw [e]; rfl
theorem run_paired (K : PySem.W.Frag) (W : Wd) (n : Nat) (ds : List PyData) (r : PyData) (h : R_paired ds r) : RunS W (t_paired K) n (ds.map Slot.d ++ List.replicate (4 - ds.length) .non) (fun o => o = .rt n r) := by
  obtain ⟨xs, z, w, rfl, hl, rfl⟩ := h
  refine sa (ep_op (ep_var rfl) (by walk_at "ev") (od_ixL (L2.atI_last xs z))) ?_
  have hc : cutD (xs ++ [z]) none (some (-1)) = xs := by
    unfold cutD
    rw [HT.sIx_none]
    have e : HT.sIx (xs ++ [z]).length (xs ++ [z]).length (some (-1)) = xs.length := by
      unfold HT.sIx
      simp only
      rw [if_pos (by decide), List.length_append]
      simp
      omega
    rw [e, Nat.sub_zero, List.drop_zero, List.take_left]
  refine sfor (xs := xs.reverse) (enc := id) (f := fun v ss => ss.set 3 (.d v)) (fun i n' ss' => n' = n ∧ ∃ s, ss' = [.d (.list (xs ++ [z])), .d (wD w), .d ((xs.reverse.take i).foldl (fun acc x => prD w x acc) z), s]) (by
    have hw := wk_revL (K := K) (ss := [.d (.list (xs ++ [z])), .d (wD w), .d z, .non]) (te := tSl (rSlL K) (tVar 0) tNoPart (tPart (tUn (rU fun i => .int (-i)) (tC (.int 1))))) (ds := xs) (ep_is (ep_sl (ep_var rfl) eo_none (eo_some (i := -1) (ep_is (by walk_at "ev") rfl)) sd_lst) (by rw [hc]))
    rw [List.map_id]
    exact hw) (fun _ _ => tg_name) ⟨rfl, _, rfl⟩ ?_ ?_
  · rintro i x n _ hi ⟨rfl, s, rfl⟩
    have e := take_snoc hi
    have hv : ∀ acc, (prD w x acc) = match w with | none => .tuple [x, acc] | some s => .tuple [.str s, x, acc] := fun acc => rfl
    refine rs_asg (d := prD w x ((xs.reverse.take i).foldl (fun acc x => prD w x acc) z)) ?_ ⟨rfl, .d x, by rw [e, List.foldl_append]; rfl⟩
    cases w with
    | none => exact ep_ifT (et_is (by walk_at "ev") (by rfl)) (ep_is (by walk_at "ev") (by rfl))
    | some s => exact ep_ifF (et_is (by walk_at "ev") (by rfl)) (ep_is (by walk_at "ev") (by rfl))
  · rintro n _ ⟨rfl, s, rfl⟩
    refine rs_ret (ep_is (ep_var rfl) ?_) rfl
    rw [List.take_of_length_le (Nat.le_refl _), List.foldl_reverse, prsD_snoc]
theorem pure_paired {K : PySem.W.Frag} {vs : List V} {H : Hp} {Q : VK} {E : XK} (h : sp_paired K vs H Q E) : t_paired K { nx := fun _ H' => Q .non H', rt := Q } (L2.start ["things", "word", "found", "thing"] vs) H := pure_of h fun W n ds r hr => run_paired K W n ds r hr
section
variable {P : Program} {w : World} {K : PySem.W.Frag} {mg : Str → Option Value} {base : Heap}
abbrev N_paired : List Str := ["things", "word", "found", "thing"]
theorem sc_paired : FnScope N_paired ["things", "word"] (defScope s_paired) := ⟨rfl, rfl, rfl, by decide +kernel, rfl, by decide +kernel, by decide +kernel⟩
theorem ok_paired (T : Tx K mg) : ∃ fd, FnOk P w K mg base CX0 1 (He.ga K "paired") fd ["things", "word"] (sp_paired K) ∧ Binds K fd ["things", "word"] [] := by
  have nd := sc_paired.nd
  obtain ⟨fd, F⟩ := T.d_paired
  refine ⟨fd, FunD.ok F sc_paired (fun vs H Q E h => len_paired h) (fun cdv A outer s H vs Q E hr h => ⟨t_paired K, PSs.nox ?_, pure_paired h⟩), F.bindsN fun _ _ _ _ _ _ us hl => match us, hl with | [_, _], _ => rfl⟩
  exact pss_cons (ps_set (i := 2) nd rfl (Or.inl rfl) (pe_ix ix_list (pv 0) (pe_un un_neg (pe_int)) (fun _ _ => rfl))) (pss_cons (ps_for PassesOwn.never rfl (RT.pi_revA (by rfl) T.f_reversed (pe_slice sl_list (pv 0) (po_none) (po_some (pe_un un_neg (pe_int))))) (pg_name (i := 3) nd rfl (Or.inl rfl)) (pss_one (ps_set (i := 2) nd rfl (Or.inl rfl) (pe_ifExp (pt_cmpR op_isN (pv 1) (pe_non) (nomark _)) (pe_tup (pa_cons (pv 3) (pa_cons (pv 2) (pa_nil)))) (pe_tup (pa_cons (pv 1) (pa_cons (pv 3) (pa_cons (pv 2) (pa_nil))))))))) (pss_one (ps_ret (pv 2))))
end
end Uh

set_option Elab.async false
set_option linter.all false
set_option maxRecDepth 100000
set_option maxHeartbeats 200000
namespace Uh
open PySem PySem.Spec PyProof.Rows L2
open Evl (Ex)
local macro_rules | `(tactic| walk_at "ev") => `(tactic| repeat (first
  | with_reducible exact ep_var rfl | with_reducible exact ep_int | with_reducible exact ep_bl | with_reducible exact ep_non | with_reducible exact ep_str
  | with_reducible exact ea_nil | with_reducible apply ea_cons | with_reducible apply ep_tupG | with_reducible apply ef_lstG | with_reducible exact et_yes
  | with_reducible apply ca_isiG | with_reducible exact kit_tuple _ | with_reducible exact kit_int _ | with_reducible exact kit_bool _ | with_reducible exact kit_str _
  | with_reducible apply et_test | with_reducible apply et_b | with_reducible apply et_not | with_reducible apply et_orG | with_reducible apply et_andG
  | with_reducible apply ep_orG | with_reducible apply ep_andG | with_reducible apply ep_notV | with_reducible apply ep_chainG
  | with_reducible apply ep_inG | with_reducible apply ep_op | with_reducible apply ep_un | with_reducible apply ep_cb
  | with_reducible exact od_i | with_reducible exact od_b | with_reducible exact od_eqI | with_reducible exact od_neI | with_reducible exact od_eqS | with_reducible exact od_eqB | with_reducible exact od_isN | with_reducible exact od_notN | with_reducible exact ud_i
  | with_reducible exact od_ixT at3_0 | with_reducible exact od_ixT at3_1 | with_reducible exact od_ixT at3_2 | with_reducible exact od_ixT at2_0 | with_reducible exact od_ixT at2_1 | with_reducible exact od_ixT at1_0
  | with_reducible apply od_catA | (with_reducible show _ + _ ≤ 100000; first | omega | (simp; done) | (simp; omega))
  | with_reducible exact ca_lenT | with_reducible exact ca_lenL
  | exact (show allS _ = true from rfl) | exact (show Nat.ble _ 100000 = true from rfl)))
theorem snoc_of {α : Type} {l : List α} (h : l ≠ []) : ∃ xs z, l = xs ++ [z] := ⟨l.dropLast, l.getLast h, (List.dropLast_concat_getLast h).symm⟩
theorem prs_srt {sg : Bool} : ∀ {ns : List Nat}, prsD (some "pair") (ns.map (leafD sg)) = srtD sg ns
  | [] => rfl
  | [_] => rfl
  | n :: m :: l => by
    show prD (some "pair") (leafD sg n) (prsD (some "pair") ((m :: l).map (leafD sg))) = _
    rw [prs_srt]
    rfl
theorem prs_mem : ∀ {cs : List (List Int)}, prsD none (cs.map ltD) = memD cs
  | [] => rfl
  | [_] => rfl
  | c :: d :: l => by
    show prD none (ltD c) (prsD none ((d :: l).map ltD)) = _
    rw [prs_mem]
    rfl
theorem colN_len {T : NT} {k : Nat} : (colN T k).length = T.length := by simp [colN]
theorem sum_int (l : List Nat) : (l.map fun k : Nat => (k : Int)).sum = ((l.sum : Nat) : Int) := by
  induction l with
  | nil => rfl
  | cons a l ih =>
    rw [List.map_cons, List.sum_cons, List.sum_cons, ih]
    omega
/-- sum(column) -/
theorem ca_sumN {K : PySem.W.Frag} {r : List Nat} : CaD (rSumA K) [rowN r] (.int (r.sum : Nat)) := by
  rw [rowN_ints, ← sum_int]
  exact ca_sumT
/-! sort_of -/
def R_sort_of (ds : List PyData) (r : PyData) : Prop := ∃ (T : NT) (sg : Bool) (a b : Nat), ds = [tabN T, .bool sg] ∧ Rect T a b ∧ r = srtD sg ((colsN T b).map List.sum)
def sp_sort_of (K : PySem.W.Frag) : Sp := SpP R_sort_of
def t_sort_of (K : PySem.W.Frag) : TS := tSeq (tAsg (tIf (tB (tVar 1)) (tC (.str "subset")) (tC (.str "bag"))) (gName 2)) (tSeq (tAsg (tCB (rRange1) (tCons (tCB (rLen K) (tCons (tOp (rIxT K) (tVar 0) (tC (.int 0))) (tNil))) (tNil))) (gName 3)) (tRet (tCall (sp_paired K) [] E0 (tCons (tLc (iRngO (tVar 3)) (gName 4) (tYes) (tTup (tCons (tVar 2) (tCons (tCB (rSumA K) (tCons (tCall (sp_column_items K) [] E0 (tCons (tVar 0) (tCons (tVar 4) (tNil)))) (tNil))) (tNil)))) [4]) (tCons (tC (.str "pair")) (tNil))))))
theorem len_sort_of {K : PySem.W.Frag} {vs : List V} {H : Hp} {Q : VK} {E : XK} (h : sp_sort_of K vs H Q E) : vs.length = 2 := spP_len h fun ds r ⟨_, _, _, _, e, _⟩ => by rw [e]; rfl
theorem run_sort_of (K : PySem.W.Frag) (W : Wd) (n : Nat) (ds : List PyData) (r : PyData) (h : R_sort_of ds r) : RunS W (t_sort_of K) n (ds.map Slot.d ++ List.replicate (5 - ds.length) .non) (fun o => o = .rt n r) := by
  obtain ⟨T, sg, a, b, rfl, hT, rfl⟩ := h
  have c1 := hT.c1
  have c5 := hT.c5
  refine sa (d := .str (wdS sg)) (ep_if (b := sg) (by walk_at "ev") (fun e => by subst e; exact ep_str) fun e => by subst e; exact ep_str) ?_
  refine srng (m := (b : Nat)) (ea_cons (ep_wid hT (ep_var rfl)) ea_nil) ?_
  have hne : (List.range b).map (fun k => leafD sg (colN T k).sum) ≠ [] := by
    intro z
    have := congrArg List.length z
    simp at this
    omega
  obtain ⟨xs, z, e⟩ := snoc_of hne
  have hl : xs.length ≤ 100 := by
    have := congrArg List.length e
    simp at this
    omega
  refine rs_ret (ep_call (ea_cons (EvF.p (ef_map (xs := List.range b) (enc := fun k : Nat => PyData.int (k : Nat)) (f := fun k ss => ss.set 4 (.d (.int (k : Nat)))) (fun k => leafD sg (colN T k).sum) (wk_rngO rfl (by omega)) (by rw [List.length_range]; omega) (fun _ _ => tc_name)
    fun k hk => ep_tupG (ea_cons (ep_var rfl) (ea_cons (ep_cb (ea_cons (ep_call (by walk_at "ev") ⟨T, k, a, b, rfl, hT, List.mem_range.mp hk, rfl⟩) ea_nil) ca_sumN) ea_nil)) rfl)) (by walk_at "ev")) ⟨xs, z, some "pair", by rw [e]; rfl, hl, ?_⟩) rfl
  rw [← e, ← prs_srt]
  unfold colsN
  rw [List.map_map, List.map_map]
  rfl
theorem pure_sort_of {K : PySem.W.Frag} {vs : List V} {H : Hp} {Q : VK} {E : XK} (h : sp_sort_of K vs H Q E) : t_sort_of K { nx := fun _ H' => Q .non H', rt := Q } (L2.start ["table", "sign", "word", "columns", "column"] vs) H := pure_of h fun W n ds r hr => run_sort_of K W n ds r hr
section
variable {P : Program} {w : World} {K : PySem.W.Frag} {mg : Str → Option Value} {base : Heap}
abbrev N_sort_of : List Str := ["table", "sign", "word", "columns", "column"]
theorem sc_sort_of : FnScope N_sort_of ["table", "sign"] (defScope s_sort_of) := ⟨rfl, rfl, rfl, by decide +kernel, rfl, by decide +kernel, by decide +kernel⟩
theorem ok_sort_of (T : Tx K mg) : ∃ fd, FnOk P w K mg base CX0 2 (He.ga K "sort_of") fd ["table", "sign"] (sp_sort_of K) ∧ Binds K fd ["table", "sign"] [] := by
  have nd := sc_sort_of.nd
  obtain ⟨_, G_paired, b_paired⟩ := ok_paired (P := P) (w := w) (base := base) T
  obtain ⟨_, G_column_items, b_column_items⟩ := ok_column_items (P := P) (w := w) (base := base) T
  obtain ⟨fd, F⟩ := T.d_sort_of
  refine ⟨fd, FunD.ok F sc_sort_of (fun vs H Q E h => len_sort_of h) (fun cdv A outer s H vs Q E hr h => ⟨t_sort_of K, PSs.nox ?_, pure_sort_of h⟩), F.bindsN fun _ _ _ _ _ _ us hl => match us, hl with | [_, _], _ => rfl⟩
  exact pss_cons (ps_set (i := 2) nd rfl (Or.inr rfl) (pe_ifExp (pt_val (pv 1)) (pe_str) (pe_str))) (pss_cons (ps_set (i := 3) nd rfl (Or.inl rfl) (pe_callTy cr_range1 (by rfl) T.f_range (by decide +kernel) (pa_cons (pe_callB call_len_seq (by rfl) T.f_len (by decide +kernel) (pa_cons (pe_ix ix_tup (pv 0) (pe_int) (fun _ _ => rfl)) (pa_nil))) (pa_nil)))) (pss_one (ps_ret (pe_call G_paired (hr.mono (by omega)) rfl T.g_paired T.k_paired b_paired .nil pass0 (pa_cons (pe_lc (own := [(("column" : Str), 4)]) rfl nd (pi_rngO (pv 3)) (blkOk_by (N := N_sort_of) (sc := defScope s_sort_of) (by decide +kernel)) (fun _ _ _ _ _ => pg_name (i := 4) nd rfl (Or.inl rfl)) (fun _ _ _ _ _ => pts_nil) (fun _ _ _ _ _ => pe_tup (pa_cons (pv 2) (pa_cons (pe_callB (cr_sumA rfl) (by rfl) T.f_sum (by decide +kernel) (pa_cons (pe_call G_column_items (hr.mono (by omega)) rfl T.g_column_items T.k_column_items b_column_items .nil pass0 (pa_cons (pv 0) (pa_cons (pv 4) (pa_nil)))) (pa_nil))) (pa_nil))))) (pa_cons (pe_str) (pa_nil)))))))
end
/-- the letters of a column: each name as often as it has marks -/
def letsN : Nat → List Nat → List Int
  | _, [] => []
  | k, n :: c => List.replicate n ((k : Nat) : Int) ++ letsN (k + 1) c
theorem letsN_len : ∀ {c : List Nat} {k : Nat}, (letsN k c).length = c.sum
  | [], _ => rfl
  | n :: c, k => by
    unfold letsN
    rw [List.length_append, List.length_replicate, letsN_len, List.sum_cons]
theorem letsN_snoc : ∀ {c : List Nat} {k n : Nat}, letsN k (c ++ [n]) = letsN k c ++ List.replicate n (((k + c.length : Nat)) : Int)
  | [], k, n => by simp [letsN]
  | m :: c, k, n => by
    rw [List.cons_append]
    unfold letsN
    rw [letsN_snoc, List.append_assoc, List.length_cons, show k + 1 + c.length = k + (c.length + 1) by omega]
/-- the letters of the columns -/
def lcsN (T : NT) (c : Nat) : List (List Int) := (colsN T c).map (letsN 0)
/-! member_of -/
def R_member_of (ds : List PyData) (r : PyData) : Prop := ∃ (T : NT) (a b : Nat), ds = [tabN T] ∧ Rect T a b ∧ (∀ k, k < b → (colN T k).sum ≤ 12) ∧ r = memD (lcsN T b)
def sp_member_of (K : PySem.W.Frag) : Sp := SpP R_member_of
def t_member_of (K : PySem.W.Frag) : TS := tSeq (tAsg (tLst (tNil)) (gName 1)) (tSeq (tFor (iRng1 (tCons (tCB (rLen K) (tCons (tOp (rIxT K) (tVar 0) (tC (.int 0))) (tNil))) (tNil))) (gName 2) (tSeq (tAsg (tLst (tNil)) (gName 3)) (tSeq (tFor (iEnumT K (tCons (tCall (sp_column_items K) [] E0 (tCons (tVar 0) (tCons (tVar 2) (tNil)))) (tNil))) (gTup K 2 (gCons (gName 4) (gCons (gName 5) (gNil)))) (tAsg (tOp (rCat) (tVar 3) (tOp (rRep) (tLst (tCons (tVar 4) (tNil))) (tVar 5))) (gName 3))) (tDrop (tBM K "list" rAppend (tVar 1) (tCons (tCB (rTupleFz K) (tCons (tVar 3) (tNil))) (tNil))))))) (tRet (tCall (sp_paired K) [] E0 (tCons (tVar 1) (tCons (tC .non) (tNil))))))
theorem len_member_of {K : PySem.W.Frag} {vs : List V} {H : Hp} {Q : VK} {E : XK} (h : sp_member_of K vs H Q E) : vs.length = 1 := spP_len h fun ds r ⟨_, _, _, e, _⟩ => by rw [e]; rfl
theorem run_member_of (K : PySem.W.Frag) (W : Wd) (n : Nat) (ds : List PyData) (r : PyData) (h : R_member_of ds r) : RunS W (t_member_of K) n (ds.map Slot.d ++ List.replicate (6 - ds.length) .non) (fun o => o = .rt n r) := by
  obtain ⟨T, a, b, rfl, hT, hs, rfl⟩ := h
  have c1 := hT.c1
  have c5 := hT.c5
  refine snew (ef_lstG ea_nil rfl) fun A => ?_
  refine sfor (xs := List.range b) (enc := fun k : Nat => PyData.int (k : Nat)) (f := fun k ss => ss.set 2 (.d (.int (k : Nat)))) (fun i n' ss' => n' = n ∧ ∃ s2 s3 s4 s5, ss' = [.d (tabN T), .own A (((lcsN T b).take i).map ltD), s2, s3, s4, s5] ∧ s3.ow = []) (wk_rn (ea_cons (ep_wid hT (ep_var rfl)) ea_nil) (by omega)) (fun _ _ => tg_name) ⟨rfl, _, _, _, _, rfl, rfl⟩ ?_ ?_
  · rintro i k n _ hi ⟨rfl, s2, s3, s4, s5, rfl, _⟩
    have hk : k = i ∧ i < b := by
      obtain ⟨h1, h2⟩ := List.getElem?_eq_some_iff.mp hi
      rw [List.length_range] at h1
      rw [List.getElem_range] at h2
      exact ⟨h2.symm, h1⟩
    obtain ⟨rfl, hib⟩ := hk
    refine sa (d := .list []) (EvF.p (ef_lstG ea_nil rfl)) ?_
    refine sfor (xs := idx 0 (colN T k)) (enc := fun q => .tuple [.int (q.1 : Nat), .int (q.2 : Nat)]) (f := fun q ss => (ss.set 4 (.d (.int (q.1 : Nat)))).set 5 (.d (.int (q.2 : Nat))))
      (fun j n' ss' => n' = n ∧ ∃ s4 s5, ss' = [.d (tabN T), .own A (((lcsN T b).take k).map ltD), .d (.int (k : Nat)), .d (.list ((letsN 0 ((colN T k).take j)).map .int)), s4, s5]) (by
      have hw := wk_enumT (K := K) (ss := [.d (tabN T), .own A (((lcsN T b).take k).map ltD), .d (.int (k : Nat)), .d (.list []), s4, s5]) (ta := tCons (tCall (sp_column_items K) [] E0 (tCons (tVar 0) (tCons (tVar 2) (tNil)))) (tNil)) (ds := (colN T k).map fun n : Nat => .int (n : Nat)) (ea_cons (ep_call (by walk_at "ev") ⟨T, k, a, b, rfl, hT, hib, rfl⟩) ea_nil)
      rw [enumD_idx] at hw
      exact hw) (fun _ _ => tg_two) ⟨rfl, _, _, rfl⟩ ?_ ?_
    · rintro j ⟨nm, m⟩ n _ hj ⟨rfl, s4, s5, rfl⟩
      obtain ⟨h1, h2⟩ := idx_get hj
      have hnm : nm = j := by simpa using h1
      subst hnm
      have htk := take_snoc h2
      have hm : m ≤ 12 := Nat.le_trans (le_sum m (List.mem_of_getElem? h2)) (hs k hib)
      have hjl : nm < (colN T k).length := (List.getElem?_eq_some_iff.mp h2).1
      have hlen : (letsN 0 ((colN T k).take nm)).length ≤ 12 := by
        rw [letsN_len]
        refine Nat.le_trans ?_ (hs k hib)
        have := List.sum_append (l₁ := (colN T k).take nm) (l₂ := (colN T k).drop nm)
        rw [List.take_append_drop] at this
        omega
      refine rs_asg (d := .list ((letsN 0 ((colN T k).take (nm + 1))).map .int)) (ep_is (ep_op (ep_var rfl) (ep_op (EvF.p (ef_lstG (ea_cons (ep_var rfl) ea_nil) rfl)) (ep_var rfl) (od_rep (by omega) (by omega) (by simp))) (od_cat ?_)) ?_) ⟨rfl, .d (.int (nm : Nat)), .d (.int (m : Nat)), rfl⟩
      · rw [List.length_map, Int.toNat_natCast]
        simp
        omega
      · rw [htk, letsN_snoc, Int.toNat_natCast, List.length_take, Nat.zero_add, Nat.min_eq_left (by omega), List.map_append, List.map_replicate]
        congr 2
        simp
    · rintro n _ ⟨rfl, s4, s5, rfl⟩
      rw [idx_len, List.take_of_length_le (Nat.le_refl _)]
      have hL : ((lcsN T b).map ltD)[k]? = some (ltD (letsN 0 (colN T k))) := by
        unfold lcsN colsN
        rw [List.getElem?_map, List.getElem?_map, List.getElem?_map, List.getElem?_range hib]
        rfl
      have e1 : ((lcsN T b).take (k + 1)).map ltD = ((lcsN T b).take k).map ltD ++ [ltD (letsN 0 (colN T k))] := by
        rw [List.map_take, List.map_take, take_snoc hL]
      refine rs_app (i := 1) (a := A) rfl ?_ (d := ltD (letsN 0 (colN T k))) (ep_cb (by walk_at "ev") ca_tupleFz) ⟨rfl, .d (.int (k : Nat)), .d (.list ((letsN 0 (colN T k)).map .int)), s4, s5, by rw [e1]; rfl, rfl⟩
      rw [List.length_map, List.length_take]
      unfold lcsN colsN
      rw [List.length_map, List.length_map, List.length_range]
      omega
  · rintro n _ ⟨rfl, s2, s3, s4, s5, rfl, _⟩
    have hne : (lcsN T b).map ltD ≠ [] := by
      intro z
      have := congrArg List.length z
      simp [lcsN, colsN] at this
      omega
    obtain ⟨xs, z, e⟩ := snoc_of hne
    have hl : xs.length ≤ 100 := by
      have := congrArg List.length e
      simp [lcsN, colsN] at this
      omega
    have hll : (lcsN T b).length = b := by simp [lcsN, colsN]
    rw [List.length_range, List.take_of_length_le (by rw [hll]; exact Nat.le_refl _)]
    refine rs_freeze (i := 1) rfl (rs_ret (ep_call (by walk_at "ev") ⟨xs, z, none, by rw [e]; rfl, hl, ?_⟩) rfl)
    rw [← e, prs_mem]
theorem pure_member_of {K : PySem.W.Frag} {vs : List V} {H : Hp} {Q : VK} {E : XK} (h : sp_member_of K vs H Q E) : t_member_of K { nx := fun _ H' => Q .non H', rt := Q } (L2.start ["table", "found", "column", "letters", "name", "many"] vs) H := pure_of h fun W n ds r hr => run_member_of K W n ds r hr
section
variable {P : Program} {w : World} {K : PySem.W.Frag} {mg : Str → Option Value} {base : Heap}
abbrev N_member_of : List Str := ["table", "found", "column", "letters", "name", "many"]
theorem sc_member_of : FnScope N_member_of ["table"] (defScope s_member_of) := ⟨rfl, rfl, rfl, by decide +kernel, rfl, by decide +kernel, by decide +kernel⟩
theorem ok_member_of (T : Tx K mg) : ∃ fd, FnOk P w K mg base CX0 2 (He.ga K "member_of") fd ["table"] (sp_member_of K) ∧ Binds K fd ["table"] [] := by
  have nd := sc_member_of.nd
  obtain ⟨_, G_paired, b_paired⟩ := ok_paired (P := P) (w := w) (base := base) T
  obtain ⟨_, G_column_items, b_column_items⟩ := ok_column_items (P := P) (w := w) (base := base) T
  obtain ⟨fd, F⟩ := T.d_member_of
  refine ⟨fd, FunD.ok F sc_member_of (fun vs H Q E h => len_member_of h) (fun cdv A outer s H vs Q E hr h => ⟨t_member_of K, PSs.nox ?_, pure_member_of h⟩), F.bindsN fun _ _ _ _ _ _ us hl => match us, hl with | [_], _ => rfl⟩
  exact pss_cons (ps_set (i := 1) nd rfl (Or.inl rfl) (pe_lst (pa_nil))) (pss_cons (ps_for PassesOwn.never rfl (pi_range1 rfl T.f_range (pa_cons (pe_callB call_len_seq (by rfl) T.f_len (by decide +kernel) (pa_cons (pe_ix ix_tup (pv 0) (pe_int) (fun _ _ => rfl)) (pa_nil))) (pa_nil))) (pg_name (i := 2) nd rfl (Or.inl rfl)) (pss_cons (ps_set (i := 3) nd rfl (Or.inl rfl) (pe_lst (pa_nil))) (pss_cons (ps_for PassesOwn.never rfl (pi_enumT (by rfl) T.f_enumerate (pa_cons (pe_call G_column_items (hr.mono (by omega)) rfl T.g_column_items T.k_column_items b_column_items .nil pass0 (pa_cons (pv 0) (pa_cons (pv 2) (pa_nil)))) (pa_nil))) (pg_tup rfl (pgs_cons (pg_name (i := 4) nd rfl (Or.inl rfl)) (pgs_cons (pg_name (i := 5) nd rfl (Or.inl rfl)) (pgs_nil)))) (pss_one (ps_set (i := 3) nd rfl (Or.inl rfl) (pe_op op_cat (pv 3) (pe_op op_rep (pe_lst (pa_cons (pv 4) (pa_nil))) (pv 5)))))) (pss_one (ps_expr (pe_bm PySem.F.plainAttrs_list PySem.F.slot_list_append PySem.F.type_list_append mt_append (pv 1) (pa_cons (pe_callTy call_tupleFz (by rfl) T.f_tuple (by decide +kernel) (pa_cons (pv 3) (pa_nil))) (pa_nil)))))))) (pss_one (ps_ret (pe_call G_paired (hr.mono (by omega)) rfl T.g_paired T.k_paired b_paired .nil pass0 (pa_cons (pv 1) (pa_cons (pe_non) (pa_nil)))))))
end
end Uh

set_option Elab.async false
set_option linter.all false
set_option maxRecDepth 100000
set_option maxHeartbeats 200000
namespace Uh
open PySem PySem.Spec PyProof.Rows L2
open Evl (Ex)
local macro_rules | `(tactic| walk_at "ev") => `(tactic| repeat (first
  | with_reducible exact ep_var rfl | with_reducible exact ep_int | with_reducible exact ep_bl | with_reducible exact ep_non | with_reducible exact ep_str
  | with_reducible exact ea_nil | with_reducible apply ea_cons | with_reducible apply ep_tupG | with_reducible apply ef_lstG | with_reducible exact et_yes
  | with_reducible apply ca_isiG | with_reducible exact kit_tuple _ | with_reducible exact kit_int _ | with_reducible exact kit_bool _ | with_reducible exact kit_str _
  | with_reducible apply et_test | with_reducible apply et_b | with_reducible apply et_not | with_reducible apply et_orG | with_reducible apply et_andG
  | with_reducible apply ep_orG | with_reducible apply ep_andG | with_reducible apply ep_notV | with_reducible apply ep_chainG
  | with_reducible apply ep_inG | with_reducible apply ep_op | with_reducible apply ep_un | with_reducible apply ep_cb
  | with_reducible exact od_i | with_reducible exact od_b | with_reducible exact od_eqI | with_reducible exact od_neI | with_reducible exact od_eqS | with_reducible exact od_eqB | with_reducible exact od_isN | with_reducible exact od_notN | with_reducible exact ud_i
  | with_reducible exact od_ixT at3_0 | with_reducible exact od_ixT at3_1 | with_reducible exact od_ixT at3_2 | with_reducible exact od_ixT at2_0 | with_reducible exact od_ixT at2_1 | with_reducible exact od_ixT at1_0
  | with_reducible apply od_catA | (with_reducible show _ + _ ≤ 100000; first | omega | (simp; done) | (simp; omega))
  | with_reducible exact ca_lenT | with_reducible exact ca_lenL
  | exact (show allS _ = true from rfl) | exact (show Nat.ble _ 100000 = true from rfl)))
/-- the table of some letters -/
def tabOf (k : Nat) (cs : List (List Int)) : NT := (List.range k).map fun nm => cs.map fun c => c.count ((nm : Nat) : Int)
theorem memD_drop {cs : List (List Int)} {i : Nat} {c d : List Int} (h1 : cs[i]? = some c) (h2 : i + 1 < cs.length) : memD (cs.drop i) = .tuple [ltD c, memD (cs.drop (i + 1))] := by
  have e : cs.drop i = c :: cs.drop (i + 1) := by
    obtain ⟨hi, hv⟩ := List.getElem?_eq_some_iff.mp h1
    rw [List.drop_eq_getElem_cons hi, hv]
  rw [e, memD_cons]
  intro z
  have := congrArg List.length z
  simp at this
  omega
/-! table_of -/
def R_table_of (ds : List PyData) (r : PyData) : Prop := ∃ (k : Nat) (cs : List (List Int)), ds = [.int (k : Nat), .int (cs.length : Nat), memD cs] ∧ cs ≠ [] ∧ cs.length ≤ 5 ∧ k ≤ 5 ∧ r = tabN (tabOf k cs)
def sp_table_of (K : PySem.W.Frag) : Sp := SpP R_table_of
def t_table_of (K : PySem.W.Frag) : TS := tSeq (tAsg (tLst (tNil)) (gName 3)) (tSeq (tAsg (tVar 2) (gName 4)) (tSeq (tFor (iRng1 (tCons (tOp (rI0 fun i j => .int (i - j)) (tVar 1) (tC (.int 1))) (tNil))) (gName 5) (tSeq (tDrop (tBM K "list" rAppend (tVar 3) (tCons (tOp (rIxT K) (tVar 4) (tC (.int 0))) (tNil)))) (tAsg (tOp (rIxT K) (tVar 4) (tC (.int 1))) (gName 4)))) (tSeq (tDrop (tBM K "list" rAppend (tVar 3) (tCons (tVar 4) (tNil)))) (tRet (tCB (rTupleOf K) (tCons (tLc (iRng1 (tCons (tVar 0) (tNil))) (gName 6) (tYes) (tCB (rTupleOf K) (tCons (tLc (iList K (tVar 3)) (gName 7) (tYes) (tTM K (rTCnt K) (tVar 7) (tCons (tVar 6) (tNil))) [7]) (tNil))) [6]) (tNil)))))))
theorem len_table_of {K : PySem.W.Frag} {vs : List V} {H : Hp} {Q : VK} {E : XK} (h : sp_table_of K vs H Q E) : vs.length = 3 := spP_len h fun ds r ⟨_, _, e, _⟩ => by rw [e]; rfl
theorem run_table_of (K : PySem.W.Frag) (W : Wd) (n : Nat) (ds : List PyData) (r : PyData) (h : R_table_of ds r) : RunS W (t_table_of K) n (ds.map Slot.d ++ List.replicate (8 - ds.length) .non) (fun o => o = .rt n r) := by
  obtain ⟨k, cs, rfl, hne, hl, hk, rfl⟩ := h
  have hp : 0 < cs.length := List.length_pos_iff.mpr hne
  refine snew (ef_lstG ea_nil rfl) fun A => ?_
  refine sa (by walk_at "ev") ?_
  refine sfor (xs := List.range (cs.length - 1)) (enc := fun k : Nat => PyData.int (k : Nat)) (f := fun k ss => ss.set 5 (.d (.int (k : Nat)))) (fun i n' ss' => n' = n ∧ i ≤ cs.length - 1 ∧ ∃ s5 s6 s7, ss' = [.d (.int (k : Nat)), .d (.int (cs.length : Nat)), .d (memD cs), .own A ((cs.take i).map ltD), .d (memD (cs.drop i)), s5, s6, s7])
    (wk_rn (ea_cons (ep_is (by walk_at "ev") (by congr 1; omega)) ea_nil) (by omega)) (fun _ _ => tg_name) ⟨rfl, Nat.zero_le _, _, _, _, rfl⟩ ?_ ?_
  · rintro i j n _ hi ⟨rfl, hil, s5, s6, s7, rfl⟩
    have hj : j = i ∧ i < cs.length - 1 := by
      obtain ⟨h1, h2⟩ := List.getElem?_eq_some_iff.mp hi
      rw [List.length_range] at h1
      rw [List.getElem_range] at h2
      exact ⟨h2.symm, h1⟩
    obtain ⟨rfl, hj⟩ := hj
    have hc : cs[j]? = some cs[j] := by simp
    have hm : memD (cs.drop j) = .tuple [ltD cs[j], memD (cs.drop (j + 1))] := memD_drop (d := []) hc (by omega)
    have e1 : (cs.take (j + 1)).map ltD = (cs.take j).map ltD ++ [ltD cs[j]] := by
      rw [take_snoc hc, List.map_append]
      rfl
    rw [hm]
    refine sapp (i := 3) (a := A) rfl (by rw [List.length_map, List.length_take]; omega) (d := ltD cs[j]) (by walk_at "ev") ?_
    refine rs_asg (d := memD (cs.drop (j + 1))) (by walk_at "ev") ⟨rfl, by omega, .d (.int (j : Nat)), s6, s7, by rw [e1]; rfl⟩
  · rintro n _ ⟨rfl, _, s5, s6, s7, rfl⟩
    rw [List.length_range]
    have hc : cs[cs.length - 1]? = some cs[cs.length - 1] := by simp
    have hd : memD (cs.drop (cs.length - 1)) = ltD cs[cs.length - 1] := by
      have e : cs.drop (cs.length - 1) = [cs[cs.length - 1]] := by
        rw [List.drop_eq_getElem_cons (by omega), List.drop_of_length_le (by omega)]
      rw [e]
      rfl
    have e1 : (cs.take (cs.length - 1)).map ltD ++ [ltD cs[cs.length - 1]] = cs.map ltD := by
      have := take_snoc hc
      rw [show cs.length - 1 + 1 = cs.length by omega, List.take_of_length_le (Nat.le_refl _)] at this
      exact ((congrArg (List.map ltD) this).trans (by rw [List.map_append]; rfl)).symm
    rw [hd]
    refine sapp (i := 3) (a := A) rfl (by rw [List.length_map, List.length_take]; omega) (d := ltD cs[cs.length - 1]) (by walk_at "ev") ?_
    rw [e1]
    refine rs_freeze (i := 3) rfl ?_
    refine rs_ret (ep_is (ep_cb (ea_cons (EvF.p (ef_map (xs := List.range k) (enc := fun k : Nat => PyData.int (k : Nat)) (f := fun k ss => ss.set 6 (.d (.int (k : Nat)))) (fun nm => rowN (cs.map fun c => c.count ((nm : Nat) : Int))) (wk_rn (by walk_at "ev") (by omega)) (by rw [List.length_range]; omega) (fun _ _ => tc_name)
      fun nm _ => ep_is (ep_cb (ea_cons (EvF.p (ef_map (xs := cs) (enc := ltD) (f := fun c ss => ss.set 7 (.d (ltD c))) (fun c => .int (c.count ((nm : Nat) : Int) : Nat)) (wk_list (ep_var rfl)) (by omega) (fun _ _ => tc_name) fun c _ => ep_count (ep_var rfl) (ep_var rfl))) ea_nil) ca_tuple) (by unfold rowN; rw [List.map_map]; rfl))) ea_nil) ca_tuple) ?_) rfl
    unfold tabN tabOf
    rw [List.map_map]
    rfl
theorem pure_table_of {K : PySem.W.Frag} {vs : List V} {H : Hp} {Q : VK} {E : XK} (h : sp_table_of K vs H Q E) : t_table_of K { nx := fun _ H' => Q .non H', rt := Q } (L2.start ["many", "width", "member", "columns", "left", "step", "name", "column"] vs) H := pure_of h fun W n ds r hr => run_table_of K W n ds r hr
section
variable {P : Program} {w : World} {K : PySem.W.Frag} {mg : Str → Option Value} {base : Heap}
abbrev N_table_of : List Str := ["many", "width", "member", "columns", "left", "step", "name", "column"]
theorem sc_table_of : FnScope N_table_of ["many", "width", "member"] (defScope s_table_of) := ⟨rfl, rfl, rfl, by decide +kernel, rfl, by decide +kernel, by decide +kernel⟩
theorem ok_table_of (T : Tx K mg) : ∃ fd, FnOk P w K mg base CX0 1 (He.ga K "table_of") fd ["many", "width", "member"] (sp_table_of K) ∧ Binds K fd ["many", "width", "member"] [] := by
  have nd := sc_table_of.nd
  obtain ⟨fd, F⟩ := T.d_table_of
  refine ⟨fd, FunD.ok F sc_table_of (fun vs H Q E h => len_table_of h) (fun cdv A outer s H vs Q E hr h => ⟨t_table_of K, PSs.nox ?_, pure_table_of h⟩), F.bindsN fun _ _ _ _ _ _ us hl => match us, hl with | [_, _, _], _ => rfl⟩
  exact pss_cons (ps_set (i := 3) nd rfl (Or.inr rfl) (pe_lst (pa_nil))) (pss_cons (ps_set (i := 4) nd rfl (Or.inl rfl) (pv 2)) (pss_cons (ps_for PassesOwn.never rfl (pi_range1 rfl T.f_range (pa_cons (pe_op op_sub (pv 1) (pe_int)) (pa_nil))) (pg_name (i := 5) nd rfl (Or.inl rfl)) (pss_cons (ps_expr (pe_bm PySem.F.plainAttrs_list PySem.F.slot_list_append PySem.F.type_list_append mt_append (pv 3) (pa_cons (pe_ix ix_tup (pv 4) (pe_int) (fun _ _ => rfl)) (pa_nil)))) (pss_one (ps_set (i := 4) nd rfl (Or.inl rfl) (pe_ix ix_tup (pv 4) (pe_int) (fun _ _ => rfl)))))) (pss_cons (ps_expr (pe_bm PySem.F.plainAttrs_list PySem.F.slot_list_append PySem.F.type_list_append mt_append (pv 3) (pa_cons (pv 4) (pa_nil)))) (pss_one (ps_ret (pe_callTy call_tuple_of (by rfl) T.f_tuple (by decide +kernel) (pa_cons (pe_lc (own := [(("name" : Str), 6)]) rfl nd (pi_range1 rfl T.f_range (pa_cons (pv 0) (pa_nil))) (blkOk_by (N := N_table_of) (sc := defScope s_table_of) (by decide +kernel)) (fun _ _ _ _ _ => pg_name (i := 6) nd rfl (Or.inr rfl)) (fun _ _ _ _ _ => pts_nil) (fun _ _ _ _ _ => pe_callTy call_tuple_of (by rfl) T.f_tuple (by decide +kernel) (pa_cons (pe_lc (own := [(("column" : Str), 7)]) rfl nd (pi_list (pv 3)) (blkOk_by (N := N_table_of) (sc := { kind := .function, names := [(".0", .local), ("name", .cell), ("tuple", .globalImplicit), ("columns", .cell)], isGenerator := false, isCoroutine := false }) (by decide +kernel)) (fun _ _ _ _ _ => pg_name (i := 7) nd rfl (Or.inl rfl)) (fun _ _ _ _ _ => pts_nil) (fun _ _ _ _ _ => pe_tm PySem.F.plainAttrs_tuple PySem.F.slot_tuple_count PySem.F.type_tuple_count mt_tup_countI (pv 7) (pa_cons (pv 6) (pa_nil)))) (pa_nil)))) (pa_nil))))))))
end
/-! quarter_rows -/
def R_quarter_rows (ds : List PyData) (r : PyData) : Prop := ∃ (T : NT) (a b : Nat), ds = [tabN T] ∧ Rect T a b ∧ r = tabN ((colsN T b).map List.reverse)
def sp_quarter_rows (K : PySem.W.Frag) : Sp := SpP R_quarter_rows
def t_quarter_rows (K : PySem.W.Frag) : TS := tRet (tCB (rTupleOf K) (tCons (tLc (iRng1 (tCons (tCB (rLen K) (tCons (tOp (rIxT K) (tVar 0) (tC (.int 0))) (tNil))) (tNil))) (gName 1) (tYes) (tRevT K (tCall (sp_column_items K) [] E0 (tCons (tVar 0) (tCons (tVar 1) (tNil))))) [1]) (tNil)))
theorem len_quarter_rows {K : PySem.W.Frag} {vs : List V} {H : Hp} {Q : VK} {E : XK} (h : sp_quarter_rows K vs H Q E) : vs.length = 1 := spP_len h fun ds r ⟨_, _, _, e, _⟩ => by rw [e]; rfl
theorem run_quarter_rows (K : PySem.W.Frag) (W : Wd) (n : Nat) (ds : List PyData) (r : PyData) (h : R_quarter_rows ds r) : RunS W (t_quarter_rows K) n (ds.map Slot.d ++ List.replicate (2 - ds.length) .non) (fun o => o = .rt n r) := by
  obtain ⟨T, a, b, rfl, hT, rfl⟩ := h
  have c5 := hT.c5
  refine rs_ret (ep_is (ep_cb (ea_cons (EvF.p (ef_map (xs := List.range b) (enc := fun k : Nat => PyData.int (k : Nat)) (f := fun k ss => ss.set 1 (.d (.int (k : Nat)))) (fun k => rowN (colN T k).reverse) (wk_rn (ea_cons (ep_wid hT (ep_var rfl)) ea_nil) (by omega)) (by rw [List.length_range]; omega) (fun _ _ => tc_name)
    fun k hk => ep_is (ep_revT (ep_is (ep_call (by walk_at "ev") ⟨T, k, a, b, rfl, hT, List.mem_range.mp hk, rfl⟩) (by unfold rowN; rfl))) (by unfold rowN; rw [List.map_reverse]))) ea_nil) ca_tuple) ?_) rfl
  unfold tabN colsN
  rw [List.map_map, List.map_map]
  rfl
theorem pure_quarter_rows {K : PySem.W.Frag} {vs : List V} {H : Hp} {Q : VK} {E : XK} (h : sp_quarter_rows K vs H Q E) : t_quarter_rows K { nx := fun _ H' => Q .non H', rt := Q } (L2.start ["table", "column"] vs) H := pure_of h fun W n ds r hr => run_quarter_rows K W n ds r hr
section
variable {P : Program} {w : World} {K : PySem.W.Frag} {mg : Str → Option Value} {base : Heap}
abbrev N_quarter_rows : List Str := ["table", "column"]
theorem sc_quarter_rows : FnScope N_quarter_rows ["table"] (defScope s_quarter_rows) := ⟨rfl, rfl, rfl, by decide +kernel, rfl, by decide +kernel, by decide +kernel⟩
theorem ok_quarter_rows (T : Tx K mg) : ∃ fd, FnOk P w K mg base CX0 2 (He.ga K "quarter_rows") fd ["table"] (sp_quarter_rows K) ∧ Binds K fd ["table"] [] := by
  have nd := sc_quarter_rows.nd
  obtain ⟨_, G_column_items, b_column_items⟩ := ok_column_items (P := P) (w := w) (base := base) T
  obtain ⟨fd, F⟩ := T.d_quarter_rows
  refine ⟨fd, FunD.ok F sc_quarter_rows (fun vs H Q E h => len_quarter_rows h) (fun cdv A outer s H vs Q E hr h => ⟨t_quarter_rows K, PSs.nox ?_, pure_quarter_rows h⟩), F.bindsN fun _ _ _ _ _ _ us hl => match us, hl with | [_], _ => rfl⟩
  exact pss_one (ps_ret (pe_callTy call_tuple_of (by rfl) T.f_tuple (by decide +kernel) (pa_cons (pe_lc (own := [(("column" : Str), 1)]) rfl nd (pi_range1 rfl T.f_range (pa_cons (pe_callB call_len_seq (by rfl) T.f_len (by decide +kernel) (pa_cons (pe_ix ix_tup (pv 0) (pe_int) (fun _ _ => rfl)) (pa_nil))) (pa_nil))) (blkOk_by (N := N_quarter_rows) (sc := defScope s_quarter_rows) (by decide +kernel)) (fun _ _ _ _ _ => pg_name (i := 1) nd rfl (Or.inl rfl)) (fun _ _ _ _ _ => pts_nil) (fun _ _ _ _ _ => pe_revT (pe_call G_column_items (hr.mono (by omega)) rfl T.g_column_items T.k_column_items b_column_items .nil pass0 (pa_cons (pv 0) (pa_cons (pv 1) (pa_nil)))))) (pa_nil))))
end
/-! quarter_rows_back -/
def R_quarter_rows_back (ds : List PyData) (r : PyData) : Prop := ∃ (T : NT) (a b : Nat), ds = [tabN T] ∧ Rect T a b ∧ r = tabN (colsN T b).reverse
def sp_quarter_rows_back (K : PySem.W.Frag) : Sp := SpP R_quarter_rows_back
def t_quarter_rows_back (K : PySem.W.Frag) : TS := tRet (tCB (rTupleOf K) (tCons (tLc (iRevR (tRg1 (tCB (rLen K) (tCons (tOp (rIxT K) (tVar 0) (tC (.int 0))) (tNil))))) (gName 1) (tYes) (tCall (sp_column_items K) [] E0 (tCons (tVar 0) (tCons (tVar 1) (tNil)))) [1]) (tNil)))
theorem len_quarter_rows_back {K : PySem.W.Frag} {vs : List V} {H : Hp} {Q : VK} {E : XK} (h : sp_quarter_rows_back K vs H Q E) : vs.length = 1 := spP_len h fun ds r ⟨_, _, _, e, _⟩ => by rw [e]; rfl
theorem run_quarter_rows_back (K : PySem.W.Frag) (W : Wd) (n : Nat) (ds : List PyData) (r : PyData) (h : R_quarter_rows_back ds r) : RunS W (t_quarter_rows_back K) n (ds.map Slot.d ++ List.replicate (2 - ds.length) .non) (fun o => o = .rt n r) := by
  obtain ⟨T, a, b, rfl, hT, rfl⟩ := h
  have c5 := hT.c5
  refine rs_ret (ep_is (ep_cb (ea_cons (EvF.p (ef_map (xs := (List.range b).reverse) (enc := fun k : Nat => PyData.int (k : Nat)) (f := fun k ss => ss.set 1 (.d (.int (k : Nat)))) (fun k => rowN (colN T k)) (wk_rrn (ep_wid hT (ep_var rfl)) (by omega)) (by rw [List.length_reverse, List.length_range]; omega) (fun _ _ => tc_name)
    fun k hk => ep_call (by walk_at "ev") ⟨T, k, a, b, rfl, hT, List.mem_range.mp (List.mem_reverse.mp hk), rfl⟩)) ea_nil) ca_tuple) ?_) rfl
  unfold tabN colsN
  rw [← List.map_reverse, List.map_map]
  rfl
theorem pure_quarter_rows_back {K : PySem.W.Frag} {vs : List V} {H : Hp} {Q : VK} {E : XK} (h : sp_quarter_rows_back K vs H Q E) : t_quarter_rows_back K { nx := fun _ H' => Q .non H', rt := Q } (L2.start ["table", "column"] vs) H := pure_of h fun W n ds r hr => run_quarter_rows_back K W n ds r hr
section
variable {P : Program} {w : World} {K : PySem.W.Frag} {mg : Str → Option Value} {base : Heap}
abbrev N_quarter_rows_back : List Str := ["table", "column"]
theorem sc_quarter_rows_back : FnScope N_quarter_rows_back ["table"] (defScope s_quarter_rows_back) := ⟨rfl, rfl, rfl, by decide +kernel, rfl, by decide +kernel, by decide +kernel⟩
theorem ok_quarter_rows_back (T : Tx K mg) : ∃ fd, FnOk P w K mg base CX0 2 (He.ga K "quarter_rows_back") fd ["table"] (sp_quarter_rows_back K) ∧ Binds K fd ["table"] [] := by
  have nd := sc_quarter_rows_back.nd
  obtain ⟨_, G_column_items, b_column_items⟩ := ok_column_items (P := P) (w := w) (base := base) T
  obtain ⟨fd, F⟩ := T.d_quarter_rows_back
  refine ⟨fd, FunD.ok F sc_quarter_rows_back (fun vs H Q E h => len_quarter_rows_back h) (fun cdv A outer s H vs Q E hr h => ⟨t_quarter_rows_back K, PSs.nox ?_, pure_quarter_rows_back h⟩), F.bindsN fun _ _ _ _ _ _ us hl => match us, hl with | [_], _ => rfl⟩
  exact pss_one (ps_ret (pe_callTy call_tuple_of (by rfl) T.f_tuple (by decide +kernel) (pa_cons (pe_lc (own := [(("column" : Str), 1)]) rfl nd (pi_revR rfl T.f_reversed (prg_1 rfl T.f_range (pe_callB call_len_seq (by rfl) T.f_len (by decide +kernel) (pa_cons (pe_ix ix_tup (pv 0) (pe_int) (fun _ _ => rfl)) (pa_nil))))) (blkOk_by (N := N_quarter_rows_back) (sc := defScope s_quarter_rows_back) (by decide +kernel)) (fun _ _ _ _ _ => pg_name (i := 1) nd rfl (Or.inl rfl)) (fun _ _ _ _ _ => pts_nil) (fun _ _ _ _ _ => pe_call G_column_items (hr.mono (by omega)) rfl T.g_column_items T.k_column_items b_column_items .nil pass0 (pa_cons (pv 0) (pa_cons (pv 1) (pa_nil))))) (pa_nil))))
end
/-! transposed_rows -/
def R_transposed_rows (ds : List PyData) (r : PyData) : Prop := ∃ (T : NT) (a b : Nat), ds = [tabN T] ∧ Rect T a b ∧ r = tabN (colsN T b)
def sp_transposed_rows (K : PySem.W.Frag) : Sp := SpP R_transposed_rows
def t_transposed_rows (K : PySem.W.Frag) : TS := tRet (tCB (rTupleOf K) (tCons (tLc (iRng1 (tCons (tCB (rLen K) (tCons (tOp (rIxT K) (tVar 0) (tC (.int 0))) (tNil))) (tNil))) (gName 1) (tYes) (tCall (sp_column_items K) [] E0 (tCons (tVar 0) (tCons (tVar 1) (tNil)))) [1]) (tNil)))
theorem len_transposed_rows {K : PySem.W.Frag} {vs : List V} {H : Hp} {Q : VK} {E : XK} (h : sp_transposed_rows K vs H Q E) : vs.length = 1 := spP_len h fun ds r ⟨_, _, _, e, _⟩ => by rw [e]; rfl
theorem run_transposed_rows (K : PySem.W.Frag) (W : Wd) (n : Nat) (ds : List PyData) (r : PyData) (h : R_transposed_rows ds r) : RunS W (t_transposed_rows K) n (ds.map Slot.d ++ List.replicate (2 - ds.length) .non) (fun o => o = .rt n r) := by
  obtain ⟨T, a, b, rfl, hT, rfl⟩ := h
  have c5 := hT.c5
  refine rs_ret (ep_is (ep_cb (ea_cons (EvF.p (ef_map (xs := List.range b) (enc := fun k : Nat => PyData.int (k : Nat)) (f := fun k ss => ss.set 1 (.d (.int (k : Nat)))) (fun k => rowN (colN T k)) (wk_rn (ea_cons (ep_wid hT (ep_var rfl)) ea_nil) (by omega)) (by rw [List.length_range]; omega) (fun _ _ => tc_name)
    fun k hk => ep_call (by walk_at "ev") ⟨T, k, a, b, rfl, hT, List.mem_range.mp hk, rfl⟩)) ea_nil) ca_tuple) ?_) rfl
  unfold tabN colsN
  rw [List.map_map]
  rfl
theorem pure_transposed_rows {K : PySem.W.Frag} {vs : List V} {H : Hp} {Q : VK} {E : XK} (h : sp_transposed_rows K vs H Q E) : t_transposed_rows K { nx := fun _ H' => Q .non H', rt := Q } (L2.start ["table", "column"] vs) H := pure_of h fun W n ds r hr => run_transposed_rows K W n ds r hr
section
variable {P : Program} {w : World} {K : PySem.W.Frag} {mg : Str → Option Value} {base : Heap}
abbrev N_transposed_rows : List Str := ["table", "column"]
theorem sc_transposed_rows : FnScope N_transposed_rows ["table"] (defScope s_transposed_rows) := ⟨rfl, rfl, rfl, by decide +kernel, rfl, by decide +kernel, by decide +kernel⟩
theorem ok_transposed_rows (T : Tx K mg) : ∃ fd, FnOk P w K mg base CX0 2 (He.ga K "transposed_rows") fd ["table"] (sp_transposed_rows K) ∧ Binds K fd ["table"] [] := by
  have nd := sc_transposed_rows.nd
  obtain ⟨_, G_column_items, b_column_items⟩ := ok_column_items (P := P) (w := w) (base := base) T
  obtain ⟨fd, F⟩ := T.d_transposed_rows
  refine ⟨fd, FunD.ok F sc_transposed_rows (fun vs H Q E h => len_transposed_rows h) (fun cdv A outer s H vs Q E hr h => ⟨t_transposed_rows K, PSs.nox ?_, pure_transposed_rows h⟩), F.bindsN fun _ _ _ _ _ _ us hl => match us, hl with | [_], _ => rfl⟩
  exact pss_one (ps_ret (pe_callTy call_tuple_of (by rfl) T.f_tuple (by decide +kernel) (pa_cons (pe_lc (own := [(("column" : Str), 1)]) rfl nd (pi_range1 rfl T.f_range (pa_cons (pe_callB call_len_seq (by rfl) T.f_len (by decide +kernel) (pa_cons (pe_ix ix_tup (pv 0) (pe_int) (fun _ _ => rfl)) (pa_nil))) (pa_nil))) (blkOk_by (N := N_transposed_rows) (sc := defScope s_transposed_rows) (by decide +kernel)) (fun _ _ _ _ _ => pg_name (i := 1) nd rfl (Or.inl rfl)) (fun _ _ _ _ _ => pts_nil) (fun _ _ _ _ _ => pe_call G_column_items (hr.mono (by omega)) rfl T.g_column_items T.k_column_items b_column_items .nil pass0 (pa_cons (pv 0) (pa_cons (pv 1) (pa_nil))))) (pa_nil))))
end
/-- the crossed table; back -/
def crN (sg : Bool) (T : NT) (b : Nat) : NT := if sg then (colsN T b).map List.reverse else colsN T b
def cbN (sg : Bool) (T : NT) (b : Nat) : NT := if sg then (colsN T b).reverse else colsN T b
/-! crossed -/
def R_crossed (ds : List PyData) (r : PyData) : Prop := ∃ (T : NT) (sg : Bool) (a b : Nat), ds = [tabN T, .bool sg] ∧ Rect T a b ∧ r = tabN (crN sg T b)
def sp_crossed (K : PySem.W.Frag) : Sp := SpP R_crossed
def t_crossed (K : PySem.W.Frag) : TS := tRet (tIf (tB (tVar 1)) (tCall (sp_quarter_rows K) [] E0 (tCons (tVar 0) (tNil))) (tCall (sp_transposed_rows K) [] E0 (tCons (tVar 0) (tNil))))
theorem len_crossed {K : PySem.W.Frag} {vs : List V} {H : Hp} {Q : VK} {E : XK} (h : sp_crossed K vs H Q E) : vs.length = 2 := spP_len h fun ds r ⟨_, _, _, _, e, _⟩ => by rw [e]; rfl
theorem run_crossed (K : PySem.W.Frag) (W : Wd) (n : Nat) (ds : List PyData) (r : PyData) (h : R_crossed ds r) : RunS W (t_crossed K) n (ds.map Slot.d ++ List.replicate (2 - ds.length) .non) (fun o => o = .rt n r) := by
  obtain ⟨T, sg, a, b, rfl, hT, rfl⟩ := h
  cases sg with
  | true => exact rs_ret (ep_ifT (by walk_at "ev") (ep_call (by walk_at "ev") ⟨T, a, b, rfl, hT, rfl⟩)) rfl
  | false => exact rs_ret (ep_ifF (by walk_at "ev") (ep_call (by walk_at "ev") ⟨T, a, b, rfl, hT, rfl⟩)) rfl
theorem pure_crossed {K : PySem.W.Frag} {vs : List V} {H : Hp} {Q : VK} {E : XK} (h : sp_crossed K vs H Q E) : t_crossed K { nx := fun _ H' => Q .non H', rt := Q } (L2.start ["table", "sign"] vs) H := pure_of h fun W n ds r hr => run_crossed K W n ds r hr
section
variable {P : Program} {w : World} {K : PySem.W.Frag} {mg : Str → Option Value} {base : Heap}
abbrev N_crossed : List Str := ["table", "sign"]
theorem sc_crossed : FnScope N_crossed ["table", "sign"] (defScope s_crossed) := ⟨rfl, rfl, rfl, by decide +kernel, rfl, by decide +kernel, by decide +kernel⟩
theorem ok_crossed (T : Tx K mg) : ∃ fd, FnOk P w K mg base CX0 3 (He.ga K "crossed") fd ["table", "sign"] (sp_crossed K) ∧ Binds K fd ["table", "sign"] [] := by
  have nd := sc_crossed.nd
  obtain ⟨_, G_quarter_rows, b_quarter_rows⟩ := ok_quarter_rows (P := P) (w := w) (base := base) T
  obtain ⟨_, G_transposed_rows, b_transposed_rows⟩ := ok_transposed_rows (P := P) (w := w) (base := base) T
  obtain ⟨fd, F⟩ := T.d_crossed
  refine ⟨fd, FunD.ok F sc_crossed (fun vs H Q E h => len_crossed h) (fun cdv A outer s H vs Q E hr h => ⟨t_crossed K, PSs.nox ?_, pure_crossed h⟩), F.bindsN fun _ _ _ _ _ _ us hl => match us, hl with | [_, _], _ => rfl⟩
  exact pss_one (ps_ret (pe_ifExp (pt_val (pv 1)) (pe_call G_quarter_rows (hr.mono (by omega)) rfl T.g_quarter_rows T.k_quarter_rows b_quarter_rows .nil pass0 (pa_cons (pv 0) (pa_nil))) (pe_call G_transposed_rows (hr.mono (by omega)) rfl T.g_transposed_rows T.k_transposed_rows b_transposed_rows .nil pass0 (pa_cons (pv 0) (pa_nil)))))
end
/-! crossed_back -/
def R_crossed_back (ds : List PyData) (r : PyData) : Prop := ∃ (T : NT) (sg : Bool) (a b : Nat), ds = [tabN T, .bool sg] ∧ Rect T a b ∧ r = tabN (cbN sg T b)
def sp_crossed_back (K : PySem.W.Frag) : Sp := SpP R_crossed_back
def t_crossed_back (K : PySem.W.Frag) : TS := tRet (tIf (tB (tVar 1)) (tCall (sp_quarter_rows_back K) [] E0 (tCons (tVar 0) (tNil))) (tCall (sp_transposed_rows K) [] E0 (tCons (tVar 0) (tNil))))
theorem len_crossed_back {K : PySem.W.Frag} {vs : List V} {H : Hp} {Q : VK} {E : XK} (h : sp_crossed_back K vs H Q E) : vs.length = 2 := spP_len h fun ds r ⟨_, _, _, _, e, _⟩ => by rw [e]; rfl
theorem run_crossed_back (K : PySem.W.Frag) (W : Wd) (n : Nat) (ds : List PyData) (r : PyData) (h : R_crossed_back ds r) : RunS W (t_crossed_back K) n (ds.map Slot.d ++ List.replicate (2 - ds.length) .non) (fun o => o = .rt n r) := by
  obtain ⟨T, sg, a, b, rfl, hT, rfl⟩ := h
  cases sg with
  | true => exact rs_ret (ep_ifT (by walk_at "ev") (ep_call (by walk_at "ev") ⟨T, a, b, rfl, hT, rfl⟩)) rfl
  | false => exact rs_ret (ep_ifF (by walk_at "ev") (ep_call (by walk_at "ev") ⟨T, a, b, rfl, hT, rfl⟩)) rfl
theorem pure_crossed_back {K : PySem.W.Frag} {vs : List V} {H : Hp} {Q : VK} {E : XK} (h : sp_crossed_back K vs H Q E) : t_crossed_back K { nx := fun _ H' => Q .non H', rt := Q } (L2.start ["table", "sign"] vs) H := pure_of h fun W n ds r hr => run_crossed_back K W n ds r hr
section
variable {P : Program} {w : World} {K : PySem.W.Frag} {mg : Str → Option Value} {base : Heap}
abbrev N_crossed_back : List Str := ["table", "sign"]
theorem sc_crossed_back : FnScope N_crossed_back ["table", "sign"] (defScope s_crossed_back) := ⟨rfl, rfl, rfl, by decide +kernel, rfl, by decide +kernel, by decide +kernel⟩
theorem ok_crossed_back (T : Tx K mg) : ∃ fd, FnOk P w K mg base CX0 3 (He.ga K "crossed_back") fd ["table", "sign"] (sp_crossed_back K) ∧ Binds K fd ["table", "sign"] [] := by
  have nd := sc_crossed_back.nd
  obtain ⟨_, G_quarter_rows_back, b_quarter_rows_back⟩ := ok_quarter_rows_back (P := P) (w := w) (base := base) T
  obtain ⟨_, G_transposed_rows, b_transposed_rows⟩ := ok_transposed_rows (P := P) (w := w) (base := base) T
  obtain ⟨fd, F⟩ := T.d_crossed_back
  refine ⟨fd, FunD.ok F sc_crossed_back (fun vs H Q E h => len_crossed_back h) (fun cdv A outer s H vs Q E hr h => ⟨t_crossed_back K, PSs.nox ?_, pure_crossed_back h⟩), F.bindsN fun _ _ _ _ _ _ us hl => match us, hl with | [_, _], _ => rfl⟩
  exact pss_one (ps_ret (pe_ifExp (pt_val (pv 1)) (pe_call G_quarter_rows_back (hr.mono (by omega)) rfl T.g_quarter_rows_back T.k_quarter_rows_back b_quarter_rows_back .nil pass0 (pa_cons (pv 0) (pa_nil))) (pe_call G_transposed_rows (hr.mono (by omega)) rfl T.g_transposed_rows T.k_transposed_rows b_transposed_rows .nil pass0 (pa_cons (pv 0) (pa_nil)))))
end
end Uh

set_option Elab.async false
set_option linter.all false
set_option maxRecDepth 100000
set_option maxHeartbeats 200000
namespace Uh
open PySem PySem.Spec PyProof.Rows L2
open Evl (Ex)
local macro_rules | `(tactic| walk_at "ev") => `(tactic| repeat (first
  | with_reducible exact ep_var rfl | with_reducible exact ep_int | with_reducible exact ep_bl | with_reducible exact ep_non | with_reducible exact ep_str
  | with_reducible exact ea_nil | with_reducible apply ea_cons | with_reducible apply ep_tupG | with_reducible apply ef_lstG | with_reducible exact et_yes
  | with_reducible apply ca_isiG | with_reducible exact kit_tuple _ | with_reducible exact kit_int _ | with_reducible exact kit_bool _ | with_reducible exact kit_str _
  | with_reducible apply et_test | with_reducible apply et_b | with_reducible apply et_not | with_reducible apply et_orG | with_reducible apply et_andG
  | with_reducible apply ep_orG | with_reducible apply ep_andG | with_reducible apply ep_notV | with_reducible apply ep_chainG
  | with_reducible apply ep_inG | with_reducible apply ep_op | with_reducible apply ep_un | with_reducible apply ep_cb
  | with_reducible exact od_i | with_reducible exact od_b | with_reducible exact od_eqI | with_reducible exact od_neI | with_reducible exact od_eqS | with_reducible exact od_eqB | with_reducible exact od_isN | with_reducible exact od_notN | with_reducible exact ud_i
  | with_reducible exact od_ixT at3_0 | with_reducible exact od_ixT at3_1 | with_reducible exact od_ixT at3_2 | with_reducible exact od_ixT at2_0 | with_reducible exact od_ixT at2_1 | with_reducible exact od_ixT at1_0
  | with_reducible apply od_catA | (with_reducible show _ + _ ≤ 100000; first | omega | (simp; done) | (simp; omega))
  | with_reducible exact ca_lenT | with_reducible exact ca_lenL
  | exact (show allS _ = true from rfl) | exact (show Nat.ble _ 100000 = true from rfl)))
def sideD : PyData → Bool
  | .tuple xs => decide (2 ≤ xs.length) && decide (xs.length ≤ 5)
  | _ => false
def itemD : PyData → Bool
  | .int i => decide (0 ≤ i)
  | _ => false
def overD : PyData → Bool
  | .int i => decide (1 < i)
  | _ => false
def okItem (sg : Bool) (x : PyData) : Bool := itemD x && !(sg && overD x)
def rowOk (w : Nat) (sg : Bool) : PyData → Bool
  | .tuple xs => decide (2 ≤ xs.length) && decide (xs.length ≤ 5) && decide (xs.length = w) && xs.all (okItem sg)
  | _ => false
def firstBad (w : Nat) (sg : Bool) : Nat → List PyData → Option Nat
  | _, [] => none
  | k, x :: l => if rowOk w sg x then firstBad w sg (k + 1) l else some k
def widD : List PyData → Nat
  | .tuple ys :: _ => ys.length
  | _ => 0
def intD : PyData → Int
  | .int i => i
  | _ => 0
def sumR : PyData → Int
  | .tuple xs => (xs.map intD).sum
  | _ => 0
/-- what need_table answers -/
inductive Ndt where
  | ok
  | bad (d : PyData)
  | great
def needD (sg : Bool) : PyData → Ndt
  | .tuple xs => if sideD (.tuple xs) then (match firstBad (widD xs) sg 0 xs with
      | some k => .bad (.int (k : Nat))
      | none => if 12 < (xs.map sumR).sum then .great else .ok) else .bad .none
  | _ => .bad .none
/-! is_side -/
def R_is_side (ds : List PyData) (r : PyData) : Prop := ∃ d : PyData, ds = [d] ∧ plainD d = true ∧ r = .bool (sideD d)
def sp_is_side (K : PySem.W.Frag) : Sp := SpP R_is_side
def t_is_side (K : PySem.W.Frag) : TS := tRet (tAndV (tCB (rIsi K) (tCons (tVar 0) (tCons (tC (.ty "tuple")) (tNil)))) (tChain (rI0 fun i j => .bl (decide (i ≤ j))) (rI0 fun i j => .bl (decide (i ≤ j))) (tC (.int 2)) (tCB (rLen K) (tCons (tVar 0) (tNil))) (tC (.int 5))))
theorem len_is_side {K : PySem.W.Frag} {vs : List V} {H : Hp} {Q : VK} {E : XK} (h : sp_is_side K vs H Q E) : vs.length = 1 := spP_len h fun ds r ⟨_, e, _⟩ => by rw [e]; rfl
theorem run_is_side (K : PySem.W.Frag) (W : Wd) (n : Nat) (ds : List PyData) (r : PyData) (h : R_is_side ds r) : RunS W (t_is_side K) n (ds.map Slot.d ++ List.replicate (1 - ds.length) .non) (fun o => o = .rt n r) := by
  obtain ⟨d, rfl, hd, rfl⟩ := h
  cases d with
  | tuple xs =>
    refine rs_ret (ep_is (ep_andT (b := decide (2 ≤ xs.length) && decide (xs.length ≤ 5)) (ep_is (by walk_at "ev") (by rfl)) (ep_is (by walk_at "ev") ?_)) rfl) rfl
    congr 1
    have h1 : decide ((2 : Int) ≤ (xs.length : Nat)) = decide (2 ≤ xs.length) := decide_eq_decide.mpr (by omega)
    have h2 : decide (((xs.length : Nat) : Int) ≤ 5) = decide (xs.length ≤ 5) := decide_eq_decide.mpr (by omega)
    rw [h1, h2]
  | dict _ => simp [plainD] at hd
  | none => exact rs_ret (ep_andF (ep_is (by walk_at "ev") (by rfl))) rfl
  | bool _ => exact rs_ret (ep_andF (ep_is (by walk_at "ev") (by rfl))) rfl
  | int _ => exact rs_ret (ep_andF (ep_is (by walk_at "ev") (by rfl))) rfl
  | str _ => exact rs_ret (ep_andF (ep_is (by walk_at "ev") (by rfl))) rfl
  | list _ => exact rs_ret (ep_andF (ep_is (by walk_at "ev") (by rfl))) rfl
theorem pure_is_side {K : PySem.W.Frag} {vs : List V} {H : Hp} {Q : VK} {E : XK} (h : sp_is_side K vs H Q E) : t_is_side K { nx := fun _ H' => Q .non H', rt := Q } (L2.start ["value"] vs) H := pure_of h fun W n ds r hr => run_is_side K W n ds r hr
section
variable {P : Program} {w : World} {K : PySem.W.Frag} {mg : Str → Option Value} {base : Heap}
abbrev N_is_side : List Str := ["value"]
theorem sc_is_side : FnScope N_is_side ["value"] (defScope s_is_side) := ⟨rfl, rfl, rfl, by decide +kernel, rfl, by decide +kernel, by decide +kernel⟩
theorem ok_is_side (T : Tx K mg) : ∃ fd, FnOk P w K mg base CX0 1 (He.ga K "is_side") fd ["value"] (sp_is_side K) ∧ Binds K fd ["value"] [] := by
  have nd := sc_is_side.nd
  obtain ⟨_, m_LEAST_SIDE⟩ := T.m_LEAST_SIDE
  obtain ⟨_, m_MOST_SIDE⟩ := T.m_MOST_SIDE
  obtain ⟨fd, F⟩ := T.d_is_side
  refine ⟨fd, FunD.ok F sc_is_side (fun vs H Q E h => len_is_side h) (fun cdv A outer s H vs Q E hr h => ⟨t_is_side K, PSs.nox ?_, pure_is_side h⟩), F.bindsN fun _ _ _ _ _ _ us hl => match us, hl with | [_], _ => rfl⟩
  exact pss_one (ps_ret (pe_and (pe_callB call_isi (by rfl) T.f_isinstance (by decide +kernel) (pa_cons (pv 0) (pa_cons (pe_bltn (v := .ty "tuple") (by rfl) (T.f_tuple) (by decide +kernel) rfl) (pa_nil)))) (pe_one (pe_chain op_le op_le (pe_glob rfl m_LEAST_SIDE ⟨_, rfl⟩) (pe_callB call_len_seq (by rfl) T.f_len (by decide +kernel) (pa_cons (pv 0) (pa_nil))) (pe_glob rfl m_MOST_SIDE ⟨_, rfl⟩)))))
end
/-! is_item -/
def R_is_item (ds : List PyData) (r : PyData) : Prop := ∃ d : PyData, ds = [d] ∧ r = .bool (itemD d)
def sp_is_item (K : PySem.W.Frag) : Sp := SpP R_is_item
def t_is_item (K : PySem.W.Frag) : TS := tRet (tAndV (tCB (rIsi K) (tCons (tVar 0) (tCons (tC (.ty "int")) (tNil)))) (tAndV (tNotV (tCB (rIsi K) (tCons (tVar 0) (tCons (tC (.ty "bool")) (tNil))))) (tOp (rI0 fun i j => .bl (decide (j ≤ i))) (tVar 0) (tC (.int 0)))))
theorem len_is_item {K : PySem.W.Frag} {vs : List V} {H : Hp} {Q : VK} {E : XK} (h : sp_is_item K vs H Q E) : vs.length = 1 := spP_len h fun ds r ⟨_, e, _⟩ => by rw [e]; rfl
theorem run_is_item (K : PySem.W.Frag) (W : Wd) (n : Nat) (ds : List PyData) (r : PyData) (h : R_is_item ds r) : RunS W (t_is_item K) n (ds.map Slot.d ++ List.replicate (1 - ds.length) .non) (fun o => o = .rt n r) := by
  obtain ⟨d, rfl, rfl⟩ := h
  cases d with
  | int i => exact rs_ret (ep_is (by walk_at "ev") (by simp [itemD])) rfl
  | bool b => exact rs_ret (ep_andT (ep_is (by walk_at "ev") (by rfl)) (ep_andF (ep_is (by walk_at "ev") (by rfl)))) rfl
  | dict _ => exact rs_ret (ep_andF (ep_is (by walk_at "ev") (by rfl))) rfl
  | none => exact rs_ret (ep_andF (ep_is (by walk_at "ev") (by rfl))) rfl
  | tuple _ => exact rs_ret (ep_andF (ep_is (by walk_at "ev") (by rfl))) rfl
  | str _ => exact rs_ret (ep_andF (ep_is (by walk_at "ev") (by rfl))) rfl
  | list _ => exact rs_ret (ep_andF (ep_is (by walk_at "ev") (by rfl))) rfl
theorem pure_is_item {K : PySem.W.Frag} {vs : List V} {H : Hp} {Q : VK} {E : XK} (h : sp_is_item K vs H Q E) : t_is_item K { nx := fun _ H' => Q .non H', rt := Q } (L2.start ["value"] vs) H := pure_of h fun W n ds r hr => run_is_item K W n ds r hr
section
variable {P : Program} {w : World} {K : PySem.W.Frag} {mg : Str → Option Value} {base : Heap}
abbrev N_is_item : List Str := ["value"]
theorem sc_is_item : FnScope N_is_item ["value"] (defScope s_is_item) := ⟨rfl, rfl, rfl, by decide +kernel, rfl, by decide +kernel, by decide +kernel⟩
theorem ok_is_item (T : Tx K mg) : ∃ fd, FnOk P w K mg base CX0 1 (He.ga K "is_item") fd ["value"] (sp_is_item K) ∧ Binds K fd ["value"] [] := by
  have nd := sc_is_item.nd
  obtain ⟨fd, F⟩ := T.d_is_item
  refine ⟨fd, FunD.ok F sc_is_item (fun vs H Q E h => len_is_item h) (fun cdv A outer s H vs Q E hr h => ⟨t_is_item K, PSs.nox ?_, pure_is_item h⟩), F.bindsN fun _ _ _ _ _ _ us hl => match us, hl with | [_], _ => rfl⟩
  exact pss_one (ps_ret (pe_and (pe_callB call_isi (by rfl) T.f_isinstance (by decide +kernel) (pa_cons (pv 0) (pa_cons (pe_bltn (v := .ty "int") (by rfl) (T.f_int) (by decide +kernel) rfl) (pa_nil)))) (pe_and (pe_not (pe_callB call_isi (by rfl) T.f_isinstance (by decide +kernel) (pa_cons (pv 0) (pa_cons (pe_bltn (v := .ty "bool") (by rfl) (T.f_bool) (by decide +kernel) rfl) (pa_nil))))) (pe_one (pe_cmpR op_ge (pv 0) (pe_int) (nomark _))))))
end
/-! is_table_row -/
def R_is_table_row (ds : List PyData) (r : PyData) : Prop := ∃ (d : PyData) (w : Nat) (sg : Bool), ds = [d, .int (w : Nat), .bool sg] ∧ plainD d = true ∧ r = .bool (rowOk w sg d)
def sp_is_table_row (K : PySem.W.Frag) : Sp := SpP R_is_table_row
def t_is_table_row (K : PySem.W.Frag) : TS := tSeq (tIfS (tOr (tNot (tB (tCall (sp_is_side K) [] E0 (tCons (tVar 0) (tNil))))) (tTest (tOp (rNe) (tCB (rLen K) (tCons (tVar 0) (tNil))) (tVar 1)))) (tRet (tC (.bl false))) (tNext)) (tSeq (tFor (iTup K (tVar 0)) (gName 3) (tIfS (tOr (tNot (tB (tCall (sp_is_item K) [] E0 (tCons (tVar 3) (tNil))))) (tAnd (tB (tVar 2)) (tTest (tOp (rI0 fun i j => .bl (decide (j < i))) (tVar 3) (tC (.int 1)))))) (tRet (tC (.bl false))) (tNext))) (tRet (tC (.bl true))))
theorem len_is_table_row {K : PySem.W.Frag} {vs : List V} {H : Hp} {Q : VK} {E : XK} (h : sp_is_table_row K vs H Q E) : vs.length = 3 := spP_len h fun ds r ⟨_, _, _, e, _⟩ => by rw [e]; rfl
theorem run_is_table_row (K : PySem.W.Frag) (W : Wd) (n : Nat) (ds : List PyData) (r : PyData) (h : R_is_table_row ds r) : RunS W (t_is_table_row K) n (ds.map Slot.d ++ List.replicate (4 - ds.length) .non) (fun o => o = .rt n r) := by
  obtain ⟨d, w, sg, rfl, hd, rfl⟩ := h
  by_cases hs : sideD d = true
  · cases d with
    | tuple xs =>
      have hl : 2 ≤ xs.length ∧ xs.length ≤ 5 := by simpa [sideD] using hs
      by_cases hw : xs.length = w
      · refine sf (et_is (et_orF (et_is (et_not (et_b (ep_call (by walk_at "ev") ⟨_, rfl, hd, rfl⟩))) (by rw [hs]; rfl)) (by walk_at "ev")) (by simp [hw])) ?_
        have er : rowOk w sg (.tuple xs) = xs.all (okItem sg) := by
          show (decide (2 ≤ xs.length) && decide (xs.length ≤ 5) && decide (xs.length = w) && xs.all (okItem sg)) = _
          rw [decide_eq_true hl.1, decide_eq_true hl.2, decide_eq_true hw]
          rfl
        rw [er]
        refine sfor (xs := xs) (enc := id) (f := fun v ss => ss.set 3 (.d v)) (fun i n' ss' => n' = n ∧ (∀ x ∈ xs.take i, okItem sg x = true) ∧ ∃ s, ss' = [.d (.tuple xs), .d (.int (w : Nat)), .d (.bool sg), s]) (wk_tup (ep_is (by walk_at "ev") (by rw [List.map_id]))) (fun _ _ => tg_name) ⟨rfl, by simp, _, rfl⟩ ?_ ?_
        · rintro i x n _ hi ⟨rfl, ha, s, rfl⟩
          by_cases ho : okItem sg x = true
          · have hit : itemD x = true := by
              unfold okItem at ho
              simp at ho
              exact ho.1
            obtain ⟨v, rfl⟩ : ∃ v, x = .int v := by
              cases x <;> simp [itemD] at hit
              exact ⟨_, rfl⟩
            refine rs_ifF (et_is (et_orF (et_is (et_not (et_b (ep_call (by walk_at "ev") ⟨_, rfl, rfl⟩))) (by rw [hit]; rfl)) (by walk_at "ev")) ?_) (rs_next ⟨rfl, ?_, .d (.int v), rfl⟩)
            · unfold okItem at ho
              simp only [hit, Bool.true_and] at ho
              simp only [overD] at ho
              cases sg <;> simp_all
            · rw [take_snoc hi]
              intro y hy
              rcases List.mem_append.mp hy with e | e
              · exact ha y e
              · rw [List.mem_singleton.mp e]
                exact ho
          · have hall : xs.all (okItem sg) = false := by
              rw [List.all_eq_false]
              exact ⟨x, List.mem_of_getElem? hi, by simpa using ho⟩
            have hr : ∀ n, (Out.rt n (.bool false) = Out.rt n (.bool (xs.all (okItem sg)))) := fun n => by rw [hall]
            by_cases hit : itemD x = true
            · obtain ⟨v, rfl⟩ : ∃ v, x = .int v := by
                cases x <;> simp [itemD] at hit
                exact ⟨_, rfl⟩
              refine rs_ifT (et_is (et_orF (et_is (et_not (et_b (ep_call (by walk_at "ev") ⟨_, rfl, rfl⟩))) (by rw [hit]; rfl)) (by walk_at "ev")) ?_) (rs_ret (by walk_at "ev") (hr _))
              unfold okItem at ho
              simp only [hit, Bool.true_and] at ho
              simpa [overD] using ho
            · refine rs_ifT (et_orT (et_is (et_not (et_b (ep_call (by walk_at "ev") ⟨_, rfl, rfl⟩))) (by simp [hit]))) (rs_ret (by walk_at "ev") (hr _))
        · rintro n _ ⟨rfl, ha, s, rfl⟩
          rw [List.take_of_length_le (Nat.le_refl _)] at ha
          refine rs_ret (ep_is (by walk_at "ev") ?_) rfl
          rw [List.all_eq_true.mpr ha]
      · have er : rowOk w sg (.tuple xs) = false := by
          unfold rowOk
          simp [hw]
        refine str (et_is (et_orF (et_is (et_not (et_b (ep_call (by walk_at "ev") ⟨_, rfl, hd, rfl⟩))) (by rw [hs]; rfl)) (by walk_at "ev")) ?_) (by walk_at "ev") (rtEq (by rw [er]))
        simp
        omega
    | dict _ => simp [plainD] at hd
    | none => simp [sideD] at hs
    | bool _ => simp [sideD] at hs
    | int _ => simp [sideD] at hs
    | str _ => simp [sideD] at hs
    | list _ => simp [sideD] at hs
  · have er : rowOk w sg d = false := by
      cases d with
      | tuple xs =>
        have : (decide (2 ≤ xs.length) && decide (xs.length ≤ 5)) = false := by simpa [sideD] using hs
        show (decide (2 ≤ xs.length) && decide (xs.length ≤ 5) && decide (xs.length = w) && xs.all (okItem sg)) = false
        rw [this]
        rfl
      | _ => rfl
    refine str (et_orT (et_is (et_not (et_b (ep_call (by walk_at "ev") ⟨_, rfl, hd, rfl⟩))) (by simp [hs]))) (by walk_at "ev") (rtEq (by rw [er]))
theorem pure_is_table_row {K : PySem.W.Frag} {vs : List V} {H : Hp} {Q : VK} {E : XK} (h : sp_is_table_row K vs H Q E) : t_is_table_row K { nx := fun _ H' => Q .non H', rt := Q } (L2.start ["row", "width", "sign", "item"] vs) H := pure_of h fun W n ds r hr => run_is_table_row K W n ds r hr
section
variable {P : Program} {w : World} {K : PySem.W.Frag} {mg : Str → Option Value} {base : Heap}
abbrev N_is_table_row : List Str := ["row", "width", "sign", "item"]
theorem sc_is_table_row : FnScope N_is_table_row ["row", "width", "sign"] (defScope s_is_table_row) := ⟨rfl, rfl, rfl, by decide +kernel, rfl, by decide +kernel, by decide +kernel⟩
theorem ok_is_table_row (T : Tx K mg) : ∃ fd, FnOk P w K mg base CX0 2 (He.ga K "is_table_row") fd ["row", "width", "sign"] (sp_is_table_row K) ∧ Binds K fd ["row", "width", "sign"] [] := by
  have nd := sc_is_table_row.nd
  obtain ⟨_, G_is_item, b_is_item⟩ := ok_is_item (P := P) (w := w) (base := base) T
  obtain ⟨_, G_is_side, b_is_side⟩ := ok_is_side (P := P) (w := w) (base := base) T
  obtain ⟨fd, F⟩ := T.d_is_table_row
  refine ⟨fd, FunD.ok F sc_is_table_row (fun vs H Q E h => len_is_table_row h) (fun cdv A outer s H vs Q E hr h => ⟨t_is_table_row K, PSs.nox ?_, pure_is_table_row h⟩), F.bindsN fun _ _ _ _ _ _ us hl => match us, hl with | [_, _, _], _ => rfl⟩
  exact pss_cons (ps_if (PW.pt (pw_or (pt_not (pt_val (pe_call G_is_side (hr.mono (by omega)) rfl T.g_is_side T.k_is_side b_is_side .nil pass0 (pa_cons (pv 0) (pa_nil))))) (pw_or1 (pt_cmpR op_ne (pe_callB call_len_seq (by rfl) T.f_len (by decide +kernel) (pa_cons (pv 0) (pa_nil))) (pv 1) (nomark _))))) (pss_one (ps_ret (pe_bl))) (pss_nil)) (pss_cons (ps_for PassesOwn.never rfl (pi_tup (pv 0)) (pg_name (i := 3) nd rfl (Or.inl rfl)) (pss_one (ps_if (PW.pt (pw_or (pt_not (pt_val (pe_call G_is_item (hr.mono (by omega)) rfl T.g_is_item T.k_is_item b_is_item .nil pass0 (pa_cons (pv 3) (pa_nil))))) (pw_or1 (PW.pt (pw_and (pt_val (pv 2)) (pw_and1 (pt_cmpR op_gt (pv 3) (pe_int) (nomark _)))))))) (pss_one (ps_ret (pe_bl))) (pss_nil)))) (pss_one (ps_ret (pe_bl))))
end
end Uh

set_option Elab.async false
set_option linter.all false
set_option maxRecDepth 100000
set_option maxHeartbeats 200000
namespace Uh
open PySem PySem.Spec PyProof.Rows L2
open Evl (Ex)
local macro_rules | `(tactic| walk_at "ev") => `(tactic| repeat (first
  | with_reducible exact ep_var rfl | with_reducible exact ep_int | with_reducible exact ep_bl | with_reducible exact ep_non | with_reducible exact ep_str
  | with_reducible exact ea_nil | with_reducible apply ea_cons | with_reducible apply ep_tupG | with_reducible apply ef_lstG | with_reducible exact et_yes
  | with_reducible apply ca_isiG | with_reducible exact kit_tuple _ | with_reducible exact kit_int _ | with_reducible exact kit_bool _ | with_reducible exact kit_str _
  | with_reducible apply et_test | with_reducible apply et_b | with_reducible apply et_not | with_reducible apply et_orG | with_reducible apply et_andG
  | with_reducible apply ep_orG | with_reducible apply ep_andG | with_reducible apply ep_notV | with_reducible apply ep_chainG
  | with_reducible apply ep_inG | with_reducible apply ep_op | with_reducible apply ep_un | with_reducible apply ep_cb
  | with_reducible exact od_i | with_reducible exact od_b | with_reducible exact od_eqI | with_reducible exact od_neI | with_reducible exact od_eqS | with_reducible exact od_eqB | with_reducible exact od_isN | with_reducible exact od_notN | with_reducible exact ud_i
  | with_reducible exact od_ixT at3_0 | with_reducible exact od_ixT at3_1 | with_reducible exact od_ixT at3_2 | with_reducible exact od_ixT at2_0 | with_reducible exact od_ixT at2_1 | with_reducible exact od_ixT at1_0
  | with_reducible apply od_catA | (with_reducible show _ + _ ≤ 100000; first | omega | (simp; done) | (simp; omega))
  | with_reducible exact ca_lenT | with_reducible exact ca_lenL
  | exact (show allS _ = true from rfl) | exact (show Nat.ble _ 100000 = true from rfl)))
theorem firstBad_none {w : Nat} {sg : Bool} : ∀ {xs : List PyData} {k : Nat}, firstBad w sg k xs = none → ∀ x ∈ xs, rowOk w sg x = true
  | [], _, _, x, h => by simp at h
  | y :: l, k, e, x, h => by
    unfold firstBad at e
    by_cases hy : rowOk w sg y = true
    · rw [if_pos hy] at e
      rcases List.mem_cons.mp h with z | z
      · rw [z]; exact hy
      · exact firstBad_none e x z
    · rw [if_neg hy] at e
      cases e
theorem items_nat {sg : Bool} : ∀ {xs : List PyData}, (∀ x ∈ xs, okItem sg x = true) → ∃ r : List Nat, xs = r.map (fun k : Nat => .int (k : Nat)) ∧ (sg = true → ∀ n ∈ r, n ≤ 1)
  | [], _ => ⟨[], rfl, fun _ n h => by simp at h⟩
  | x :: l, h => by
    obtain ⟨r, e, b⟩ := items_nat (xs := l) fun y hy => h y (List.mem_cons_of_mem _ hy)
    have hx := h x (by simp)
    cases x with
    | int i =>
      have h0 : 0 ≤ i := by
        unfold okItem at hx
        simp [itemD] at hx
        exact hx.1
      refine ⟨i.toNat :: r, ?_, fun hs n hn => ?_⟩
      · rw [List.map_cons, ← e, Int.toNat_of_nonneg h0]
      · rcases List.mem_cons.mp hn with z | z
        · subst hs
          simp [okItem, itemD, overD] at hx
          omega
        · exact b hs n z
    | _ => simp [okItem, itemD] at hx
theorem rows_nat {w : Nat} {sg : Bool} : ∀ {xs : List PyData}, (∀ x ∈ xs, rowOk w sg x = true) → ∃ T : NT, xs = T.map rowN ∧ (∀ r ∈ T, r.length = w ∧ 2 ≤ w ∧ w ≤ 5 ∧ (sg = true → ∀ n ∈ r, n ≤ 1))
  | [], _ => ⟨[], rfl, fun r h => by simp at h⟩
  | x :: l, h => by
    obtain ⟨T, e, b⟩ := rows_nat (xs := l) fun y hy => h y (List.mem_cons_of_mem _ hy)
    have hx := h x (by simp)
    cases x with
    | tuple ys =>
      have hx' : (decide (2 ≤ ys.length) && decide (ys.length ≤ 5) && decide (ys.length = w) && ys.all (okItem sg)) = true := hx
      simp only [Bool.and_eq_true, decide_eq_true_eq] at hx'
      obtain ⟨⟨⟨h1, h2⟩, h3⟩, h4⟩ := hx'
      obtain ⟨r, er, br⟩ := items_nat (List.all_eq_true.mp h4)
      refine ⟨r :: T, by rw [List.map_cons, ← e, er]; rfl, fun s hs => ?_⟩
      rcases List.mem_cons.mp hs with z | z
      · rw [z]
        have : r.length = ys.length := by rw [er, List.length_map]
        exact ⟨by omega, by omega, by omega, br⟩
      · exact b s z
    | _ => simp [rowOk] at hx
theorem sumR_row {r : List Nat} : sumR (rowN r) = ((r.sum : Nat) : Int) := by
  unfold rowN
  show ((r.map fun k : Nat => PyData.int (k : Nat)).map intD).sum = _
  rw [List.map_map, ← sum_int]
  rfl
theorem plain_mem {xs : List PyData} (h : plainL xs = true) : ∀ x ∈ xs, plainD x = true := by
  induction xs with
  | nil => intro x hx; simp at hx
  | cons y l ih =>
    have h' : (plainD y && plainL l) = true := h
    rw [Bool.and_eq_true] at h'
    intro x hx
    rcases List.mem_cons.mp hx with e | e
    · rw [e]; exact h'.1
    · exact ih h'.2 x e
theorem idx_id {xs : List PyData} {k : Nat} : enumD k xs = (idx k xs).map fun q => .tuple [.int (q.1 : Nat), q.2] := by
  have := enumD_idx (enc := id) (l := xs) (k := k)
  rw [List.map_id] at this
  exact this
def ndtR (K : PySem.W.Frag) (d : PyData) : Ndt → Rs
  | .ok => .val d
  | .bad x => .exc (xBad K x)
  | .great => .exc (xGreat K (.int 12))
/-! need_table -/
def R_need_table (K : PySem.W.Frag) (ds : List PyData) (r : Rs) : Prop := ∃ (d : PyData) (sg : Bool), ds = [d, .bool sg] ∧ plainD d = true ∧ r = ndtR K d (needD sg d)
def sp_need_table (K : PySem.W.Frag) : Sp := SpX (R_need_table K)
def t_need_table (K : PySem.W.Frag) (W : WX) : TS := tSeq (tIfS (tNot (tB (tCall (sp_is_side K) [] E0 (tCons (tVar 0) (tNil))))) (tRaise (tMkO (cBad K) (spI1 K (cBad K) "value") [] (tCons (tC .non) (tNil))) W) (tNext)) (tSeq (tAsg (tIf (tB (tCB (rIsi K) (tCons (tOp (rIxT K) (tVar 0) (tC (.int 0))) (tCons (tC (.ty "tuple")) (tNil))))) (tCB (rLen K) (tCons (tOp (rIxT K) (tVar 0) (tC (.int 0))) (tNil))) (tC (.int 0))) (gName 2)) (tSeq (tFor (iEnumT K (tCons (tVar 0) (tNil))) (gTup K 2 (gCons (gName 3) (gCons (gName 4) (gNil)))) (tIfS (tNot (tB (tCall (sp_is_table_row K) [] E0 (tCons (tVar 4) (tCons (tVar 2) (tCons (tVar 1) (tNil))))))) (tRaise (tMkO (cBad K) (spI1 K (cBad K) "value") [] (tCons (tVar 3) (tNil))) W) (tNext))) (tSeq (tIfS (tTest (tOp (rI0 fun i j => .bl (decide (j < i))) (tCB (rSumA K) (tCons (tLc (iTup K (tVar 0)) (gName 4) (tYes) (tCB (rSumA K) (tCons (tVar 4) (tNil))) [4]) (tNil))) (tC (.int 12)))) (tRaise (tMkO (cGreat K) (spI1 K (cGreat K) "most") [] (tCons (tC (.int 12)) (tNil))) W) (tNext)) (tRet (tVar 0)))))
theorem len_need_table {K : PySem.W.Frag} {vs : List V} {H : Hp} {Q : VK} {E : XK} (h : sp_need_table K vs H Q E) : vs.length = 2 := spX_len h fun ds r ⟨_, _, e, _⟩ => by rw [e]; rfl
theorem run_need_table (K : PySem.W.Frag) (T : Ers K) (W : Wd) (n : Nat) (ds : List PyData) (r : Rs) (h : R_need_table K ds r) : RunS W (t_need_table K W.xk) n (ds.map Slot.d ++ List.replicate (5 - ds.length) .non) (rsOut n r) := by
  obtain ⟨d, sg, rfl, hd, rfl⟩ := h
  by_cases hs : sideD d = true
  · cases d with
    | tuple xs =>
      have hl : 2 ≤ xs.length ∧ xs.length ≤ 5 := by simpa [sideD] using hs
      have hpl : plainL xs = true := hd
      refine sf (et_is (et_not (et_b (ep_call (by walk_at "ev") ⟨_, rfl, hd, rfl⟩))) (by rw [hs]; rfl)) ?_
      obtain ⟨x0, rest, rfl⟩ : ∃ x0 rest, xs = x0 :: rest := by
        cases xs with
        | nil => simp at hl
        | cons a l => exact ⟨a, l, rfl⟩
      have h0 : atI (x0 :: rest) 0 = some x0 := at_nat (j := 0) rfl
      have hw : EvP (tIf (tB (tCB (rIsi K) (tCons (tOp (rIxT K) (tVar 0) (tC (.int 0))) (tCons (tC (.ty "tuple")) (tNil))))) (tCB (rLen K) (tCons (tOp (rIxT K) (tVar 0) (tC (.int 0))) (tNil))) (tC (.int 0))) [.d (.tuple (x0 :: rest)), .d (.bool sg), .non, .non, .non] (.int (widD (x0 :: rest) : Nat)) := by
        have hx := plain_mem hpl x0 (by simp)
        cases x0 with
        | tuple ys => exact ep_ifT (et_is (et_b (ca_isi (ep_op (ep_var rfl) ep_int (od_ixT h0)) ev_ty (kit_tuple _))) rfl) (ep_cb (ea_cons (ep_op (ep_var rfl) ep_int (od_ixT h0)) ea_nil) ca_lenT)
        | dict _ => simp [plainD] at hx
        | none => exact ep_ifF (et_is (et_b (ca_isi (ep_op (ep_var rfl) ep_int (od_ixT h0)) ev_ty (kit_tuple _))) rfl) ep_int
        | bool _ => exact ep_ifF (et_is (et_b (ca_isi (ep_op (ep_var rfl) ep_int (od_ixT h0)) ev_ty (kit_tuple _))) rfl) ep_int
        | int _ => exact ep_ifF (et_is (et_b (ca_isi (ep_op (ep_var rfl) ep_int (od_ixT h0)) ev_ty (kit_tuple _))) rfl) ep_int
        | str _ => exact ep_ifF (et_is (et_b (ca_isi (ep_op (ep_var rfl) ep_int (od_ixT h0)) ev_ty (kit_tuple _))) rfl) ep_int
        | list _ => exact ep_ifF (et_is (et_b (ca_isi (ep_op (ep_var rfl) ep_int (od_ixT h0)) ev_ty (kit_tuple _))) rfl) ep_int
      refine sa hw ?_
      generalize hxs : x0 :: rest = xs at *
      have hn : needD sg (.tuple xs) = match firstBad (widD xs) sg 0 xs with
        | some k => .bad (.int (k : Nat))
        | none => if 12 < (xs.map sumR).sum then .great else .ok := by
        show (if sideD (.tuple xs) then _ else _) = _
        rw [if_pos hs]
        all_goals (cases firstBad (widD xs) sg 0 xs <;> rfl)
      refine sfor (xs := idx 0 xs) (enc := fun q => .tuple [.int (q.1 : Nat), q.2]) (f := fun q ss => (ss.set 3 (.d (.int (q.1 : Nat)))).set 4 (.d q.2))
        (fun i n' ss' => n' = n ∧ firstBad (widD xs) sg 0 xs = firstBad (widD xs) sg i (xs.drop i) ∧ ∃ s t, ss' = [.d (.tuple xs), .d (.bool sg), .d (.int (widD xs : Nat)), s, t]) (by
        have hw := wk_enumT (K := K) (ss := [.d (.tuple xs), .d (.bool sg), .d (.int (widD xs : Nat)), .non, .non]) (ta := tCons (tVar 0) tNil) (ds := xs) (by walk_at "ev")
        rw [idx_id] at hw
        exact hw) (fun _ _ => tg_two) ⟨rfl, rfl, _, _, rfl⟩ ?_ ?_
      · rintro i ⟨j, x⟩ n _ hi ⟨rfl, hf, s, t, rfl⟩
        obtain ⟨h1, h2⟩ := idx_get hi
        have hj : j = i := by simpa using h1
        subst hj
        have hd' : xs.drop j = x :: xs.drop (j + 1) := by
          obtain ⟨q1, q2⟩ := List.getElem?_eq_some_iff.mp h2
          rw [List.drop_eq_getElem_cons q1, q2]
        have hx := plain_mem hpl x (List.mem_of_getElem? h2)
        rw [hd'] at hf
        by_cases ho : rowOk (widD xs) sg x = true
        · refine rs_ifF (et_is (et_not (et_b (ep_call (by walk_at "ev") ⟨x, widD xs, sg, rfl, hx, rfl⟩))) (by rw [ho]; rfl)) (rs_next ⟨rfl, ?_, .d (.int (j : Nat)), .d x, rfl⟩)
          rw [hf]
          show (if rowOk (widD xs) sg x then _ else _) = _
          rw [if_pos ho]
        · refine rs_ifT (et_is (et_not (et_b (ep_call (by walk_at "ev") ⟨x, widD xs, sg, rfl, hx, rfl⟩))) (by simp [ho])) (rs_raise1 T.bad.oex (T.bad.fld _ (by simp)) (by walk_at "ev") ?_)
          have e1 : firstBad (widD xs) sg 0 xs = some j := by
            rw [hf]
            show (if rowOk (widD xs) sg x then _ else _) = _
            rw [if_neg ho]
          rw [hn, e1]
          exact ⟨_, rfl⟩
      · rintro n _ ⟨rfl, hf, s, t, rfl⟩
        have e1 : firstBad (widD xs) sg 0 xs = none := by
          rw [hf, idx_len, List.drop_of_length_le (Nat.le_refl _)]
          rfl
        rw [hn, e1]
        obtain ⟨TT, eT, hT⟩ := rows_nat (firstBad_none e1)
        have hlT : TT.length ≤ 5 := by
          have := congrArg List.length eT
          rw [List.length_map] at this
          omega
        have es : (xs.map sumR).sum = ((TT.map fun r => ((r.sum : Nat) : Int))).sum := by
          rw [eT, List.map_map]
          congr 1
          apply List.map_congr_left
          intro r _
          exact sumR_row
        have hsum : EvP (tCB (rSumA K) (tCons (tLc (iTup K (tVar 0)) (gName 4) (tYes) (tCB (rSumA K) (tCons (tVar 4) (tNil))) [4]) (tNil))) [.d (.tuple xs), .d (.bool sg), .d (.int (widD xs : Nat)), s, t] (.int (xs.map sumR).sum) := by
          rw [es]
          refine ep_cb (ea_cons (ep_is (EvF.p (ef_map (xs := TT) (enc := rowN) (f := fun r ss => ss.set 4 (.d (rowN r))) (fun r => .int (r.sum : Nat)) (wk_tup (ep_is (ep_var rfl) (by rw [eT]))) (by omega) (fun _ _ => tc_name)
            fun r _ => ep_cb (ea_cons (ep_var rfl) ea_nil) ca_sumN)) (by rw [show (TT.map fun r => PyData.int (r.sum : Nat)) = (TT.map fun r => ((r.sum : Nat) : Int)).map .int by rw [List.map_map]; rfl])) ea_nil) ca_sumL
        by_cases hg : 12 < (xs.map sumR).sum
        · refine rs_seq (rs_ifT (et_is (et_test (ep_op hsum (by walk_at "ev") od_b)) (decide_eq_true hg)) (rs_raise1 T.great.oex (T.great.fld _ (by simp)) (by walk_at "ev") ?_))
          show rsOut n (ndtR K _ (if 12 < (xs.map sumR).sum then .great else .ok)) _
          rw [if_pos hg]
          exact ⟨_, rfl⟩
        · refine sf (et_is (et_test (ep_op hsum (by walk_at "ev") od_b)) (decide_eq_false hg)) (rs_ret (by walk_at "ev") ?_)
          show rsOut n (ndtR K _ (if 12 < (xs.map sumR).sum then .great else .ok)) _
          rw [if_neg hg]
          rfl
    | dict _ => simp [plainD] at hd
    | none => simp [sideD] at hs
    | bool _ => simp [sideD] at hs
    | int _ => simp [sideD] at hs
    | str _ => simp [sideD] at hs
    | list _ => simp [sideD] at hs
  · have er : needD sg d = .bad .none := by
      cases d with
      | tuple xs =>
        show (if sideD (.tuple xs) then _ else _) = _
        rw [if_neg hs]
      | _ => rfl
    rw [er]
    exact rs_seq (rs_ifT (et_is (et_not (et_b (ep_call (by walk_at "ev") ⟨_, rfl, hd, rfl⟩))) (by simp [hs])) (rs_raise1 T.bad.oex (T.bad.fld _ (by simp)) (by walk_at "ev") ⟨_, rfl⟩))
theorem pure_need_table {K : PySem.W.Frag} (T : Ers K) {vs : List V} {H : Hp} {Q : VK} {E : XK} (h : sp_need_table K vs H Q E) : t_need_table K (fun cls d _ H' => E cls d H') { nx := fun _ H' => Q .non H', rt := Q } (L2.start ["table", "sign", "width", "place", "row"] vs) H := pureX_of (ts := t_need_table K) h fun W n ds r hr => run_need_table K T W n ds r hr
section
variable {P : Program} {w : World} {K : PySem.W.Frag} {mg : Str → Option Value} {base : Heap}
abbrev N_need_table : List Str := ["table", "sign", "width", "place", "row"]
theorem sc_need_table : FnScope N_need_table ["table", "sign"] (defScope s_need_table) := ⟨rfl, rfl, rfl, by decide +kernel, rfl, by decide +kernel, by decide +kernel⟩
theorem ok_need_table (T : Tx K mg) : ∃ fd, FnOk P w K mg base (L2.CX P w) 5 (He.ga K "need_table") fd ["table", "sign"] (sp_need_table K) ∧ KBn K fd ["table", "sign"] 1 ["sign"] (fun a b => a ++ b) (fun a b => a ++ b) := by
  have nd := sc_need_table.nd
  obtain ⟨_, G_is_table_row, b_is_table_row⟩ := ok_is_table_row (P := P) (w := w) (base := base) T
  obtain ⟨_, G_is_side, b_is_side⟩ := ok_is_side (P := P) (w := w) (base := base) T
  obtain ⟨_, m_MOST_MARKS_tables⟩ := T.m_MOST_MARKS_tables
  obtain ⟨_, G_iBadTable, b_iBadTable⟩ := ok_iBadTable (P := P) (w := w) (base := base) T
  obtain ⟨_, G_iTooGreat, b_iTooGreat⟩ := ok_iTooGreat (P := P) (w := w) (base := base) T
  obtain ⟨fd, F⟩ := T.d_need_table
  refine ⟨fd, FunD.ok F sc_need_table (fun vs H Q E h => len_need_table h) (fun cdv A outer s H vs Q E hr h => ⟨t_need_table K (fun cls d _ H' => E cls d H'), ?_, pure_need_table (ers T) h⟩), kbn_sign F fun _ _ _ _ _ _ _ _ => rfl⟩
  exact pss_cons (ps_if (pt_not (pt_val (pe_call G_is_side (hr.mono (by omega)) rfl T.g_is_side T.k_is_side b_is_side .nil pass0 (pa_cons (pv 0) (pa_nil))))) (pss_one (ps_raise rfl tk_of (pmk_oex (ers T).bad.oex (ers T).bad.init (ers T).bad.ty G_iBadTable (hr.mono (by omega)) b_iBadTable .nil pass0 rfl T.g_BadTable (pa_cons (pe_non) (pa_nil))))) (pss_nil)) (pss_cons (ps_set (i := 2) nd rfl (Or.inl rfl) (pe_ifExp (pt_val (pe_callB call_isi (by rfl) T.f_isinstance (by decide +kernel) (pa_cons (pe_ix ix_tup (pv 0) (pe_int) (fun _ _ => rfl)) (pa_cons (pe_bltn (v := .ty "tuple") (by rfl) (T.f_tuple) (by decide +kernel) rfl) (pa_nil))))) (pe_callB call_len_seq (by rfl) T.f_len (by decide +kernel) (pa_cons (pe_ix ix_tup (pv 0) (pe_int) (fun _ _ => rfl)) (pa_nil))) (pe_int))) (pss_cons (ps_for (passes_of rfl) rfl (pi_enumT (by rfl) T.f_enumerate (pa_cons (pv 0) (pa_nil))) (pg_tup rfl (pgs_cons (pg_name (i := 3) nd rfl (Or.inl rfl)) (pgs_cons (pg_name (i := 4) nd rfl (Or.inl rfl)) (pgs_nil)))) (pss_one (ps_if (pt_not (pt_val (pe_call G_is_table_row (hr.mono (by omega)) rfl T.g_is_table_row T.k_is_table_row b_is_table_row .nil pass0 (pa_cons (pv 4) (pa_cons (pv 2) (pa_cons (pv 1) (pa_nil))))))) (pss_one (ps_raise rfl tk_of (pmk_oex (ers T).bad.oex (ers T).bad.init (ers T).bad.ty G_iBadTable (hr.mono (by omega)) b_iBadTable .nil pass0 rfl T.g_BadTable (pa_cons (pv 3) (pa_nil))))) (pss_nil)))) (pss_cons (ps_if (pt_cmpR op_gt (pe_callB (cr_sumA rfl) (by rfl) T.f_sum (by decide +kernel) (pa_cons (pe_lc (own := [(("row" : Str), 4)]) rfl nd (pi_tup (pv 0)) (blkOk_by (N := N_need_table) (sc := defScope s_need_table) (by decide +kernel)) (fun _ _ _ _ _ => pg_name (i := 4) nd rfl (Or.inl rfl)) (fun _ _ _ _ _ => pts_nil) (fun _ _ _ _ _ => pe_callB (cr_sumA rfl) (by rfl) T.f_sum (by decide +kernel) (pa_cons (pv 4) (pa_nil)))) (pa_nil))) (pe_glob rfl m_MOST_MARKS_tables ⟨_, rfl⟩) (nomark _)) (pss_one (ps_raise rfl tk_of (pmk_oex (ers T).great.oex (ers T).great.init (ers T).great.ty G_iTooGreat (hr.mono (by omega)) b_iTooGreat .nil pass0 rfl T.g_TooGreat (pa_cons (pe_glob rfl m_MOST_MARKS_tables ⟨_, rfl⟩) (pa_nil))))) (pss_nil)) (pss_one (ps_ret (pv 0))))))
end
end Uh

set_option Elab.async false
set_option linter.all false
set_option maxRecDepth 100000
set_option maxHeartbeats 200000
namespace Uh
open PySem PySem.Spec PyProof.Rows L2
open Evl (Ex)
local macro_rules | `(tactic| walk_at "ev") => `(tactic| repeat (first
  | with_reducible exact ep_var rfl | with_reducible exact ep_int | with_reducible exact ep_bl | with_reducible exact ep_non | with_reducible exact ep_str
  | with_reducible exact ea_nil | with_reducible apply ea_cons | with_reducible apply ep_tupG | with_reducible apply ef_lstG | with_reducible exact et_yes
  | with_reducible apply ca_isiG | with_reducible exact kit_tuple _ | with_reducible exact kit_int _ | with_reducible exact kit_bool _ | with_reducible exact kit_str _
  | with_reducible apply et_test | with_reducible apply et_b | with_reducible apply et_not | with_reducible apply et_orG | with_reducible apply et_andG
  | with_reducible apply ep_orG | with_reducible apply ep_andG | with_reducible apply ep_notV | with_reducible apply ep_chainG
  | with_reducible apply ep_inG | with_reducible apply ep_op | with_reducible apply ep_un | with_reducible apply ep_cb
  | with_reducible exact od_i | with_reducible exact od_b | with_reducible exact od_eqI | with_reducible exact od_neI | with_reducible exact od_eqS | with_reducible exact od_eqB | with_reducible exact od_isN | with_reducible exact od_notN | with_reducible exact ud_i
  | with_reducible exact od_ixT at3_0 | with_reducible exact od_ixT at3_1 | with_reducible exact od_ixT at3_2 | with_reducible exact od_ixT at2_0 | with_reducible exact od_ixT at2_1 | with_reducible exact od_ixT at1_0
  | with_reducible apply od_catA | (with_reducible show _ + _ ≤ 100000; first | omega | (simp; done) | (simp; omega))
  | with_reducible exact ca_lenT | with_reducible exact ca_lenL
  | exact (show allS _ = true from rfl) | exact (show Nat.ble _ 100000 = true from rfl)))
/-- a table as the law means it -/
structure Good (sg : Bool) (T : NT) (a b : Nat) : Prop where
  rect : Rect T a b
  a2 : 2 ≤ a
  b2 : 2 ≤ b
  sum : (T.map List.sum).sum ≤ 12
  one : sg = true → ∀ r ∈ T, ∀ n ∈ r, n ≤ 1
theorem sum_range_getD : ∀ {r : List Nat}, ((List.range r.length).map fun k => r.getD k 0).sum = r.sum
  | [] => rfl
  | x :: r => by
    rw [List.length_cons, List.range_succ_eq_map, List.map_cons, List.map_map, List.sum_cons, List.sum_cons]
    congr 1
    have := sum_range_getD (r := r)
    rw [← this]
    congr 1
theorem sum_map_add {α : Type} {f g : α → Nat} : ∀ {l : List α}, (l.map fun x => f x + g x).sum = (l.map f).sum + (l.map g).sum
  | [] => rfl
  | x :: l => by
    simp only [List.map_cons, List.sum_cons, sum_map_add (l := l)]
    omega
theorem sum_zero : ∀ l : List Nat, (l.map fun _ => 0).sum = 0
  | [] => rfl
  | _ :: l => by rw [List.map_cons, List.sum_cons, sum_zero l]
theorem sum_cols {b : Nat} : ∀ {T : NT}, (∀ r ∈ T, r.length = b) → ((colsN T b).map List.sum).sum = (T.map List.sum).sum
  | [], _ => by
    unfold colsN
    rw [List.map_map]
    exact sum_zero _
  | r :: T, h => by
    have ih := sum_cols (b := b) (T := T) fun x hx => h x (List.mem_cons_of_mem _ hx)
    have hr := h r (by simp)
    rw [List.map_cons, List.sum_cons, ← ih]
    unfold colsN
    rw [List.map_map, List.map_map]
    have e : ((List.range b).map (List.sum ∘ colN (r :: T))) = (List.range b).map fun k => r.getD k 0 + (List.sum ∘ colN T) k := rfl
    rw [e, sum_map_add]
    congr 1
    rw [← hr]
    exact sum_range_getD
theorem letsN_mem {x : Int} : ∀ {c : List Nat} {k : Nat}, x ∈ letsN k c → (k : Int) ≤ x ∧ x < (k : Int) + (c.length : Nat)
  | [], _, h => by simp [letsN] at h
  | n :: c, k, h => by
    unfold letsN at h
    rcases List.mem_append.mp h with h | h
    · have := (List.mem_replicate.mp h).2
      simp only [List.length_cons]
      omega
    · have := letsN_mem h
      simp only [List.length_cons]
      omega
theorem letsN_le : ∀ {c : List Nat} {k : Nat}, (letsN k c).Pairwise (· ≤ ·)
  | [], _ => List.Pairwise.nil
  | n :: c, k => by
    unfold letsN
    rw [List.pairwise_append]
    refine ⟨List.pairwise_replicate.mpr (.inr (Int.le_refl _)), letsN_le, fun x hx y hy => ?_⟩
    have h1 := (List.mem_replicate.mp hx).2
    have h2 := letsN_mem hy
    omega
theorem letsN_lt : ∀ {c : List Nat} {k : Nat}, (∀ n ∈ c, n ≤ 1) → (letsN k c).Pairwise (· < ·)
  | [], _, _ => List.Pairwise.nil
  | n :: c, k, h => by
    unfold letsN
    rw [List.pairwise_append]
    refine ⟨List.pairwise_replicate.mpr (.inl (h n (by simp))), letsN_lt fun m hm => h m (List.mem_cons_of_mem _ hm), fun x hx y hy => ?_⟩
    have h1 := (List.mem_replicate.mp hx).2
    have h2 := letsN_mem hy
    omega
theorem ris_of_le {ns : List Int} (h : ns.Pairwise (· ≤ ·)) : Ris true ns := fun i x y hx hy => by
  obtain ⟨h1, e1⟩ := List.getElem?_eq_some_iff.mp hx
  obtain ⟨h2, e2⟩ := List.getElem?_eq_some_iff.mp hy
  have := List.pairwise_iff_getElem.mp h i (i + 1) h1 h2 (by omega)
  rw [e1, e2] at this
  rcases Int.lt_or_eq_of_le this with z | z
  · exact .inl z
  · exact .inr ⟨rfl, z⟩
theorem ris_of_lt {ag : Bool} {ns : List Int} (h : ns.Pairwise (· < ·)) : Ris ag ns := fun i x y hx hy => by
  obtain ⟨h1, e1⟩ := List.getElem?_eq_some_iff.mp hx
  obtain ⟨h2, e2⟩ := List.getElem?_eq_some_iff.mp hy
  have := List.pairwise_iff_getElem.mp h i (i + 1) h1 h2 (by omega)
  rw [e1, e2] at this
  exact .inl this
theorem colN_sum_le {sg : Bool} {T : NT} {a b : Nat} (h : Good sg T a b) {k : Nat} (hk : k < b) : (colN T k).sum ≤ 12 := by
  have h1 := sum_cols h.rect.row
  have h2 : (colN T k).sum ∈ (colsN T b).map List.sum := by
    unfold colsN
    rw [List.map_map]
    exact List.mem_map.mpr ⟨k, List.mem_range.mpr hk, rfl⟩
  have := le_sum _ h2
  have := h.sum
  omega
theorem lcsN_len {T : NT} {b : Nat} : (lcsN T b).length = b := by simp [lcsN, colsN]
theorem lcsN_lens {T : NT} {b : Nat} : (lcsN T b).map (·.length) = (colsN T b).map List.sum := by
  unfold lcsN
  rw [List.map_map]
  apply List.map_congr_left
  intro c _
  exact letsN_len
theorem Good.mem {sg : Bool} {T : NT} {a b : Nat} (h : Good sg T a b) : MemOk a sg (lcsN T b) := by
  have hb := h.rect.c5
  refine ⟨h.a2, h.rect.r5, fun z => ?_, by rw [lcsN_len]; exact hb, fun c hc => ?_, ?_⟩
  · have := congrArg List.length z
    rw [lcsN_len] at this
    have := h.b2
    simp at *
    omega
  · unfold lcsN colsN at hc
    rw [List.map_map] at hc
    obtain ⟨k, hk, rfl⟩ := List.mem_map.mp hc
    have hk := List.mem_range.mp hk
    have hl : (colN T k).length = a := by rw [colN_len]; exact h.rect.len
    refine ⟨fun x hx => ?_, ?_, ?_⟩
    · have := letsN_mem hx
      rw [hl] at this
      omega
    · cases sg with
      | true =>
        refine ris_of_lt (letsN_lt fun n hn => ?_)
        obtain ⟨r, hr, rfl⟩ := List.mem_map.mp hn
        have hrl := h.rect.row r hr
        refine h.one rfl r hr _ ?_
        rw [List.getD_eq_getElem?_getD, List.getElem?_eq_getElem (by omega)]
        exact List.getElem_mem _
      | false => exact ris_of_le letsN_le
    · show (letsN 0 (colN T k)).length ≤ 12
      rw [letsN_len]
      exact colN_sum_le h hk
  · rw [lcsN_lens, sum_cols h.rect.row]
    exact h.sum
/-- the table behind the transfer from lo + 1 to lo -/
def mvT (sg : Bool) (T : NT) (b lo : Nat) : Option NT := (mvC sg (lcsN T b) (lo : Int)).map (tabOf T.length)
def optN : Option NT → PyData
  | none => .none
  | some T => tabN T
/-! moved_tables -/
def R_moved_tables (ds : List PyData) (r : PyData) : Prop := ∃ (T : NT) (sg : Bool) (a b lo : Nat) (g : Int), ds = [tabN T, .int g, .int (lo : Nat), .bool sg] ∧ g = lo + 1 ∧ Good sg T a b ∧ lo + 1 < a ∧ r = optN (mvT sg T b lo)
def sp_moved_tables (K : PySem.W.Frag) : Sp := SpP R_moved_tables
def t_moved_tables (K : PySem.W.Frag) : TS := tSeq (tAsg (tCall (sp_sort_of K) [] E0 (tCons (tVar 0) (tCons (tVar 3) (tNil)))) (gName 4)) (tSeq (tAsg (tC .non) (gName 5)) (tSeq (tTry1 K (.ref (He.ga K "NoFree")) (fun W => tAsg (tCallX (sp_transfer K) W (tCons (tCB (rLen K) (tCons (tVar 0) (tNil))) (tCons (tVar 4) (tCons (tCall (sp_member_of K) [] E0 (tCons (tVar 0) (tNil))) (tCons (tVar 1) (tCons (tVar 2) (tNil))))))) (gName 5)) (tAsg (tC .non) (gName 5)) (fun _ _ _ _ => False)) (tRet (tIf (tTest (tOp (rIsNo) (tVar 5) (tC .non))) (tC .non) (tCall (sp_table_of K) [] E0 (tCons (tCB (rLen K) (tCons (tVar 0) (tNil))) (tCons (tCB (rLen K) (tCons (tOp (rIxT K) (tVar 0) (tC (.int 0))) (tNil))) (tCons (tVar 5) (tNil)))))))))
theorem len_moved_tables {K : PySem.W.Frag} {vs : List V} {H : Hp} {Q : VK} {E : XK} (h : sp_moved_tables K vs H Q E) : vs.length = 4 := spP_len h fun ds r ⟨_, _, _, _, _, _, e, _⟩ => by rw [e]; rfl
theorem run_moved_tables (K : PySem.W.Frag) (T : Ers K) (W : Wd) (n : Nat) (ds : List PyData) (r : PyData) (h : R_moved_tables ds r) : RunS W (t_moved_tables K) n (ds.map Slot.d ++ List.replicate (6 - ds.length) .non) (fun o => o = .rt n r) := by
  obtain ⟨TT, sg, a, b, lo, g, rfl, rfl, hT, hlo, rfl⟩ := h
  have hm := hT.mem
  have hlen := hT.rect.len
  refine sa (ep_call (by walk_at "ev") ⟨TT, sg, a, b, rfl, hT.rect, rfl⟩) ?_
  rw [← lcsN_lens]
  refine sa (by walk_at "ev") ?_
  have hargs : EvA (tCons (tCB (rLen K) (tCons (tVar 0) (tNil))) (tCons (tVar 4) (tCons (tCall (sp_member_of K) [] E0 (tCons (tVar 0) (tNil))) (tCons (tVar 1) (tCons (tVar 2) (tNil)))))) [.d (tabN TT), .d (.int ((lo : Int) + 1)), .d (.int (lo : Nat)), .d (.bool sg), .d (srtC sg (lcsN TT b)), .d .none] [.int (a : Nat), srtC sg (lcsN TT b), memD (lcsN TT b), .int ((lo : Int) + 1), .int (lo : Nat)] := by
    have h1 : EvP (tCB (rLen K) (tCons (tVar 0) (tNil))) [.d (tabN TT), .d (.int ((lo : Int) + 1)), .d (.int (lo : Nat)), .d (.bool sg), .d (srtC sg (lcsN TT b)), .d .none] (.int (a : Nat)) := ep_is (ep_cb (ea_cons (ep_var (d := tabN TT) rfl) ea_nil) (ca_lenT (ds := TT.map rowN))) (by rw [List.length_map, hlen])
    have h2 : EvP (tCall (sp_member_of K) [] E0 (tCons (tVar 0) (tNil))) [.d (tabN TT), .d (.int ((lo : Int) + 1)), .d (.int (lo : Nat)), .d (.bool sg), .d (srtC sg (lcsN TT b)), .d .none] (memD (lcsN TT b)) := ep_call (ea_cons (ep_var (d := tabN TT) rfl) ea_nil) ⟨TT, a, b, rfl, hT.rect, fun k hk => colN_sum_le hT hk, rfl⟩
    exact ea_cons h1 (ea_cons (ep_var (i := 4) rfl) (ea_cons h2 (ea_cons (ep_var (i := 1) rfl) (ea_cons (ep_var (i := 2) rfl) ea_nil))))
  have hr : ∀ r, (r = match mvC sg (lcsN TT b) (lo : Int) with | none => Rs.exc (xFree K (.int lo)) | some c => .val (memD c)) → R_transfer K [.int (a : Nat), srtC sg (lcsN TT b), memD (lcsN TT b), .int ((lo : Int) + 1), .int (lo : Nat)] r := fun r e => ⟨a, sg, lcsN TT b, (lo : Int), rfl, hm, by omega, by omega, e⟩
  unfold mvT
  cases hz : mvC sg (lcsN TT b) (lo : Int) with
  | none =>
    refine rs_seq (rs_try1 fun k => rs_asgX (W := W.wish k) (c := xFree K (.int lo)) (ex_callX (W := W.wish k) hargs (hr _ (by rw [hz]))) ⟨T.free.self, rs_asg (by walk_at "ev") ?_⟩)
    exact rs_ret (ep_is (ep_ifT (et_is (by walk_at "ev") (by rfl)) ep_non) rfl) rfl
  | some c =>
    have hcl := mvC_ne hz
    rw [lcsN_len] at hcl
    have hcn : c ≠ [] := fun z => by
      rw [z] at hcl
      have := hT.b2
      simp at hcl
      omega
    refine rs_seq (rs_try1 fun k => rs_asg (d := memD c) (ep_callX hargs (hr _ (by rw [hz]))) ?_)
    refine rs_ret (ep_ifF (et_is (by walk_at "ev") (isNone_mem hcn)) (ep_call (ea_cons (ep_is (ep_cb (ea_cons (ep_var rfl) ea_nil) ca_lenT) (by rw [List.length_map, hlen])) (ea_cons (ep_wid hT.rect (ep_var rfl)) (by walk_at "ev"))) ⟨a, c, by rw [hcl], hcn, by have := hT.rect.c5; omega, hT.rect.r5, rfl⟩)) ?_
    rw [hlen]
    rfl
theorem pure_moved_tables {K : PySem.W.Frag} (T : Ers K) {vs : List V} {H : Hp} {Q : VK} {E : XK} (h : sp_moved_tables K vs H Q E) : t_moved_tables K { nx := fun _ H' => Q .non H', rt := Q } (L2.start ["table", "giver", "taker", "sign", "sort", "found"] vs) H := pure_of h fun W n ds r hr => run_moved_tables K T W n ds r hr
section
variable {P : Program} {w : World} {K : PySem.W.Frag} {mg : Str → Option Value} {base : Heap}
abbrev N_moved_tables : List Str := ["table", "giver", "taker", "sign", "sort", "found"]
theorem sc_moved_tables : FnScope N_moved_tables ["table", "giver", "taker", "sign"] (defScope s_moved_tables) := ⟨rfl, rfl, rfl, by decide +kernel, rfl, by decide +kernel, by decide +kernel⟩
theorem ok_moved_tables (T : Tx K mg) : ∃ fd, FnOk P w K mg base CX0 16 (He.ga K "moved_tables") fd ["table", "giver", "taker", "sign"] (sp_moved_tables K) ∧ Binds K fd ["table", "giver", "taker", "sign"] [] := by
  have nd := sc_moved_tables.nd
  obtain ⟨_, G_table_of, b_table_of⟩ := ok_table_of (P := P) (w := w) (base := base) T
  obtain ⟨_, G_transfer, b_transfer⟩ := ok_transfer (P := P) (w := w) (base := base) T
  obtain ⟨_, G_member_of, b_member_of⟩ := ok_member_of (P := P) (w := w) (base := base) T
  obtain ⟨_, G_sort_of, b_sort_of⟩ := ok_sort_of (P := P) (w := w) (base := base) T
  obtain ⟨fd, F⟩ := T.d_moved_tables
  refine ⟨fd, FunD.ok F sc_moved_tables (fun vs H Q E h => len_moved_tables h) (fun cdv A outer s H vs Q E hr h => ⟨t_moved_tables K, PSs.nox ?_, pure_moved_tables (ers T) h⟩), F.bindsN fun _ _ _ _ _ _ us hl => match us, hl with | [_, _, _, _], _ => rfl⟩
  exact pss_cons (ps_set (i := 4) nd rfl (Or.inl rfl) (pe_call G_sort_of (hr.mono (by omega)) rfl T.g_sort_of T.k_sort_of b_sort_of .nil pass0 (pa_cons (pv 0) (pa_cons (pv 3) (pa_nil))))) (pss_cons (ps_set (i := 5) nd rfl (Or.inl rfl) (pe_non)) (pss_cons (ps_try1 rfl rfl (c := .ref (He.ga K "NoFree")) ⟨rfl, by decide, .inl T.g_NoFree⟩ (takes_none5) (fun W pn xe htk hpo => pss_one (ps_set (i := 5) nd rfl (Or.inl rfl) (pe_callX G_transfer (hr.mono (by omega)) rfl T.g_transfer T.k_transfer b_transfer htk (pa_cons (pe_callB call_len_seq (by rfl) T.f_len (by decide +kernel) (pa_cons (pv 0) (pa_nil))) (pa_cons (pv 4) (pa_cons (pe_call G_member_of (hr.mono (by omega)) rfl T.g_member_of T.k_member_of b_member_of .nil pass0 (pa_cons (pv 0) (pa_nil))) (pa_cons (pv 1) (pa_cons (pv 2) (pa_nil))))))))) (fun _ _ _ _ _ _ _ => pss_one (ps_set (i := 5) nd rfl (Or.inl rfl) (pe_non)))) (pss_one (ps_ret (pe_ifExp (pt_cmpR op_isN (pv 5) (pe_non) (nomark _)) (pe_non) (pe_call G_table_of (hr.mono (by omega)) rfl T.g_table_of T.k_table_of b_table_of .nil pass0 (pa_cons (pe_callB call_len_seq (by rfl) T.f_len (by decide +kernel) (pa_cons (pv 0) (pa_nil))) (pa_cons (pe_callB call_len_seq (by rfl) T.f_len (by decide +kernel) (pa_cons (pe_ix ix_tup (pv 0) (pe_int) (fun _ _ => rfl)) (pa_nil))) (pa_cons (pv 5) (pa_nil))))))))))
end
end Uh

set_option Elab.async false
set_option linter.all false
set_option maxRecDepth 100000
set_option maxHeartbeats 200000
/-! What mvT does, said of functions. -/
namespace Uh
open PySem L2
/-! ### words of brackets by blocks -/
/-- the place of the last free closing bracket: q opened ahead; g k = (closing, opening) of block k -/
def lf (g : Nat → Nat × Nat) : List Nat → Nat → Option Nat
  | [], _ => none
  | k :: ks, q => (lf g ks (q - (g k).1 + (g k).2)).or (if q < (g k).1 then some k else none)
theorem lf_map {g : Nat → Nat × Nat} {f : Nat → Nat} : ∀ {ks : List Nat} {q : Nat}, lf g (ks.map f) q = (lf (fun k => g (f k)) ks q).map f
  | [], _ => rfl
  | k :: ks, q => by
    show (lf g (ks.map f) _).or _ = ((lf _ ks _).or _).map f
    rw [lf_map]
    cases lf (fun k => g (f k)) ks (q - (g (f k)).1 + (g (f k)).2) with
    | some _ => rfl
    | none =>
      show (if q < (g (f k)).1 then some (f k) else none) = Option.map f (if q < (g (f k)).1 then some k else none)
      split <;> rfl
theorem lf_congr {g h : Nat → Nat × Nat} : ∀ {ks : List Nat} {q : Nat}, (∀ k ∈ ks, g k = h k) → lf g ks q = lf h ks q
  | [], _, _ => rfl
  | k :: ks, q, e => by
    show (lf g ks _).or _ = (lf h ks _).or _
    rw [e k (by simp), lf_congr fun x hx => e x (List.mem_cons_of_mem _ hx)]
theorem lf_some {g : Nat → Nat × Nat} {k : Nat} : ∀ {ks : List Nat} {q : Nat}, lf g ks q = some k → k ∈ ks ∧ 0 < (g k).1
  | [], _, h => by simp [lf] at h
  | x :: ks, q, h => by
    have h' : (lf g ks (q - (g x).1 + (g x).2)).or (if q < (g x).1 then some x else none) = some k := h
    cases hz : lf g ks (q - (g x).1 + (g x).2) with
    | some m =>
      rw [hz] at h'
      have e : m = k := by simpa using h'
      subst e
      obtain ⟨h1, h2⟩ := lf_some hz
      exact ⟨List.mem_cons_of_mem _ h1, h2⟩
    | none =>
      rw [hz] at h'
      by_cases hq : q < (g x).1
      · rw [if_pos hq] at h'
        have e : x = k := by simpa using h'
        subst e
        exact ⟨by simp, by omega⟩
      · rw [if_neg hq] at h'
        simp at h'
/-- brackets of an entry above and one below: p closing, o opening; signs: equal ones drop out -/
def bet (sg : Bool) (p o : Nat) : Nat × Nat := if sg then (p - o, o - p) else (p, o)
/-! ### one block -/
theorem fold_close {α : Type} (x : α) : ∀ (p : Nat) (s : List α × List α), (List.replicate p (true, x)).foldl stepB s = (s.1 ++ List.replicate (p - s.2.length) x, s.2.take (s.2.length - p))
  | 0, s => by simp
  | p + 1, s => by
    rw [List.replicate_succ, List.foldl_cons, fold_close x p]
    unfold stepB
    cases h : s.2 with
    | nil => simp [List.replicate_succ]
    | cons y l =>
      simp only [if_true, List.isEmpty_cons, Bool.false_eq_true, if_false, List.length_dropLast, List.length_cons]
      have e1 : p - (l.length + 1 - 1) = p + 1 - (l.length + 1) := by omega
      rw [e1]
      congr 1
      rw [List.dropLast_eq_take, List.take_take, List.length_cons]
      congr 1
      omega
theorem fold_open {α : Type} (y : α) : ∀ (o : Nat) (s : List α × List α), (List.replicate o (false, y)).foldl stepB s = (s.1, s.2 ++ List.replicate o y)
  | 0, s => by simp
  | o + 1, s => by
    rw [List.replicate_succ, List.foldl_cons, fold_open y o]
    unfold stepB
    simp [List.replicate_succ]
theorem npl_blk {sg : Bool} {c : List Int} {lo hi : Int} (h : sg = true → c.count lo ≤ 1 ∧ c.count hi ≤ 1) : npl sg c lo hi = List.replicate (bet sg (c.count hi) (c.count lo)).1 (true, stead c hi lo) ++ List.replicate (bet sg (c.count hi) (c.count lo)).2 (false, stead c lo hi) := by
  cases sg with
  | false => rfl
  | true =>
    obtain ⟨h1, h2⟩ := h rfl
    have c1 : c.contains lo = decide (0 < c.count lo) := by
      rw [Bool.eq_iff_iff]
      simp [List.count_pos_iff]
    have c2 : c.contains hi = decide (0 < c.count hi) := by
      rw [Bool.eq_iff_iff]
      simp [List.count_pos_iff]
    unfold npl bet
    rw [if_pos rfl, if_pos rfl, c1, c2]
    have a1 : c.count lo = 0 ∨ c.count lo = 1 := by omega
    have a2 : c.count hi = 0 ∨ c.count hi = 1 := by omega
    rcases a1 with e1 | e1 <;> rcases a2 with e2 | e2 <;> simp [e1, e2]
/-- the counts of a column's letters -/
def blkC2 (sg : Bool) (lo hi : Int) (c : List Int) : Nat × Nat := bet sg (c.count hi) (c.count lo)
def lfC (sg : Bool) (lo hi : Int) : List (List Int) → Nat → Option (List (List Int))
  | [], _ => none
  | c :: cs, q => ((lfC sg lo hi cs (q - (blkC2 sg lo hi c).1 + (blkC2 sg lo hi c).2)).map (c :: ·)).or (if q < (blkC2 sg lo hi c).1 then some (stead c hi lo :: cs) else none)
theorem plc_last {sg : Bool} {lo hi : Int} : ∀ {cs : List (List Int)} {α : Type} (g : List (List Int) → α) (s : List α × List α), (sg = true → ∀ c ∈ cs, c.count lo ≤ 1 ∧ c.count hi ≤ 1) →
    (((plc sg cs lo hi).map fun p => (p.1, g p.2)).foldl stepB s).1.getLast? = ((lfC sg lo hi cs s.2.length).map g).or s.1.getLast?
  | [], _, g, s, _ => rfl
  | c :: cs, _, g, s, h => by
    have e1 : ((plc sg (c :: cs) lo hi).map fun p => (p.1, g p.2)) = ((npl sg c lo hi).map fun p => (p.1, g (p.2 :: cs))) ++ ((plc sg cs lo hi).map fun p => (p.1, g (c :: p.2))) := by
      show List.map _ (_ ++ _) = _
      rw [List.map_append, List.map_map, List.map_map]
      rfl
    rw [e1, List.foldl_append, npl_blk (fun hs => h hs c (by simp)), List.map_append, List.map_replicate, List.map_replicate, List.foldl_append, fold_close, fold_open]
    rw [plc_last (fun x => g (c :: x)) _ fun hs x hx => h hs x (List.mem_cons_of_mem _ hx)]
    have el : (s.2.take (s.2.length - (bet sg (c.count hi) (c.count lo)).1) ++ List.replicate (bet sg (c.count hi) (c.count lo)).2 (g (stead c lo hi :: cs))).length = s.2.length - (blkC2 sg lo hi c).1 + (blkC2 sg lo hi c).2 := by
      rw [List.length_append, List.length_take, List.length_replicate]
      unfold blkC2
      omega
    show ((lfC sg lo hi cs (_ : List _).length).map _).or _ = _
    rw [el]
    show _ = ((((lfC sg lo hi cs (s.2.length - (blkC2 sg lo hi c).1 + (blkC2 sg lo hi c).2)).map (c :: ·)).or (if s.2.length < (blkC2 sg lo hi c).1 then some (stead c hi lo :: cs) else none)).map g).or _
    cases lfC sg lo hi cs (s.2.length - (blkC2 sg lo hi c).1 + (blkC2 sg lo hi c).2) with
    | some m => rfl
    | none =>
      show (s.1 ++ List.replicate ((blkC2 sg lo hi c).1 - s.2.length) (g (stead c hi lo :: cs))).getLast? = ((if s.2.length < (blkC2 sg lo hi c).1 then some (stead c hi lo :: cs) else none).map g).or _
      by_cases hq : s.2.length < (blkC2 sg lo hi c).1
      · rw [if_pos hq]
        obtain ⟨m, hm⟩ : ∃ m, (blkC2 sg lo hi c).1 - s.2.length = m + 1 := ⟨(blkC2 sg lo hi c).1 - s.2.length - 1, by omega⟩
        rw [hm, List.replicate_succ', ← List.append_assoc]
        simp
      · rw [if_neg hq, show (blkC2 sg lo hi c).1 - s.2.length = 0 by omega]
        simp
theorem mvC_lf {sg : Bool} {cs : List (List Int)} {lo : Int} (h : sg = true → ∀ c ∈ cs, c.count lo ≤ 1 ∧ c.count (lo + 1) ≤ 1) : mvC sg cs lo = lfC sg lo (lo + 1) cs 0 := by
  have := plc_last (sg := sg) (lo := lo) (hi := lo + 1) (cs := cs) id ([], []) h
  unfold mvC scanB
  have e : ((plc sg cs lo (lo + 1)).map fun p => (p.1, id p.2)) = plc sg cs lo (lo + 1) := by
    show (plc sg cs lo (lo + 1)).map (fun p => p) = _
    rw [List.map_id']
  rw [e] at this
  rw [this]
  cases lfC sg lo (lo + 1) cs 0 <;> rfl
theorem lfC_lf {sg : Bool} {lo hi : Int} : ∀ {cs : List (List Int)} {q : Nat}, lfC sg lo hi cs q = (lf (fun k => blkC2 sg lo hi (cs.getD k [])) (List.range cs.length) q).map fun k => cs.set k (stead (cs.getD k []) hi lo)
  | [], _ => rfl
  | c :: cs, q => by
    rw [List.length_cons, List.range_succ_eq_map]
    show ((lfC sg lo hi cs (q - (blkC2 sg lo hi c).1 + (blkC2 sg lo hi c).2)).map (c :: ·)).or _ = ((lf _ ((List.range cs.length).map Nat.succ) (q - (blkC2 sg lo hi c).1 + (blkC2 sg lo hi c).2)).or (if q < (blkC2 sg lo hi c).1 then some 0 else none)).map _
    rw [lfC_lf, lf_map]
    have e : (fun k => blkC2 sg lo hi ((c :: cs).getD (Nat.succ k) [])) = fun k => blkC2 sg lo hi (cs.getD k []) := by
      funext k
      simp
    rw [e]
    cases lf (fun k => blkC2 sg lo hi (cs.getD k [])) (List.range cs.length) (q - (blkC2 sg lo hi c).1 + (blkC2 sg lo hi c).2) with
    | some m => simp
    | none =>
      show (if q < (blkC2 sg lo hi c).1 then some (stead c hi lo :: cs) else none) = Option.map _ (if q < (blkC2 sg lo hi c).1 then some 0 else none)
      split <;> simp
/-! ### tables as functions -/
def fnT (T : NT) (i j : Nat) : Nat := (T.getD i []).getD j 0
def tab (a b : Nat) (M : Nat → Nat → Nat) : NT := (List.range a).map fun i => (List.range b).map fun j => M i j
theorem fnT_tab {a b : Nat} {M : Nat → Nat → Nat} {i j : Nat} (hi : i < a) (hj : j < b) : fnT (tab a b M) i j = M i j := by
  unfold fnT tab
  simp [List.getD, hi, hj]
theorem tab_congr {a b : Nat} {M N : Nat → Nat → Nat} (h : ∀ i j, i < a → j < b → M i j = N i j) : tab a b M = tab a b N := by
  unfold tab
  apply List.map_congr_left
  intro i hi
  apply List.map_congr_left
  intro j hj
  exact h i j (List.mem_range.mp hi) (List.mem_range.mp hj)
theorem tab_fnT {T : NT} {a b : Nat} (h : Rect T a b) : tab a b (fnT T) = T := by
  unfold tab
  apply List.ext_getElem
  · rw [List.length_map, List.length_range, h.len]
  · intro i h1 h2
    rw [List.getElem_map, List.getElem_range]
    have hr := h.row T[i] (List.getElem_mem _)
    apply List.ext_getElem
    · rw [List.length_map, List.length_range, hr]
    · intro j h3 h4
      rw [List.getElem_map, List.getElem_range]
      unfold fnT
      simp [List.getD, h2, h4]
theorem rect_tab {a b : Nat} {M : Nat → Nat → Nat} (a1 : 1 ≤ a) (a5 : a ≤ 5) (b1 : 1 ≤ b) (b5 : b ≤ 5) : Rect (tab a b M) a b := by
  refine ⟨by simp [tab], fun x hx => ?_, a1, a5, b1, b5⟩
  unfold tab at hx
  obtain ⟨i, _, rfl⟩ := List.mem_map.mp hx
  simp
theorem colN_get {T : NT} {i k : Nat} (hi : i < T.length) : (colN T k).getD i 0 = fnT T i k := by
  unfold colN fnT
  simp [List.getD, hi]
theorem letsN_count : ∀ {c : List Nat} {k i : Nat}, (letsN k c).count (((k + i : Nat)) : Int) = c.getD i 0
  | [], _, _ => by simp [letsN]
  | n :: c, k, 0 => by
    unfold letsN
    rw [List.count_append, Nat.add_zero, List.count_replicate_self]
    have : (letsN (k + 1) c).count ((k : Nat) : Int) = 0 := by
      rw [List.count_eq_zero]
      intro h
      have := letsN_mem h
      omega
    rw [this]
    simp
  | n :: c, k, i + 1 => by
    unfold letsN
    rw [List.count_append, List.count_replicate]
    have e : (((k + (i + 1) : Nat) : Int)) = ((k + 1 + i : Nat) : Int) := by omega
    rw [if_neg (by simp; omega), e, letsN_count]
    simp
theorem count_lets {T : NT} {b i j : Nat} (hi : i < T.length) (hj : j < b) : ((lcsN T b).getD j []).count ((i : Nat) : Int) = fnT T i j := by
  have e : (lcsN T b).getD j [] = letsN 0 (colN T j) := by
    unfold lcsN colsN
    simp [List.getD, hj]
  rw [e]
  have := letsN_count (c := colN T j) (k := 0) (i := i)
  rw [Nat.zero_add] at this
  rw [this, colN_get hi]
/-- one mark of name lo + 1 given to lo in column k -/
def mvF (lo k : Nat) (M : Nat → Nat → Nat) : Nat → Nat → Nat := fun i j => if j = k then (if i = lo then M i j + 1 else if i = lo + 1 then M i j - 1 else M i j) else M i j
/-- the brackets of lo + 1 and lo in column k -/
def gA (sg : Bool) (M : Nat → Nat → Nat) (lo k : Nat) : Nat × Nat := bet sg (M (lo + 1) k) (M lo k)
theorem stead_count {c : List Int} {hi lo x : Int} (hm : hi ∈ c) (hne : lo ≠ hi) : (stead c hi lo).count x = if x = lo then c.count x + 1 else if x = hi then c.count x - 1 else c.count x := by
  rw [stead_perm.count_eq, List.count_cons, List.count_erase]
  by_cases h1 : x = lo
  · subst h1
    rw [if_pos rfl]
    simp [hne, Ne.symm hne]
  · rw [if_neg h1]
    by_cases h2 : x = hi
    · subst h2
      simp [h1, hne]
    · simp [h1, h2, Ne.symm h1, Ne.symm h2]
theorem fnT_one {sg : Bool} {T : NT} {a b i j : Nat} (h : Good sg T a b) (hs : sg = true) : fnT T i j ≤ 1 := by
  unfold fnT
  by_cases hi : i < T.length
  · have e : T.getD i [] = T[i] := by simp [List.getD, hi]
    rw [e]
    by_cases hj : j < T[i].length
    · have e2 : T[i].getD j 0 = T[i][j] := by simp [List.getD, hj]
      rw [e2]
      exact h.one hs _ (List.getElem_mem _) _ (List.getElem_mem _)
    · have e2 : T[i].getD j 0 = 0 := by simp [List.getD, Nat.not_lt.mp hj]
      rw [e2]
      exact Nat.zero_le _
  · have e : T.getD i [] = [] := by simp [List.getD, Nat.not_lt.mp hi]
    rw [e]
    exact Nat.zero_le _
theorem mvT_eq {sg : Bool} {T : NT} {a b lo : Nat} (h : Good sg T a b) (hlo : lo + 1 < a) : mvT sg T b lo = (lf (gA sg (fnT T) lo) (List.range b) 0).map fun k => tab a b (mvF lo k (fnT T)) := by
  have hl := h.rect.len
  have one : sg = true → ∀ i j, fnT T i j ≤ 1 := fun hs i j => fnT_one h hs
  have hcnt : sg = true → ∀ c ∈ lcsN T b, c.count ((lo : Nat) : Int) ≤ 1 ∧ c.count (((lo : Nat) : Int) + 1) ≤ 1 := fun hs c hc => by
    obtain ⟨j, hj⟩ := List.mem_iff_getElem?.mp hc
    have hjb : j < b := by
      have := (List.getElem?_eq_some_iff.mp hj).1
      rwa [lcsN_len] at this
    have e : (lcsN T b).getD j [] = c := by rw [List.getD_eq_getElem?_getD, hj]; rfl
    have c1 := count_lets (T := T) (b := b) (i := lo) (j := j) (by omega) hjb
    have c2 := count_lets (T := T) (b := b) (i := lo + 1) (j := j) (by omega) hjb
    rw [e] at c1 c2
    have e3 : (((lo + 1 : Nat)) : Int) = (lo : Int) + 1 := by omega
    rw [e3] at c2
    rw [c1, c2]
    exact ⟨one hs _ _, one hs _ _⟩
  unfold mvT
  rw [mvC_lf hcnt, lfC_lf, lcsN_len]
  have eg : ∀ k ∈ List.range b, blkC2 sg (lo : Int) ((lo : Int) + 1) ((lcsN T b).getD k []) = gA sg (fnT T) lo k := fun k hk => by
    have hk := List.mem_range.mp hk
    unfold blkC2 gA
    have e3 : (((lo + 1 : Nat)) : Int) = (lo : Int) + 1 := by omega
    rw [← e3, count_lets (by omega) hk, count_lets (by omega) hk]
  rw [lf_congr eg, Option.map_map]
  cases hz : lf (gA sg (fnT T) lo) (List.range b) 0 with
  | none => rfl
  | some k =>
    obtain ⟨hk, hp⟩ := lf_some hz
    have hk := List.mem_range.mp hk
    have hpos : 0 < fnT T (lo + 1) k := by
      unfold gA bet at hp
      split at hp
      · simp at hp
        omega
      · exact hp
    show some (tabOf T.length ((lcsN T b).set k (stead ((lcsN T b).getD k []) ((lo : Int) + 1) lo))) = some _
    congr 1
    unfold tabOf tab
    rw [hl]
    apply List.map_congr_left
    intro i hi
    have hi := List.mem_range.mp hi
    have e3 : (((lo + 1 : Nat)) : Int) = (lo : Int) + 1 := by omega
    have hmem : ((lo : Int) + 1) ∈ (lcsN T b).getD k [] := by
      rw [← List.count_pos_iff, ← e3, count_lets (by omega) hk]
      exact hpos
    apply List.ext_getElem
    · simp [lcsN_len]
    · intro j h1 h2
      have hj : j < b := by simpa using h2
      rw [List.getElem_map, List.getElem_map, List.getElem_range, List.getElem_set]
      have ecj : ∀ (hh : j < (lcsN T b).length), (lcsN T b)[j] = (lcsN T b).getD j [] := fun hh => by rw [List.getD_eq_getElem?_getD, List.getElem?_eq_getElem hh]; rfl
      unfold mvF
      by_cases hjk : k = j
      · subst hjk
        rw [if_pos rfl, if_pos rfl, stead_count hmem (by omega), count_lets (by omega) hk]
        by_cases c1 : i = lo
        · rw [if_pos (by omega), if_pos c1]
        · rw [if_neg (by omega), if_neg c1]
          by_cases c2 : i = lo + 1
          · rw [if_pos (by omega), if_pos c2]
          · rw [if_neg (by omega), if_neg c2]
      · rw [if_neg hjk, if_neg (Ne.symm hjk), ecj, count_lets (by omega) hj]
end Uh

set_option Elab.async false
set_option linter.all false
set_option maxRecDepth 100000
set_option maxHeartbeats 400000
/-! Transfers along and across commute. -/
namespace Uh
def qf (g : Nat → Nat × Nat) (P : List Nat) (q : Nat) : Nat := P.foldl (fun q k => q - (g k).1 + (g k).2) q
theorem lf_append {g : Nat → Nat × Nat} : ∀ {P S : List Nat} {q : Nat}, lf g (P ++ S) q = (lf g S (qf g P q)).or (lf g P q)
  | [], S, q => by
    show lf g S q = (lf g S q).or none
    cases lf g S q <;> rfl
  | k :: P, S, q => by
    show (lf g (P ++ S) _).or _ = (lf g S (qf g P _)).or ((lf g P _).or _)
    rw [lf_append]
    cases lf g S (qf g P (q - (g k).1 + (g k).2)) <;> rfl
theorem qf_congr {g h : Nat → Nat × Nat} : ∀ {P : List Nat} {q : Nat}, (∀ k ∈ P, g k = h k) → qf g P q = qf h P q
  | [], _, _ => rfl
  | k :: P, q, e => by
    show qf g P (q - (g k).1 + (g k).2) = qf h P (q - (h k).1 + (h k).2)
    rw [e k (by simp), qf_congr fun x hx => e x (List.mem_cons_of_mem _ hx)]
def q1 (g : Nat → Nat × Nat) (x q : Nat) : Nat := q - (g x).1 + (g x).2
/-- where the last free closing bracket of two blocks stands -/
def sel (g : Nat → Nat × Nat) (x y q : Nat) : Option Nat := if q1 g x q < (g y).1 then some y else if q < (g x).1 then some x else none
theorem lf_split {g : Nat → Nat × Nat} {P S : List Nat} {x y : Nat} : lf g (P ++ x :: y :: S) 0 = (lf g S (q1 g y (q1 g x (qf g P 0)))).or ((sel g x y (qf g P 0)).or (lf g P 0)) := by
  rw [lf_append]
  show ((((lf g S _).or (if q1 g x (qf g P 0) < (g y).1 then some y else none))).or (if qf g P 0 < (g x).1 then some x else none)).or _ = _
  unfold sel
  show ((((lf g S (q1 g y (q1 g x (qf g P 0)))).or (if q1 g x (qf g P 0) < (g y).1 then some y else none))).or (if qf g P 0 < (g x).1 then some x else none)).or _ = _
  cases lf g S (q1 g y (q1 g x (qf g P 0))) with
  | some _ => rfl
  | none =>
    split <;> rfl
structure Spl (ks P S : List Nat) (x y : Nat) : Prop where
  eq : ks = P ++ x :: y :: S
  p : ∀ m ∈ P, m ≠ x ∧ m ≠ y
  s : ∀ m ∈ S, m ≠ x ∧ m ≠ y
/-- two words that differ in two blocks, which are the same to the rest -/
theorem lf_pair {g h : Nat → Nat × Nat} {ks P S : List Nat} {x y : Nat} (sp : Spl ks P S x y) (e : ∀ m ∈ ks, m ≠ x → m ≠ y → g m = h m) (e2 : ∀ q, q1 g y (q1 g x q) = q1 h y (q1 h x q)) (e3 : ∀ q, (sel g x y q).isSome = (sel h x y q).isSome) :
    (lf h ks 0 = lf g ks 0 ∧ lf g ks 0 ≠ some x ∧ lf g ks 0 ≠ some y) ∨ (∃ q k m, lf g ks 0 = some k ∧ lf h ks 0 = some m ∧ sel g x y q = some k ∧ sel h x y q = some m ∧ q = qf g P 0 ∧ q = qf h P 0) := by
  have eP : ∀ k ∈ P, g k = h k := fun k hk => e k (by rw [sp.eq]; exact List.mem_append_left _ hk) (sp.p k hk).1 (sp.p k hk).2
  have eS : ∀ k ∈ S, g k = h k := fun k hk => e k (by rw [sp.eq]; exact List.mem_append_right _ (List.mem_cons_of_mem _ (List.mem_cons_of_mem _ hk))) (sp.s k hk).1 (sp.s k hk).2
  have hq := qf_congr (q := 0) eP
  rw [sp.eq, lf_split, lf_split, ← hq, ← e2, ← lf_congr eS, ← lf_congr eP]
  cases hS : lf g S (q1 g y (q1 g x (qf g P 0))) with
  | some m =>
    left
    have hm := sp.s m (lf_some hS).1
    exact ⟨rfl, by simpa using hm.1, by simpa using hm.2⟩
  | none =>
    have h3 := e3 (qf g P 0)
    cases hg : sel g x y (qf g P 0) with
    | some k =>
      rw [hg] at h3
      obtain ⟨m, hm⟩ := Option.isSome_iff_exists.mp h3.symm
      right
      exact ⟨qf g P 0, k, m, rfl, by rw [hm]; rfl, hg, hm, rfl, rfl⟩
    | none =>
      rw [hg] at h3
      have hm : sel h x y (qf g P 0) = none := by
        cases z : sel h x y (qf g P 0) with
        | none => rfl
        | some _ => rw [z] at h3; cases h3
      left
      rw [hm]
      refine ⟨rfl, ?_, ?_⟩
      · intro z
        have z' : lf g P 0 = some x := z
        exact (sp.p x (lf_some z').1).1 rfl
      · intro z
        have z' : lf g P 0 = some y := z
        exact (sp.p y (lf_some z').1).2 rfl
theorem lf_sel {g : Nat → Nat × Nat} {ks P S : List Nat} {x y k : Nat} (sp : Spl ks P S x y) (h : lf g ks 0 = some k) (hk : k = x ∨ k = y) : sel g x y (qf g P 0) = some k := by
  rw [sp.eq, lf_split] at h
  cases hS : lf g S (q1 g y (q1 g x (qf g P 0))) with
  | some m =>
    rw [hS] at h
    have e : m = k := by simpa using h
    have hm := sp.s m (lf_some hS).1
    rcases hk with z | z
    · exact absurd (e.trans z) hm.1
    · exact absurd (e.trans z) hm.2
  | none =>
    rw [hS] at h
    cases hg : sel g x y (qf g P 0) with
    | some m =>
      rw [hg] at h
      exact h
    | none =>
      rw [hg] at h
      have h' : lf g P 0 = some k := h
      have hm := sp.p k (lf_some h').1
      rcases hk with z | z
      · exact absurd z hm.1
      · exact absurd z hm.2
/-! ### along and across -/
abbrev Fn := Nat → Nat → Nat
def gB (sg : Bool) (M : Fn) (j k : Nat) : Nat × Nat := bet sg (M k (j + 1)) (M k j)
def mvB (j k : Nat) (M : Fn) : Fn := fun i l => if i = k then (if l = j then M i l + 1 else if l = j + 1 then M i l - 1 else M i l) else M i l
def rowsL (sg : Bool) (a : Nat) : List Nat := if sg then (List.range a).reverse else List.range a
def opA (sg : Bool) (b : Nat) (M : Fn) (lo : Nat) : Option Fn := (lf (gA sg M lo) (List.range b) 0).map fun k => mvF lo k M
def opB (sg : Bool) (a : Nat) (M : Fn) (j : Nat) : Option Fn := (lf (gB sg M j) (rowsL sg a) 0).map fun k => mvB j k M
theorem spl_range {b j : Nat} (h : j + 1 < b) : ∃ P S, Spl (List.range b) P S j (j + 1) := by
  refine ⟨List.range j, (List.range (b - j - 2)).map fun k => j + 2 + k, ?_, fun m hm => ?_, fun m hm => ?_⟩
  · obtain ⟨n, rfl⟩ : ∃ n, b = j + (2 + n) := ⟨b - j - 2, by omega⟩
    rw [List.range_add, List.range_add, show j + (2 + n) - j - 2 = n by omega, List.map_append, List.map_map]
    show _ ++ ([j + 0, j + 1] ++ _) = _ ++ j :: (j + 1) :: _
    congr 1
    show j :: (j + 1) :: _ = _
    congr 2
    apply List.map_congr_left
    intro k _
    show j + (2 + k) = j + 2 + k
    omega
  · have := List.mem_range.mp hm
    omega
  · obtain ⟨k, _, rfl⟩ := List.mem_map.mp hm
    omega
/-- the two blocks in the order of the word -/
def rx (sg : Bool) (lo : Nat) : Nat := if sg then lo + 1 else lo
def ry (sg : Bool) (lo : Nat) : Nat := if sg then lo else lo + 1
theorem spl_rows {sg : Bool} {a lo : Nat} (h : lo + 1 < a) : ∃ P S, Spl (rowsL sg a) P S (rx sg lo) (ry sg lo) := by
  obtain ⟨P, S, sp⟩ := spl_range h
  cases sg with
  | false => exact ⟨P, S, sp⟩
  | true =>
    refine ⟨S.reverse, P.reverse, ?_, fun m hm => ?_, fun m hm => ?_⟩
    · show (List.range a).reverse = _
      rw [sp.eq]
      simp [rx, ry]
    · have := sp.s m (List.mem_reverse.mp hm)
      exact ⟨this.2, this.1⟩
    · have := sp.p m (List.mem_reverse.mp hm)
      exact ⟨this.2, this.1⟩
theorem mvF_v0 {M : Fn} {lo j : Nat} : mvF lo j M lo j = M lo j + 1 ∧ mvF lo j M (lo + 1) j = M (lo + 1) j - 1 ∧ mvF lo j M lo (j + 1) = M lo (j + 1) ∧ mvF lo j M (lo + 1) (j + 1) = M (lo + 1) (j + 1) := by
  unfold mvF
  refine ⟨?_, ?_, ?_, ?_⟩ <;> simp
theorem mvF_v1 {M : Fn} {lo j : Nat} : mvF lo (j + 1) M lo j = M lo j ∧ mvF lo (j + 1) M (lo + 1) j = M (lo + 1) j ∧ mvF lo (j + 1) M lo (j + 1) = M lo (j + 1) + 1 ∧ mvF lo (j + 1) M (lo + 1) (j + 1) = M (lo + 1) (j + 1) - 1 := by
  unfold mvF
  refine ⟨?_, ?_, ?_, ?_⟩ <;> simp
theorem mvB_v0 {M : Fn} {lo j : Nat} : mvB j lo M lo j = M lo j + 1 ∧ mvB j lo M (lo + 1) j = M (lo + 1) j ∧ mvB j lo M lo (j + 1) = M lo (j + 1) - 1 ∧ mvB j lo M (lo + 1) (j + 1) = M (lo + 1) (j + 1) := by
  unfold mvB
  refine ⟨?_, ?_, ?_, ?_⟩ <;> simp
theorem mvB_v1 {M : Fn} {lo j : Nat} : mvB j (lo + 1) M lo j = M lo j ∧ mvB j (lo + 1) M (lo + 1) j = M (lo + 1) j + 1 ∧ mvB j (lo + 1) M lo (j + 1) = M lo (j + 1) ∧ mvB j (lo + 1) M (lo + 1) (j + 1) = M (lo + 1) (j + 1) - 1 := by
  unfold mvB
  refine ⟨?_, ?_, ?_, ?_⟩ <;> simp
theorem sel_two {g : Nat → Nat × Nat} {x y q k : Nat} (hxy : x ≠ y) : sel g x y q = some k ↔ (k = y ∧ q1 g x q < (g y).1) ∨ (k = x ∧ ¬ q1 g x q < (g y).1 ∧ q < (g x).1) := by
  unfold sel
  split
  · constructor
    · intro h
      exact .inl ⟨by simpa using h.symm, by assumption⟩
    · rintro (⟨rfl, _⟩ | ⟨_, h, _⟩)
      · rfl
      · contradiction
  · split
    · constructor
      · intro h
        exact .inr ⟨by simpa using h.symm, by assumption, by assumption⟩
      · rintro (⟨_, h⟩ | ⟨rfl, _, _⟩)
        · contradiction
        · rfl
    · constructor
      · intro h
        cases h
      · rintro (⟨_, h⟩ | ⟨_, _, h⟩) <;> contradiction
theorem sel_is {g : Nat → Nat × Nat} {x y q : Nat} : (sel g x y q).isSome = decide (q1 g x q < (g y).1 ∨ q < (g x).1) := by
  unfold sel
  split
  · simp [*]
  · split
    · simp [*]
    · simp [*]
/-- the transfer along in the two columns is nothing to the rest of the word across -/
theorem pairB {sg : Bool} {M : Fn} {lo j q k : Nat} (one : sg = true → ∀ i l, M i l ≤ 1) (h : sel (gA sg M lo) j (j + 1) q = some k) :
    (∀ r, q1 (gB sg M j) (ry sg lo) (q1 (gB sg M j) (rx sg lo) r) = q1 (gB sg (mvF lo k M) j) (ry sg lo) (q1 (gB sg (mvF lo k M) j) (rx sg lo) r)) ∧
    ∀ r, (sel (gB sg M j) (rx sg lo) (ry sg lo) r).isSome = (sel (gB sg (mvF lo k M) j) (rx sg lo) (ry sg lo) r).isSome := by
  rw [sel_two (by omega)] at h
  have o1 := fun hs => one hs lo j
  have o2 := fun hs => one hs lo (j + 1)
  have o3 := fun hs => one hs (lo + 1) j
  have o4 := fun hs => one hs (lo + 1) (j + 1)
  rcases h with ⟨rfl, h⟩ | ⟨rfl, h, h'⟩
  · obtain ⟨v1, v2, v3, v4⟩ := mvF_v1 (M := M) (lo := lo) (j := j)
    constructor <;> intro r <;> try rw [sel_is, sel_is]
    all_goals
      unfold q1 gA at h
      unfold q1 gB
      cases sg <;> simp only [bet, rx, ry, if_true, Bool.false_eq_true, if_false, v1, v2, v3, v4] at h ⊢ <;> (try simp only [forall_const, false_implies, Bool.false_eq_true, decide_eq_decide] at o1 o2 o3 o4 ⊢) <;> omega
  · obtain ⟨v1, v2, v3, v4⟩ := mvF_v0 (M := M) (lo := lo) (j := k)
    constructor <;> intro r <;> try rw [sel_is, sel_is]
    all_goals
      unfold q1 gA at h
      unfold gA at h'
      unfold q1 gB
      cases sg <;> simp only [bet, rx, ry, if_true, Bool.false_eq_true, if_false, v1, v2, v3, v4] at h h' ⊢ <;> (try simp only [forall_const, false_implies, Bool.false_eq_true, decide_eq_decide] at o1 o2 o3 o4 ⊢) <;> omega
theorem rxy {sg : Bool} {lo : Nat} : rx sg lo ≠ ry sg lo := by
  cases sg <;> simp [rx, ry]
theorem rx_or {sg : Bool} {lo m : Nat} : (m = ry sg lo ∨ m = rx sg lo) ↔ (m = lo ∨ m = lo + 1) := by
  cases sg <;> simp [rx, ry] <;> omega
/-- and the other way about -/
theorem pairA {sg : Bool} {M : Fn} {lo j q m : Nat} (one : sg = true → ∀ i l, M i l ≤ 1) (h : sel (gB sg M j) (rx sg lo) (ry sg lo) q = some m) :
    (∀ r, q1 (gA sg M lo) (j + 1) (q1 (gA sg M lo) j r) = q1 (gA sg (mvB j m M) lo) (j + 1) (q1 (gA sg (mvB j m M) lo) j r)) ∧
    ∀ r, (sel (gA sg M lo) j (j + 1) r).isSome = (sel (gA sg (mvB j m M) lo) j (j + 1) r).isSome := by
  have o1 := fun hs => one hs lo j
  have o2 := fun hs => one hs lo (j + 1)
  have o3 := fun hs => one hs (lo + 1) j
  have o4 := fun hs => one hs (lo + 1) (j + 1)
  rw [sel_two rxy] at h
  have hm : m = lo ∨ m = lo + 1 := rx_or.mp (by rcases h with h | h; exact .inl h.1; exact .inr h.1)
  rcases hm with rfl | rfl
  · obtain ⟨v1, v2, v3, v4⟩ := mvB_v0 (M := M) (lo := m) (j := j)
    constructor <;> intro r <;> try rw [sel_is, sel_is]
    all_goals
      unfold q1 gB at h
      unfold q1 gA
      cases sg <;> simp only [bet, rx, ry, if_true, Bool.false_eq_true, if_false, v1, v2, v3, v4] at h ⊢ <;> (try simp only [forall_const, false_implies, Bool.false_eq_true, decide_eq_decide] at o1 o2 o3 o4 ⊢) <;> omega
  · obtain ⟨v1, v2, v3, v4⟩ := mvB_v1 (M := M) (lo := lo) (j := j)
    constructor <;> intro r <;> try rw [sel_is, sel_is]
    all_goals
      unfold q1 gB at h
      unfold q1 gA
      cases sg <;> simp only [bet, rx, ry, if_true, Bool.false_eq_true, if_false, v1, v2, v3, v4] at h ⊢ <;> (try simp only [forall_const, false_implies, Bool.false_eq_true, decide_eq_decide] at o1 o2 o3 o4 ⊢) <;> omega
end Uh

set_option Elab.async false
set_option linter.all false
set_option maxRecDepth 100000
set_option maxHeartbeats 1000000
namespace Uh
theorem comm_same {M : Fn} {lo j k m : Nat} (h1 : m = lo → k = j + 1 → 1 ≤ M lo (j + 1)) (h2 : m = lo + 1 → k = j → 1 ≤ M (lo + 1) j) : mvB j m (mvF lo k M) = mvF lo k (mvB j m M) := by
  funext i l
  unfold mvB mvF
  by_cases a1 : i = m <;> by_cases a2 : l = k <;> simp only [a1, a2, if_true, if_false]
  · by_cases b1 : k = j
    · by_cases c1 : m = lo
      · simp [b1, c1]
      · by_cases c2 : m = lo + 1
        · have := h2 c2 b1
          simp [b1, c1, c2]
          subst b1 c2
          omega
        · simp [b1, c1, c2]
    · by_cases b2 : k = j + 1
      · by_cases c1 : m = lo
        · have := h1 c1 b2
          simp [b1, b2, c1]
          subst b2 c1
          omega
        · by_cases c2 : m = lo + 1
          · simp [b1, b2, c1, c2]
          · simp [b1, b2, c1, c2]
      · simp [b1, b2]
theorem comm_swap {M : Fn} {lo j : Nat} : mvB j lo (mvF lo (j + 1) M) = mvF lo j (mvB j (lo + 1) M) := by
  funext i l
  unfold mvB mvF
  by_cases a1 : i = lo
  · subst a1
    by_cases b1 : l = j
    · subst b1; simp
    · by_cases b2 : l = j + 1
      · subst b2; simp
      · simp [b1, b2]
  · by_cases a2 : i = lo + 1
    · subst a2
      by_cases b1 : l = j
      · subst b1; simp
      · by_cases b2 : l = j + 1
        · subst b2; simp
        · simp [b1, b2]
    · simp [a1, a2]
theorem comm_swap2 {M : Fn} {lo j : Nat} (h1 : 1 ≤ M lo (j + 1)) (h2 : 1 ≤ M (lo + 1) j) : mvB j (lo + 1) (mvF lo j M) = mvF lo (j + 1) (mvB j lo M) := by
  funext i l
  unfold mvB mvF
  by_cases a1 : i = lo
  · subst a1
    by_cases b1 : l = j
    · subst b1; simp
    · by_cases b2 : l = j + 1
      · subst b2; simp; omega
      · simp [b1, b2]
  · by_cases a2 : i = lo + 1
    · subst a2
      by_cases b1 : l = j
      · subst b1; simp; omega
      · by_cases b2 : l = j + 1
        · subst b2; simp
        · simp [b1, b2]
    · simp [a1, a2]
theorem local_comm {sg : Bool} {M : Fn} {lo j q r k m k' m' : Nat} (one : sg = true → ∀ i l, M i l ≤ 1) (hk : sel (gA sg M lo) j (j + 1) q = some k) (hm : sel (gB sg M j) (rx sg lo) (ry sg lo) r = some m)
    (hk' : sel (gA sg (mvB j m M) lo) j (j + 1) q = some k') (hm' : sel (gB sg (mvF lo k M) j) (rx sg lo) (ry sg lo) r = some m') : mvB j m' (mvF lo k M) = mvF lo k' (mvB j m M) := by
  have o1 := fun hs => one hs lo j
  have o2 := fun hs => one hs lo (j + 1)
  have o3 := fun hs => one hs (lo + 1) j
  have o4 := fun hs => one hs (lo + 1) (j + 1)
  rw [sel_two (by omega)] at hk hk'
  rw [sel_two rxy] at hm hm'
  unfold q1 gA at hk hk'
  unfold q1 gB at hm hm'
  obtain ⟨f1, f2, f3, f4⟩ := mvF_v0 (M := M) (lo := lo) (j := j)
  obtain ⟨f5, f6, f7, f8⟩ := mvF_v1 (M := M) (lo := lo) (j := j)
  obtain ⟨b1, b2, b3, b4⟩ := mvB_v0 (M := M) (lo := lo) (j := j)
  obtain ⟨b5, b6, b7, b8⟩ := mvB_v1 (M := M) (lo := lo) (j := j)
  cases sg with
  | false =>
    simp only [bet, rx, ry, Bool.false_eq_true, if_false] at hk hm hk' hm'
    clear o1 o2 o3 o4
    rcases hk with ⟨rfl, k1⟩ | ⟨rfl, k1, k2⟩ <;> rcases hm with ⟨rfl, m1⟩ | ⟨rfl, m1, m2⟩ <;> simp only [f1, f2, f3, f4, f5, f6, f7, f8, b1, b2, b3, b4, b5, b6, b7, b8] at hk' hm' <;> clear f1 f2 f3 f4 f5 f6 f7 f8 b1 b2 b3 b4 b5 b6 b7 b8 <;> rcases hk' with ⟨rfl, k3⟩ | ⟨rfl, k3, k4⟩ <;> rcases hm' with ⟨rfl, m3⟩ | ⟨rfl, m3, m4⟩ <;>
      first
        | exact comm_same (fun _ _ => by omega) (fun _ _ => by omega)
        | exact comm_swap
        | exact comm_swap2 (by omega) (by omega)
        | (exfalso; omega)
  | true =>
    simp only [bet, rx, ry, if_true] at hk hm hk' hm'
    replace o1 := o1 rfl
    replace o2 := o2 rfl
    replace o3 := o3 rfl
    replace o4 := o4 rfl
    rcases hk with ⟨rfl, k1⟩ | ⟨rfl, k1, k2⟩ <;> rcases hm with ⟨rfl, m1⟩ | ⟨rfl, m1, m2⟩ <;> simp only [f1, f2, f3, f4, f5, f6, f7, f8, b1, b2, b3, b4, b5, b6, b7, b8] at hk' hm' <;> clear f1 f2 f3 f4 f5 f6 f7 f8 b1 b2 b3 b4 b5 b6 b7 b8 <;> rcases hk' with ⟨rfl, k3⟩ | ⟨rfl, k3, k4⟩ <;> rcases hm' with ⟨rfl, m3⟩ | ⟨rfl, m3, m4⟩ <;>
      first
        | exact comm_same (fun _ _ => by omega) (fun _ _ => by omega)
        | exact comm_swap
        | exact comm_swap2 (by omega) (by omega)
        | (exfalso; omega)
end Uh

set_option Elab.async false
set_option linter.all false
set_option maxRecDepth 100000
set_option maxHeartbeats 400000
/-! Double crystals, abstractly. -/
namespace Uh
structure Dbl (X : Type) where
  f : Nat → X → Option X
  g : Nat → X → Option X
  ok : X → Prop
  okf : ∀ {i x y}, ok x → f i x = some y → ok y
  okg : ∀ {i x y}, ok x → g i x = some y → ok y
  c1 : ∀ {i j x y}, ok x → f i x = some y → g j x = none → g j y = none
  c2 : ∀ {i j x y}, ok x → g j x = some y → f i x = none → f i y = none
  c3 : ∀ {i j x y z}, ok x → f i x = some y → g j x = some z → ∃ u, g j y = some u ∧ f i z = some u
  injf : ∀ {i x y z}, ok x → ok y → f i x = some z → f i y = some z → x = y
  injg : ∀ {i x y z}, ok x → ok y → g i x = some z → g i y = some z → x = y
  potf : X → Nat
  potg : X → Nat
  decf : ∀ {i x y}, ok x → f i x = some y → potf y < potf x
  decg : ∀ {i x y}, ok x → g i x = some y → potg y < potg x
  wf : X → List Nat
  wg : X → List Nat
  keepf : ∀ {i x y}, ok x → f i x = some y → wf y = wf x
  keepg : ∀ {i x y}, ok x → g i x = some y → wg y = wg x
  cornf : ∀ {x y}, ok x → ok y → (∀ i, f i x = none) → (∀ i, g i x = none) → (∀ i, f i y = none) → (∀ i, g i y = none) → wf x = wf y → x = y
  corng : ∀ {x y}, ok x → ok y → (∀ i, f i x = none) → (∀ i, g i x = none) → (∀ i, f i y = none) → (∀ i, g i y = none) → wg x = wg y → x = y
namespace Dbl
def swap {X : Type} (D : Dbl X) : Dbl X where
  f := D.g
  g := D.f
  ok := D.ok
  okf := D.okg
  okg := D.okf
  c1 := fun o h k => D.c2 o h k
  c2 := fun o h k => D.c1 o h k
  c3 := fun o h k => let ⟨u, a, b⟩ := D.c3 o k h; ⟨u, b, a⟩
  injf := D.injg
  injg := D.injf
  potf := D.potg
  potg := D.potf
  decf := D.decg
  decg := D.decf
  wf := D.wg
  wg := D.wf
  keepf := D.keepg
  keepg := D.keepf
  cornf := fun o1 o2 a b c d e => D.corng o1 o2 b a d c e
  corng := fun o1 o2 a b c d e => D.cornf o1 o2 b a d c e
end Dbl
/-- steps of a family -/
inductive Rch {X : Type} (f : Nat → X → Option X) : X → X → Prop
  | refl (x) : Rch f x x
  | step {i x y z} : f i x = some y → Rch f y z → Rch f x z
abbrev No {X : Type} (f : Nat → X → Option X) (x : X) : Prop := ∀ i, f i x = none
def runP {X : Type} (g : Nat → X → Option X) : List Nat → X → Option X
  | [], x => some x
  | j :: js, x => (g j x).bind (runP g js)
/-- steps of two families -/
inductive Rm {X : Type} (f g : Nat → X → Option X) : X → X → Prop
  | refl (x) : Rm f g x x
  | stepf {i x y z} : f i x = some y → Rm f g y z → Rm f g x z
  | stepg {i x y z} : g i x = some y → Rm f g y z → Rm f g x z
section
variable {X : Type} (D : Dbl X)
theorem rch_ok {x y : X} (h : Rch D.f x y) : D.ok x → D.ok y := by
  induction h with
  | refl => exact id
  | step e _ ih => exact fun o => ih (D.okf o e)
theorem rch_wf {x y : X} (h : Rch D.f x y) : D.ok x → D.wf y = D.wf x := by
  induction h with
  | refl => exact fun _ => rfl
  | step e _ ih => exact fun o => (ih (D.okf o e)).trans (D.keepf o e)
theorem rch_nog {x y : X} (h : Rch D.f x y) : D.ok x → No D.g x → No D.g y := by
  induction h with
  | refl => exact fun _ n => n
  | step e _ ih => exact fun o n => ih (D.okf o e) fun j => D.c1 o e (n j)
theorem runP_ok : ∀ {js : List Nat} {x y : X}, D.ok x → runP D.g js x = some y → D.ok y
  | [], x, y, o, h => by
    have e : x = y := by simpa [runP] using h
    exact e ▸ o
  | j :: js, x, y, o, h => by
    obtain ⟨z, h1, h2⟩ := Option.bind_eq_some_iff.mp h
    exact runP_ok (D.okg o h1) h2
theorem runP_nof : ∀ {js : List Nat} {x y : X}, D.ok x → runP D.g js x = some y → No D.f x → No D.f y
  | [], x, y, o, h, n => by
    have e : x = y := by simpa [runP] using h
    exact e ▸ n
  | j :: js, x, y, o, h, n => by
    obtain ⟨z, h1, h2⟩ := Option.bind_eq_some_iff.mp h
    exact runP_nof (D.okg o h1) h2 fun i => D.c2 o h1 (n i)
theorem slide : ∀ {js : List Nat} {i : Nat} {x x' y : X}, D.ok x → D.f i x = some x' → runP D.g js x = some y → ∃ y', runP D.g js x' = some y' ∧ D.f i y = some y'
  | [], i, x, x', y, o, h, r => by
    have e : x = y := by simpa [runP] using r
    exact ⟨x', rfl, e ▸ h⟩
  | j :: js, i, x, x', y, o, h, r => by
    obtain ⟨z, h1, h2⟩ := Option.bind_eq_some_iff.mp r
    obtain ⟨u, u1, u2⟩ := D.c3 o h h1
    obtain ⟨y', r1, r2⟩ := slide (D.okg o h1) u2 h2
    exact ⟨y', Option.bind_eq_some_iff.mpr ⟨u, u1, r1⟩, r2⟩
theorem slides {js : List Nat} {x r y : X} (h : Rch D.f x r) : D.ok x → runP D.g js x = some y → ∃ s, runP D.g js r = some s ∧ Rch D.f y s := by
  induction h generalizing y with
  | refl => exact fun _ q => ⟨y, q, .refl _⟩
  | step e _ ih =>
    intro o q
    obtain ⟨y', q1, q2⟩ := slide D o e q
    obtain ⟨s, s1, s2⟩ := ih (D.okf o e) q1
    exact ⟨s, s1, .step q2 s2⟩
theorem runP_inj : ∀ {js : List Nat} {x y z : X}, D.ok x → D.ok y → runP D.g js x = some z → runP D.g js y = some z → x = y
  | [], x, y, z, _, _, h1, h2 => by
    have e1 : x = z := by simpa [runP] using h1
    have e2 : y = z := by simpa [runP] using h2
    exact e1.trans e2.symm
  | j :: js, x, y, z, o1, o2, h1, h2 => by
    obtain ⟨u, a1, a2⟩ := Option.bind_eq_some_iff.mp h1
    obtain ⟨v, b1, b2⟩ := Option.bind_eq_some_iff.mp h2
    have e := runP_inj (D.okg o1 a1) (D.okg o2 b1) a2 b2
    subst e
    exact D.injg o1 o2 a1 b1
theorem exhaust : ∀ (n : Nat) (x : X), D.potg x ≤ n → D.ok x → ∃ js y, runP D.g js x = some y ∧ No D.g y
  | n, x, hn, o => by
    by_cases h : No D.g x
    · exact ⟨[], x, rfl, h⟩
    · obtain ⟨j, hj⟩ := Classical.not_forall.mp h
      cases e : D.g j x with
      | none => exact absurd e hj
      | some y =>
        have hd := D.decg o e
        match n with
        | 0 => omega
        | n + 1 =>
          obtain ⟨js, z, r, nz⟩ := exhaust n y (by omega) (D.okg o e)
          exact ⟨j :: js, z, Option.bind_eq_some_iff.mpr ⟨y, e, r⟩, nz⟩
/-- where steps of f end is told by where they begin -/
theorem uniqF {x r1 r2 : X} (o : D.ok x) (h1 : Rch D.f x r1) (n1 : No D.f r1) (h2 : Rch D.f x r2) (n2 : No D.f r2) : r1 = r2 := by
  obtain ⟨js, y, r, ny⟩ := exhaust D _ x (Nat.le_refl _) o
  have oy := runP_ok D o r
  obtain ⟨s1, a1, b1⟩ := slides D h1 o r
  obtain ⟨s2, a2, b2⟩ := slides D h2 o r
  have e : s1 = s2 := D.cornf (rch_ok D b1 oy) (rch_ok D b2 oy) (runP_nof D (rch_ok D h1 o) a1 n1) (rch_nog D b1 oy ny) (runP_nof D (rch_ok D h2 o) a2 n2) (rch_nog D b2 oy ny) ((rch_wf D b1 oy).trans (rch_wf D b2 oy).symm)
  subst e
  exact runP_inj D (rch_ok D h1 o) (rch_ok D h2 o) a1 a2
theorem uniqG {x r1 r2 : X} (o : D.ok x) (h1 : Rch D.g x r1) (n1 : No D.g r1) (h2 : Rch D.g x r2) (n2 : No D.g r2) : r1 = r2 := uniqF D.swap o h1 n1 h2 n2
/-- a step of g ahead of one of f -/
theorem back {i j : Nat} {x x' y' : X} (o : D.ok x) (h : D.g j x = some x') (k : D.f i x' = some y') : ∃ y, D.f i x = some y ∧ D.g j y = some y' := by
  cases e : D.f i x with
  | none =>
    rw [D.c2 o h e] at k
    cases k
  | some y =>
    obtain ⟨u, u1, u2⟩ := D.c3 o e h
    rw [k] at u2
    cases u2
    exact ⟨y, rfl, u1⟩
theorem backs {j : Nat} {x' r' : X} (h : Rch D.f x' r') : ∀ {x : X}, D.ok x → D.g j x = some x' → ∃ r, Rch D.f x r ∧ D.g j r = some r' := by
  induction h with
  | refl => exact fun {x} _ e => ⟨x, .refl _, e⟩
  | step k _ ih =>
    intro x o e
    obtain ⟨y, y1, y2⟩ := back D o e k
    obtain ⟨r, r1, r2⟩ := ih (D.okf o y1) y2
    exact ⟨r, .step y1 r1, r2⟩
theorem order {x c : X} (h : Rm D.f D.g x c) : D.ok x → ∃ r, Rch D.f x r ∧ Rch D.g r c := by
  induction h with
  | refl x => exact fun _ => ⟨x, .refl _, .refl _⟩
  | stepf e _ ih =>
    intro o
    obtain ⟨r, r1, r2⟩ := ih (D.okf o e)
    exact ⟨r, .step e r1, r2⟩
  | stepg e _ ih =>
    intro o
    obtain ⟨r', r1, r2⟩ := ih (D.okg o e)
    obtain ⟨r, q1, q2⟩ := backs D r1 o e
    exact ⟨r, q1, .step q2 r2⟩
theorem nof_back {x y : X} (h : Rch D.g x y) : D.ok x → No D.f y → No D.f x := by
  induction h with
  | refl => exact fun _ n => n
  | @step i x y z e _ ih =>
    intro o n k
    have h1 := ih (D.okg o e) n k
    cases e2 : D.f k x with
    | none => rfl
    | some u =>
      obtain ⟨v, _, v2⟩ := D.c3 o e2 e
      rw [h1] at v2
      cases v2
/-- where steps of both end: behind the end of f, the end of g -/
theorem mixed {x c r d : X} (o : D.ok x) (h : Rm D.f D.g x c) (nf : No D.f c) (ng : No D.g c) (h1 : Rch D.f x r) (n1 : No D.f r) (h2 : Rch D.g r d) (n2 : No D.g d) : c = d := by
  obtain ⟨r', q1, q2⟩ := order D h o
  have or' := rch_ok D q1 o
  have e : r' = r := uniqF D o q1 (nof_back D q2 or' nf) h1 n1
  subst e
  exact uniqG D or' q2 ng h2 n2
theorem rm_f {x y : X} (h : Rch D.f x y) : Rm D.f D.g x y := by
  induction h with
  | refl => exact .refl _
  | step e _ ih => exact .stepf e ih
theorem rm_g {x y : X} (h : Rch D.g x y) : Rm D.f D.g x y := by
  induction h with
  | refl => exact .refl _
  | step e _ ih => exact .stepg e ih
theorem rm_trans {x y z : X} (h : Rm D.f D.g x y) (k : Rm D.f D.g y z) : Rm D.f D.g x z := by
  induction h with
  | refl => exact k
  | stepf e _ ih => exact .stepf e (ih k)
  | stepg e _ ih => exact .stepg e (ih k)
/-- the two orders end alike -/
theorem cross {x r d c e : X} (o : D.ok x) (h1 : Rch D.f x r) (n1 : No D.f r) (h2 : Rch D.g r d) (n2 : No D.g d) (h3 : Rch D.g x c) (n3 : No D.g c) (h4 : Rch D.f c e) (n4 : No D.f e) : e = d :=
  mixed D o (rm_trans D (rm_g D h3) (rm_f D h4)) n4 (rch_nog D h4 (rch_ok D.swap h3 o) n3) h1 n1 h2 n2
end
end Uh

set_option Elab.async false
set_option linter.all false
set_option maxRecDepth 100000
set_option maxHeartbeats 400000
namespace Uh
section
variable {sg : Bool} {M : Fn} {a b lo j k m i : Nat}
theorem gB_mvF (h : (i ≠ lo ∧ i ≠ lo + 1) ∨ (k ≠ j ∧ k ≠ j + 1)) : gB sg (mvF lo k M) j i = gB sg M j i := by
  unfold gB mvF
  rcases h with ⟨h1, h2⟩ | ⟨h1, h2⟩
  · simp [h1, h2]
  · simp [Ne.symm h1, Ne.symm h2]
theorem gA_mvB (h : (k ≠ j ∧ k ≠ j + 1) ∨ (m ≠ lo ∧ m ≠ lo + 1)) : gA sg (mvB j m M) lo k = gA sg M lo k := by
  unfold gA mvB
  rcases h with ⟨h1, h2⟩ | ⟨h1, h2⟩
  · simp [h1, h2]
  · simp [Ne.symm h1, Ne.symm h2]
theorem gA_pos (h : 0 < (gA sg M lo k).1) : 1 ≤ M (lo + 1) k := by
  unfold gA bet at h
  split at h
  · simp at h; omega
  · exact h
theorem gB_pos (h : 0 < (gB sg M j m).1) : 1 ≤ M m (j + 1) := by
  unfold gB bet at h
  split at h
  · simp at h; omega
  · exact h
theorem comm_core (one : sg = true → ∀ i l, M i l ≤ 1) (hlo : lo + 1 < a) (hj : j + 1 < b) (hk : lf (gA sg M lo) (List.range b) 0 = some k) :
    (lf (gB sg M j) (rowsL sg a) 0 = none → lf (gB sg (mvF lo k M) j) (rowsL sg a) 0 = none) ∧
    ∀ m, lf (gB sg M j) (rowsL sg a) 0 = some m → ∃ m' k', lf (gB sg (mvF lo k M) j) (rowsL sg a) 0 = some m' ∧ lf (gA sg (mvB j m M) lo) (List.range b) 0 = some k' ∧ mvB j m' (mvF lo k M) = mvF lo k' (mvB j m M) := by
  obtain ⟨P, S, sp⟩ := spl_range hj
  obtain ⟨P', S', sp'⟩ := spl_rows (sg := sg) hlo
  by_cases hkj : k = j ∨ k = j + 1
  · have hs := lf_sel sp hk hkj
    obtain ⟨e2, e3⟩ := pairB one hs
    have hB := lf_pair sp' (fun x _ h1 h2 => (gB_mvF (k := k) (M := M) (.inl (by
      have := mt (rx_or (sg := sg) (lo := lo) (m := x)).mpr (by rintro (z | z); exact h2 z; exact h1 z) |> fun _ => trivial
      constructor
      · intro z; rcases (rx_or (sg := sg)).mpr (.inl z) with w | w; exact h2 w; exact h1 w
      · intro z; rcases (rx_or (sg := sg)).mpr (.inr z) with w | w; exact h2 w; exact h1 w))).symm) e2 e3
    refine ⟨fun hn => ?_, fun m hm => ?_⟩
    · rcases hB with ⟨h, _⟩ | ⟨_, _, _, h, _⟩
      · rw [h, hn]
      · rw [hn] at h; cases h
    · by_cases hml : m = lo ∨ m = lo + 1
      · have hsm := lf_sel sp' hm (by rcases rx_or.mpr hml with w | w; exact .inr w; exact .inl w)
        obtain ⟨a2, a3⟩ := pairA one hsm
        have hA := lf_pair sp (fun x _ h1 h2 => (gA_mvB (m := m) (M := M) (.inl ⟨h1, h2⟩)).symm) a2 a3
        rcases hA with ⟨_, n1, n2⟩ | ⟨q, k1, k', A1, A2, A3, A4, _, _⟩
        · rcases hkj with z | z
          · exact absurd (z ▸ hk) n1
          · exact absurd (z ▸ hk) n2
        · rcases hB with ⟨_, n1, n2⟩ | ⟨r, m1, m', B1, B2, B3, B4, _, _⟩
          · rcases rx_or.mpr hml with z | z
            · exact absurd (z ▸ hm) n2
            · exact absurd (z ▸ hm) n1
          · rw [hk] at A1
            rw [hm] at B1
            obtain rfl : k = k1 := by simpa using A1
            obtain rfl : m = m1 := by simpa using B1
            exact ⟨m', k', B2, A2, local_comm one A3 B3 A4 B4⟩
      · have hml' : m ≠ lo ∧ m ≠ lo + 1 := ⟨fun z => hml (.inl z), fun z => hml (.inr z)⟩
        refine ⟨m, k, ?_, ?_, comm_same (fun z => absurd z hml'.1) fun z => absurd z hml'.2⟩
        · rcases hB with ⟨h, _⟩ | ⟨_, m1, _, h, _, h3, _⟩
          · rw [h, hm]
          · rw [hm] at h
            obtain rfl : m = m1 := by simpa using h
            rw [sel_two rxy] at h3
            exact absurd (rx_or.mp (by rcases h3 with z | z; exact .inl z.1; exact .inr z.1)) hml
        · rw [lf_congr (fun x _ => gA_mvB (m := m) (M := M) (.inr hml')), hk]
  · have hkj' : k ≠ j ∧ k ≠ j + 1 := ⟨fun z => hkj (.inl z), fun z => hkj (.inr z)⟩
    have eB : lf (gB sg (mvF lo k M) j) (rowsL sg a) 0 = lf (gB sg M j) (rowsL sg a) 0 := lf_congr fun x _ => gB_mvF (.inr hkj')
    refine ⟨fun hn => by rw [eB, hn], fun m hm => ⟨m, k, by rw [eB, hm], ?_, comm_same (fun _ z => absurd z hkj'.2) fun _ z => absurd z hkj'.1⟩⟩
    by_cases hml : m = lo ∨ m = lo + 1
    · have hsm := lf_sel sp' hm (by rcases rx_or.mpr hml with w | w; exact .inr w; exact .inl w)
      obtain ⟨a2, a3⟩ := pairA one hsm
      have hA := lf_pair sp (fun x _ h1 h2 => (gA_mvB (m := m) (M := M) (.inl ⟨h1, h2⟩)).symm) a2 a3
      rcases hA with ⟨h, _⟩ | ⟨_, k1, _, h, _, h3, _⟩
      · rw [h, hk]
      · rw [hk] at h
        obtain rfl : k = k1 := by simpa using h
        rw [sel_two (by omega)] at h3
        exact absurd (by rcases h3 with z | z; exact .inr z.1; exact .inl z.1) hkj
    · have hml' : m ≠ lo ∧ m ≠ lo + 1 := ⟨fun z => hml (.inl z), fun z => hml (.inr z)⟩
      rw [lf_congr (fun x _ => gA_mvB (m := m) (M := M) (.inr hml')), hk]
/-- a transfer across makes none along -/
theorem comm_none (one : sg = true → ∀ i l, M i l ≤ 1) (hlo : lo + 1 < a) (hj : j + 1 < b) (hm : lf (gB sg M j) (rowsL sg a) 0 = some m) (hk : lf (gA sg M lo) (List.range b) 0 = none) : lf (gA sg (mvB j m M) lo) (List.range b) 0 = none := by
  obtain ⟨P, S, sp⟩ := spl_range hj
  obtain ⟨P', S', sp'⟩ := spl_rows (sg := sg) hlo
  by_cases hml : m = lo ∨ m = lo + 1
  · have hsm := lf_sel sp' hm (by rcases rx_or.mpr hml with w | w; exact .inr w; exact .inl w)
    obtain ⟨a2, a3⟩ := pairA one hsm
    have hA := lf_pair sp (fun x _ h1 h2 => (gA_mvB (m := m) (M := M) (.inl ⟨h1, h2⟩)).symm) a2 a3
    rcases hA with ⟨h, _⟩ | ⟨_, _, _, h, _⟩
    · rw [h, hk]
    · rw [hk] at h; cases h
  · have hml' : m ≠ lo ∧ m ≠ lo + 1 := ⟨fun z => hml (.inl z), fun z => hml (.inr z)⟩
    rw [lf_congr (fun x _ => gA_mvB (m := m) (M := M) (.inr hml')), hk]
end
/-! ### back again -/
/-- block m with one closing bracket turned -/
def dn (g : Nat → Nat × Nat) (m x : Nat) : Nat × Nat := if x = m then ((g x).1 - 1, (g x).2 + 1) else g x
theorem lf_Z {h : Nat → Nat × Nat} {m : Nat} : ∀ {ks : List Nat} {q : Nat}, lf h ks (q + 1) = some m → ks.Nodup → lf (dn h m) ks q ≠ none
  | [], _, e, _ => by simp [lf] at e
  | x :: ks, q, e, nd => by
    obtain ⟨nx, nd⟩ := List.nodup_cons.mp nd
    have e' : (lf h ks (q + 1 - (h x).1 + (h x).2)).or (if q + 1 < (h x).1 then some x else none) = some m := e
    intro z
    have z' : (lf (dn h m) ks (q - (dn h m x).1 + (dn h m x).2)).or (if q < (dn h m x).1 then some x else none) = none := z
    cases ht : lf h ks (q + 1 - (h x).1 + (h x).2) with
    | some w =>
      rw [ht] at e'
      obtain rfl : w = m := by simpa using e'
      have hxm : x ≠ w := fun y => nx (y ▸ (lf_some ht).1)
      have ed : dn h w x = h x := by unfold dn; rw [if_neg hxm]
      rw [ed] at z'
      by_cases hq : q < (h x).1
      · rw [if_pos hq] at z'
        cases hh : lf (dn h w) ks (q - (h x).1 + (h x).2) <;> rw [hh] at z' <;> cases z'
      · rw [show q + 1 - (h x).1 + (h x).2 = (q - (h x).1 + (h x).2) + 1 by omega] at ht
        have := lf_Z ht nd
        cases hh : lf (dn h w) ks (q - (h x).1 + (h x).2) with
        | none => exact this hh
        | some _ => rw [hh] at z'; cases z'
    | none =>
      rw [ht] at e'
      by_cases hq : q + 1 < (h x).1
      · rw [if_pos hq] at e'
        obtain rfl : x = m := by simpa using e'
        have ed : dn h x x = ((h x).1 - 1, (h x).2 + 1) := by unfold dn; rw [if_pos rfl]
        rw [ed] at z'
        rw [if_pos (by show q < (h x).1 - 1; omega)] at z'
        cases hh : lf (dn h x) ks (q - ((h x).1 - 1) + ((h x).2 + 1)) <;> rw [hh] at z' <;> cases z'
      · rw [if_neg hq] at e'
        simp at e'
theorem lf_inj {g h : Nat → Nat × Nat} {k m : Nat} : ∀ {ks : List Nat} {q : Nat}, ks.Nodup → lf g ks q = some k → lf h ks q = some m → (∀ x ∈ ks, dn g k x = dn h m x) → k = m
  | [], _, _, e, _, _ => by simp [lf] at e
  | x :: ks, q, nd, hg, hh, e => by
    obtain ⟨nx, nd⟩ := List.nodup_cons.mp nd
    have hg' : (lf g ks (q - (g x).1 + (g x).2)).or (if q < (g x).1 then some x else none) = some k := hg
    have hh' : (lf h ks (q - (h x).1 + (h x).2)).or (if q < (h x).1 then some x else none) = some m := hh
    have ex := e x (by simp)
    have et : ∀ y ∈ ks, dn g k y = dn h m y := fun y hy => e y (List.mem_cons_of_mem _ hy)
    cases tg : lf g ks (q - (g x).1 + (g x).2) with
    | some w =>
      rw [tg] at hg'
      obtain rfl : w = k := by simpa using hg'
      have hxw : x ≠ w := fun y => nx (y ▸ (lf_some tg).1)
      cases th : lf h ks (q - (h x).1 + (h x).2) with
      | some v =>
        rw [th] at hh'
        obtain rfl : v = m := by simpa using hh'
        have hxv : x ≠ v := fun y => nx (y ▸ (lf_some th).1)
        have e1 : g x = h x := by
          unfold dn at ex
          rwa [if_neg hxw, if_neg hxv] at ex
        rw [← e1] at th
        exact lf_inj nd tg th et
      | none =>
        rw [th] at hh'
        by_cases hq : q < (h x).1
        · rw [if_pos hq] at hh'
          obtain rfl : x = m := by simpa using hh'
          have e1 : g x = ((h x).1 - 1, (h x).2 + 1) := by
            unfold dn at ex
            rwa [if_neg hxw, if_pos rfl] at ex
          rw [e1] at tg
          rw [show q - ((h x).1 - 1, (h x).2 + 1).1 + ((h x).1 - 1, (h x).2 + 1).2 = (q - (h x).1 + (h x).2) + 1 by show q - ((h x).1 - 1) + ((h x).2 + 1) = _; omega] at tg
          have z := lf_Z tg nd
          refine absurd ?_ z
          rw [lf_congr (h := h) (fun y hy => ?_), th]
          have := et y hy
          rw [this]
          unfold dn
          rw [if_neg (fun (w : y = x) => nx (w ▸ hy))]
        · rw [if_neg hq] at hh'
          simp at hh'
    | none =>
      rw [tg] at hg'
      by_cases hq : q < (g x).1
      · rw [if_pos hq] at hg'
        obtain rfl : x = k := by simpa using hg'
        cases th : lf h ks (q - (h x).1 + (h x).2) with
        | some v =>
          rw [th] at hh'
          obtain rfl : v = m := by simpa using hh'
          have hxv : x ≠ v := fun y => nx (y ▸ (lf_some th).1)
          have e1 : h x = ((g x).1 - 1, (g x).2 + 1) := by
            unfold dn at ex
            rw [if_pos rfl, if_neg hxv] at ex
            exact ex.symm
          rw [e1] at th
          rw [show q - ((g x).1 - 1, (g x).2 + 1).1 + ((g x).1 - 1, (g x).2 + 1).2 = (q - (g x).1 + (g x).2) + 1 by show q - ((g x).1 - 1) + ((g x).2 + 1) = _; omega] at th
          have z := lf_Z th nd
          refine absurd ?_ z
          rw [lf_congr (h := g) (fun y hy => ?_), tg]
          have := et y hy
          rw [← this]
          unfold dn
          rw [if_neg (fun (w : y = x) => nx (w ▸ hy))]
        | none =>
          rw [th] at hh'
          by_cases hq2 : q < (h x).1
          · rw [if_pos hq2] at hh'
            simpa using hh'
          · rw [if_neg hq2] at hh'
            simp at hh'
      · rw [if_neg hq] at hg'
        simp at hg'
end Uh

set_option Elab.async false
set_option linter.all false
set_option maxRecDepth 100000
set_option maxHeartbeats 400000
namespace Uh
/-! ### sums -/
def su (n : Nat) (f : Nat → Nat) : Nat := ((List.range n).map f).sum
theorem su_succ {n : Nat} {f : Nat → Nat} : su (n + 1) f = su n f + f n := by
  unfold su
  rw [List.range_succ, List.map_append, List.sum_append]
  simp
theorem su_congr {n : Nat} {f g : Nat → Nat} (h : ∀ i, i < n → f i = g i) : su n f = su n g := by
  unfold su
  congr 1
  exact List.map_congr_left fun i hi => h i (List.mem_range.mp hi)
theorem su_one {f g : Nat → Nat} {k : Nat} : ∀ {n : Nat}, k < n → (∀ i, i < n → i ≠ k → f i = g i) → su n f + g k = su n g + f k
  | 0, h, _ => by omega
  | n + 1, h, e => by
    rw [su_succ, su_succ]
    by_cases hk : k = n
    · subst hk
      have := su_congr (n := k) (f := f) (g := g) fun i hi => e i (by omega) (by omega)
      omega
    · have := su_one (n := n) (by omega) fun i hi => e i (by omega)
      have := e n (by omega) (Ne.symm hk)
      omega
theorem su_two {n p q : Nat} {f g : Nat → Nat} (hp : p < n) (hq : q < n) (hpq : p ≠ q) (e : ∀ i, i < n → i ≠ p → i ≠ q → f i = g i) : su n f + g p + g q = su n g + f p + f q := by
  have h1 := su_one (f := f) (g := fun i => if i = p then g i else f i) hp fun i _ hi => by simp [hi]
  have h2 := su_one (f := fun i => if i = p then g i else f i) (g := g) hq fun i hi hiq => by
    by_cases hip : i = p
    · simp [hip]
    · simp [hip, e i hi hip hiq]
  simp [Ne.symm hpq] at h1 h2
  omega
theorem su_mono {n k : Nat} {f : Nat → Nat} (h : k < n) : f k ≤ su n f := by
  induction n with
  | zero => omega
  | succ n ih =>
    rw [su_succ]
    by_cases e : k = n
    · subst e; omega
    · have := ih (by omega)
      omega
abbrev rs (b : Nat) (M : Fn) (i : Nat) : Nat := su b (M i)
abbrev cs (a : Nat) (M : Fn) (j : Nat) : Nat := su a fun i => M i j
section
variable {sg : Bool} {M : Fn} {a b lo j k m i : Nat}
theorem mvF_at : mvF lo k M lo k = M lo k + 1 := by simp [mvF]
theorem mvF_at1 : mvF lo k M (lo + 1) k = M (lo + 1) k - 1 := by simp [mvF]
theorem mvF_ne (h : j ≠ k) : mvF lo k M i j = M i j := by simp [mvF, h]
theorem mvF_ne2 (h1 : i ≠ lo) (h2 : i ≠ lo + 1) : mvF lo k M i j = M i j := by simp [mvF, h1, h2]
theorem rs_lo (hk : k < b) : rs b (mvF lo k M) lo = rs b M lo + 1 := by
  have := su_one (f := mvF lo k M lo) (g := M lo) hk fun i _ hi => mvF_ne hi
  rw [mvF_at] at this
  show su b _ = su b _ + 1
  omega
theorem rs_hi (hk : k < b) (hp : 1 ≤ M (lo + 1) k) : rs b (mvF lo k M) (lo + 1) + 1 = rs b M (lo + 1) := by
  have := su_one (f := mvF lo k M (lo + 1)) (g := M (lo + 1)) hk fun i _ hi => mvF_ne hi
  rw [mvF_at1] at this
  show su b _ + 1 = su b _
  omega
theorem rs_ne (h1 : i ≠ lo) (h2 : i ≠ lo + 1) : rs b (mvF lo k M) i = rs b M i := su_congr fun l _ => mvF_ne2 h1 h2
theorem cs_mvF (hlo : lo + 1 < a) (hp : 1 ≤ M (lo + 1) k) : cs a (mvF lo k M) j = cs a M j := by
  by_cases h : j = k
  · subst h
    have := su_two (f := fun i => mvF lo j M i j) (g := fun i => M i j) (p := lo) (q := lo + 1) (by omega) hlo (by omega) fun i _ h1 h2 => mvF_ne2 h1 h2
    simp only [mvF_at, mvF_at1] at this
    show su a _ = su a _
    omega
  · exact su_congr fun i _ => mvF_ne h
def tot (a b : Nat) (M : Fn) : Nat := su a (rs b M)
theorem tot_mvF (hlo : lo + 1 < a) (hk : k < b) (hp : 1 ≤ M (lo + 1) k) : tot a b (mvF lo k M) = tot a b M := by
  have := su_two (f := rs b (mvF lo k M)) (g := rs b M) (p := lo) (q := lo + 1) (by omega) hlo (by omega) fun i _ h1 h2 => rs_ne h1 h2
  have h1 := rs_lo (M := M) (lo := lo) hk
  have h2 := rs_hi (M := M) (lo := lo) hk hp
  unfold tot
  omega
def potA (a b : Nat) (M : Fn) : Nat := su a fun i => i * rs b M i
theorem potA_mvF (hlo : lo + 1 < a) (hk : k < b) (hp : 1 ≤ M (lo + 1) k) : potA a b (mvF lo k M) + 1 = potA a b M := by
  have := su_two (f := fun i => i * rs b (mvF lo k M) i) (g := fun i => i * rs b M i) (p := lo) (q := lo + 1) (by omega) hlo (by omega) fun i _ h1 h2 => by simp only [rs_ne h1 h2]
  have h1 := rs_lo (M := M) (lo := lo) hk
  have h2 := rs_hi (M := M) (lo := lo) hk hp
  rw [h1, ← h2] at this
  unfold potA
  have e1 : lo * (rs b M lo + 1) = lo * rs b M lo + lo := by rw [Nat.mul_add, Nat.mul_one]
  have e2 : (lo + 1) * (rs b (mvF lo k M) (lo + 1) + 1) = (lo + 1) * rs b (mvF lo k M) (lo + 1) + (lo + 1) := by rw [Nat.mul_add, Nat.mul_one]
  rw [e1, e2] at this
  omega
/-! across, by exchange of the two sides -/
def tr (M : Fn) : Fn := fun i j => M j i
theorem mvB_tr : mvB j m M = tr (mvF j m (tr M)) := rfl
theorem rs_tr {n : Nat} : rs n (tr M) i = cs n M i := rfl
theorem cs_tr {n : Nat} : cs n (tr M) i = rs n M i := rfl
theorem rs_mvB (hj : j + 1 < b) (hp : 1 ≤ M m (j + 1)) : rs b (mvB j m M) i = rs b M i := cs_mvF (M := tr M) (j := i) hj hp
theorem tot_rs : tot a b M = su a (rs b M) := rfl
theorem tot_mvB (hj : j + 1 < b) (hp : 1 ≤ M m (j + 1)) : tot a b (mvB j m M) = tot a b M := su_congr fun i _ => rs_mvB hj hp
def potB (a b : Nat) (M : Fn) : Nat := potA b a (tr M)
theorem potB_mvB (hj : j + 1 < b) (hm : m < a) (hp : 1 ≤ M m (j + 1)) : potB a b (mvB j m M) + 1 = potB a b M := potA_mvF (M := tr M) hj hm hp
end
/-! ### tables -/
theorem su_sum {r : List Nat} {n : Nat} (h : r.length = n) : r.sum = su n fun k => r.getD k 0 := by
  subst h
  exact sum_range_getD.symm
theorem tab_sum {a b : Nat} {M : Fn} : ((tab a b M).map List.sum).sum = tot a b M := by
  unfold tab
  rw [List.map_map]
  rfl
theorem fnT_congr {a b : Nat} {T : NT} {M : Fn} (h : Rect T a b) (e : ∀ i j, i < a → j < b → fnT T i j = M i j) : T = tab a b M := by
  rw [← tab_fnT h]
  exact tab_congr e
theorem good_tot {sg : Bool} {T : NT} {a b : Nat} (h : Good sg T a b) : tot a b (fnT T) ≤ 12 := by
  rw [← tab_sum, tab_fnT h.rect]
  exact h.sum
theorem good_tab {sg : Bool} {a b : Nat} {M : Fn} (a2 : 2 ≤ a) (a5 : a ≤ 5) (b2 : 2 ≤ b) (b5 : b ≤ 5) (ht : tot a b M ≤ 12) (one : sg = true → ∀ i j, i < a → j < b → M i j ≤ 1) : Good sg (tab a b M) a b := by
  refine ⟨rect_tab (by omega) a5 (by omega) b5, a2, b2, by rw [tab_sum]; exact ht, fun hs r hr n hn => ?_⟩
  unfold tab at hr
  obtain ⟨i, hi, rfl⟩ := List.mem_map.mp hr
  obtain ⟨j, hj, rfl⟩ := List.mem_map.mp hn
  exact one hs i j (List.mem_range.mp hi) (List.mem_range.mp hj)
def stA (sg : Bool) (a b lo : Nat) (T : NT) : Option NT := if lo + 1 < a then (lf (gA sg (fnT T) lo) (List.range b) 0).map fun k => tab a b (mvF lo k (fnT T)) else none
def stB (sg : Bool) (a b j : Nat) (T : NT) : Option NT := if j + 1 < b then (lf (gB sg (fnT T) j) (rowsL sg a) 0).map fun k => tab a b (mvB j k (fnT T)) else none
theorem stA_some {sg : Bool} {a b lo : Nat} {T N : NT} (h : stA sg a b lo T = some N) : ∃ k, lo + 1 < a ∧ k < b ∧ lf (gA sg (fnT T) lo) (List.range b) 0 = some k ∧ N = tab a b (mvF lo k (fnT T)) ∧ 1 ≤ fnT T (lo + 1) k ∧ (sg = true → fnT T (lo + 1) k ≤ 1 → fnT T lo k = 0) := by
  unfold stA at h
  split at h
  · rename_i hlo
    obtain ⟨k, hk, e⟩ := Option.map_eq_some_iff.mp h
    obtain ⟨h1, h2⟩ := lf_some hk
    refine ⟨k, hlo, List.mem_range.mp h1, hk, e.symm, gA_pos h2, fun hs => ?_⟩
    subst hs
    unfold gA bet at h2
    simp at h2
    omega
  · cases h
theorem mem_rows {sg : Bool} {a m : Nat} : m ∈ rowsL sg a ↔ m < a := by
  unfold rowsL
  cases sg <;> simp
theorem stB_some {sg : Bool} {a b j : Nat} {T N : NT} (h : stB sg a b j T = some N) : ∃ m, j + 1 < b ∧ m < a ∧ lf (gB sg (fnT T) j) (rowsL sg a) 0 = some m ∧ N = tab a b (mvB j m (fnT T)) ∧ 1 ≤ fnT T m (j + 1) ∧ (sg = true → fnT T m (j + 1) ≤ 1 → fnT T m j = 0) := by
  unfold stB at h
  split at h
  · rename_i hj
    obtain ⟨k, hk, e⟩ := Option.map_eq_some_iff.mp h
    obtain ⟨h1, h2⟩ := lf_some hk
    refine ⟨k, hj, mem_rows.mp h1, hk, e.symm, gB_pos h2, fun hs => ?_⟩
    subst hs
    unfold gB bet at h2
    simp at h2
    omega
  · cases h
theorem okA {sg : Bool} {a b lo : Nat} {T N : NT} (g : Good sg T a b) (h : stA sg a b lo T = some N) : Good sg N a b := by
  obtain ⟨k, hlo, hk, _, rfl, hp, h0⟩ := stA_some h
  refine good_tab g.a2 g.rect.r5 g.b2 g.rect.c5 (by rw [tot_mvF hlo hk hp]; exact good_tot g) fun hs i j hi hj => ?_
  have o : ∀ i j, fnT T i j ≤ 1 := fun i j => fnT_one g hs
  unfold mvF
  split
  · split
    · rename_i e1 e2
      subst e1 e2
      rw [h0 hs (o _ _)]
      omega
    · split
      · have := o i j; omega
      · exact o i j
  · exact o i j
theorem okB {sg : Bool} {a b j : Nat} {T N : NT} (g : Good sg T a b) (h : stB sg a b j T = some N) : Good sg N a b := by
  obtain ⟨m, hj, hm, _, rfl, hp, h0⟩ := stB_some h
  refine good_tab g.a2 g.rect.r5 g.b2 g.rect.c5 (by rw [tot_mvB hj hp]; exact good_tot g) fun hs i l hi hl => ?_
  have o : ∀ i j, fnT T i j ≤ 1 := fun i j => fnT_one g hs
  unfold mvB
  split
  · split
    · rename_i e1 e2
      subst e1 e2
      rw [h0 hs (o _ _)]
      omega
    · split
      · have := o i l; omega
      · exact o i l
  · exact o i l
theorem mvT_stA {sg : Bool} {T : NT} {a b lo : Nat} (g : Good sg T a b) (hlo : lo + 1 < a) : mvT sg T b lo = stA sg a b lo T := by
  rw [mvT_eq g hlo]
  unfold stA
  rw [if_pos hlo]
end Uh

set_option Elab.async false
set_option linter.all false
set_option maxRecDepth 100000
set_option maxHeartbeats 400000
namespace Uh
section
variable {sg : Bool} {M N : Fn} {T U : NT} {a b lo j k m i : Nat}
theorem gB_tab (h : i < a) (hj : j + 1 < b) : gB sg (fnT (tab a b M)) j i = gB sg M j i := by
  unfold gB
  rw [fnT_tab h hj, fnT_tab h (by omega)]
theorem gA_tab (h : k < b) (hlo : lo + 1 < a) : gA sg (fnT (tab a b M)) lo k = gA sg M lo k := by
  unfold gA
  rw [fnT_tab hlo h, fnT_tab (by omega) h]
theorem tab_mvB (h : ∀ i l, i < a → l < b → M i l = N i l) : tab a b (mvB j m M) = tab a b (mvB j m N) := tab_congr fun i l hi hl => by
  unfold mvB
  rw [h i l hi hl]
theorem tab_mvF (h : ∀ i l, i < a → l < b → M i l = N i l) : tab a b (mvF lo k M) = tab a b (mvF lo k N) := tab_congr fun i l hi hl => by
  unfold mvF
  rw [h i l hi hl]
theorem oneT (g : Good sg T a b) : sg = true → ∀ i l, fnT T i l ≤ 1 := fun hs i l => fnT_one g hs
theorem d_c1 {x y : NT} (g : Good sg x a b) (h : stA sg a b i x = some y) (hn : stB sg a b j x = none) : stB sg a b j y = none := by
  obtain ⟨k, hlo, hk, hs, rfl, hp, h0⟩ := stA_some h
  unfold stB at hn ⊢
  split
  · rename_i hj
    rw [if_pos hj] at hn
    rw [Option.map_eq_none_iff] at hn ⊢
    rw [lf_congr fun r hr => gB_tab (mem_rows.mp hr) hj]
    exact (comm_core (oneT g) hlo hj hs).1 hn
  · rfl
theorem d_c2 {x y : NT} (g : Good sg x a b) (h : stB sg a b j x = some y) (hn : stA sg a b i x = none) : stA sg a b i y = none := by
  obtain ⟨m, hj, hm, hs, rfl, hp, h0⟩ := stB_some h
  unfold stA at hn ⊢
  split
  · rename_i hlo
    rw [if_pos hlo] at hn
    rw [Option.map_eq_none_iff] at hn ⊢
    rw [lf_congr fun r hr => gA_tab (List.mem_range.mp hr) hlo]
    exact comm_none (oneT g) hlo hj hs hn
  · rfl
theorem d_c3 {x y z : NT} (g : Good sg x a b) (h : stA sg a b i x = some y) (h2 : stB sg a b j x = some z) : ∃ u, stB sg a b j y = some u ∧ stA sg a b i z = some u := by
  obtain ⟨k, hlo, hk, hs, rfl, hp, h0⟩ := stA_some h
  obtain ⟨m, hj, hm, hs2, rfl, hp2, h02⟩ := stB_some h2
  obtain ⟨m', k', e1, e2, e3⟩ := (comm_core (oneT g) hlo hj hs).2 m hs2
  refine ⟨tab a b (mvB j m' (mvF i k (fnT x))), ?_, ?_⟩
  · unfold stB
    rw [if_pos hj, lf_congr fun r hr => gB_tab (mem_rows.mp hr) hj, e1]
    exact congrArg some (tab_mvB fun i l hi hl => fnT_tab hi hl)
  · unfold stA
    rw [if_pos hlo, lf_congr fun r hr => gA_tab (List.mem_range.mp hr) hlo, e2, e3]
    exact congrArg some (tab_mvF fun i l hi hl => fnT_tab hi hl)
theorem gB_dn (hp : 1 ≤ M m (j + 1)) (h0 : sg = true → M m (j + 1) = 1 ∧ M m j = 0) : gB sg (mvB j m M) j i = dn (gB sg M j) m i := by
  unfold dn
  by_cases h : i = m
  · subst h
    rw [if_pos rfl]
    unfold gB mvB bet
    cases sg with
    | false => simp
    | true =>
      obtain ⟨q1, q2⟩ := h0 rfl
      simp [q1, q2]
  · rw [if_neg h]
    unfold gB mvB
    simp [h]
theorem gA_dn (hp : 1 ≤ M (lo + 1) k) (h0 : sg = true → M (lo + 1) k = 1 ∧ M lo k = 0) : gA sg (mvF lo k M) lo i = dn (gA sg M lo) k i := by
  unfold dn
  by_cases h : i = k
  · subst h
    rw [if_pos rfl]
    unfold gA mvF bet
    cases sg with
    | false => simp
    | true =>
      obtain ⟨q1, q2⟩ := h0 rfl
      simp [q1, q2]
  · rw [if_neg h]
    unfold gA mvF
    simp [h]
theorem rows_nodup : (rowsL sg a).Nodup := by
  unfold rowsL
  cases sg with
  | false => exact List.nodup_range
  | true => exact List.pairwise_reverse.mpr ((List.nodup_range (n := a)).imp Ne.symm)
theorem tab_inj (h : tab a b M = tab a b N) : ∀ i l, i < a → l < b → M i l = N i l := fun i l hi hl => by
  rw [← fnT_tab (M := M) hi hl, h, fnT_tab hi hl]
theorem d_injB {x y z : NT} (gx : Good sg x a b) (gy : Good sg y a b) (h : stB sg a b j x = some z) (h2 : stB sg a b j y = some z) : x = y := by
  obtain ⟨m, hj, hm, hs, ez, hp, h0⟩ := stB_some h
  obtain ⟨m', _, hm', hs', ez', hp', h0'⟩ := stB_some h2
  have e := tab_inj (ez.symm.trans ez')
  have o : sg = true → fnT x m (j + 1) = 1 ∧ fnT x m j = 0 := fun hq => by
    have := oneT gx hq m (j + 1)
    exact ⟨by omega, h0 hq this⟩
  have o' : sg = true → fnT y m' (j + 1) = 1 ∧ fnT y m' j = 0 := fun hq => by
    have := oneT gy hq m' (j + 1)
    exact ⟨by omega, h0' hq this⟩
  have em : m = m' := lf_inj rows_nodup hs hs' fun r hr => by
    have hr := mem_rows.mp hr
    rw [← gB_dn hp o, ← gB_dn hp' o']
    unfold gB
    rw [e r (j + 1) hr hj, e r j hr (by omega)]
  subst em
  rw [← tab_fnT gx.rect, ← tab_fnT gy.rect]
  refine tab_congr fun i l hi hl => ?_
  have := e i l hi hl
  unfold mvB at this
  by_cases h1 : i = m
  · subst h1
    by_cases h2 : l = j
    · subst h2
      simp at this
      exact this
    · by_cases h3 : l = j + 1
      · subst h3
        simp at this
        omega
      · simpa [h2, h3] using this
  · simpa [h1] using this
theorem d_injA {x y z : NT} (gx : Good sg x a b) (gy : Good sg y a b) (h : stA sg a b lo x = some z) (h2 : stA sg a b lo y = some z) : x = y := by
  obtain ⟨k, hlo, hk, hs, ez, hp, h0⟩ := stA_some h
  obtain ⟨k', _, hk', hs', ez', hp', h0'⟩ := stA_some h2
  have e := tab_inj (ez.symm.trans ez')
  have o : sg = true → fnT x (lo + 1) k = 1 ∧ fnT x lo k = 0 := fun hq => by
    have := oneT gx hq (lo + 1) k
    exact ⟨by omega, h0 hq this⟩
  have o' : sg = true → fnT y (lo + 1) k' = 1 ∧ fnT y lo k' = 0 := fun hq => by
    have := oneT gy hq (lo + 1) k'
    exact ⟨by omega, h0' hq this⟩
  have em : k = k' := lf_inj List.nodup_range hs hs' fun r hr => by
    have hr := List.mem_range.mp hr
    rw [← gA_dn hp o, ← gA_dn hp' o']
    unfold gA
    rw [e (lo + 1) r hlo hr, e lo r (by omega) hr]
  subst em
  rw [← tab_fnT gx.rect, ← tab_fnT gy.rect]
  refine tab_congr fun i l hi hl => ?_
  have := e i l hi hl
  unfold mvF at this
  by_cases h1 : l = k
  · subst h1
    by_cases h2 : i = lo
    · subst h2
      simp at this
      exact this
    · by_cases h3 : i = lo + 1
      · subst h3
        simp at this
        omega
      · simpa [h2, h3] using this
  · simpa [h1] using this
theorem rs_tab (hi : i < a) : rs b (fnT (tab a b M)) i = rs b M i := su_congr fun l hl => fnT_tab hi hl
theorem cs_tab (hj : j < b) : cs a (fnT (tab a b M)) j = cs a M j := su_congr fun l hl => fnT_tab hl hj
theorem potA_tab : potA a b (fnT (tab a b M)) = potA a b M := su_congr fun i hi => by rw [rs_tab hi]
theorem potB_tab : potB a b (fnT (tab a b M)) = potB a b M := su_congr fun i hi => by
  show i * cs a (fnT (tab a b M)) i = i * cs a M i
  rw [cs_tab hi]
theorem d_potA {x y : NT} (h : stA sg a b i x = some y) : potA a b (fnT y) + 1 = potA a b (fnT x) := by
  obtain ⟨k, hlo, hk, hs, rfl, hp, h0⟩ := stA_some h
  rw [potA_tab]
  exact potA_mvF hlo hk hp
theorem d_potB {x y : NT} (h : stB sg a b i x = some y) : potB a b (fnT y) + 1 = potB a b (fnT x) := by
  obtain ⟨m, hj, hm, hs, rfl, hp, h0⟩ := stB_some h
  rw [potB_tab]
  exact potB_mvB hj hm hp
def wA (a b : Nat) (T : NT) : List Nat := (List.range b).map (cs a (fnT T))
def wB (a b : Nat) (T : NT) : List Nat := (List.range a).map (rs b (fnT T))
theorem d_wA {x y : NT} (h : stA sg a b i x = some y) : wA a b y = wA a b x := by
  obtain ⟨k, hlo, hk, hs, rfl, hp, h0⟩ := stA_some h
  exact List.map_congr_left fun j hj => by rw [cs_tab (List.mem_range.mp hj), cs_mvF hlo hp]
theorem d_wB {x y : NT} (h : stB sg a b i x = some y) : wB a b y = wB a b x := by
  obtain ⟨m, hj, hm, hs, rfl, hp, h0⟩ := stB_some h
  exact List.map_congr_left fun r hr => by rw [rs_tab (List.mem_range.mp hr), rs_mvB hj hp]
end
end Uh

set_option Elab.async false
set_option linter.all false
set_option maxRecDepth 100000
set_option maxHeartbeats 400000
/-! The form of a corner. -/
namespace Uh
theorem su_add {f g : Nat → Nat} : ∀ {n : Nat}, su n (fun i => f i + g i) = su n f + su n g
  | 0 => rfl
  | n + 1 => by
    rw [su_succ, su_succ, su_succ, su_add]
    omega
theorem su_le {f g : Nat → Nat} : ∀ {n : Nat}, (∀ i, i < n → f i ≤ g i) → su n f ≤ su n g
  | 0, _ => Nat.le_refl _
  | n + 1, h => by
    rw [su_succ, su_succ]
    have := su_le (n := n) fun i hi => h i (by omega)
    have := h n (by omega)
    omega
theorem su_zero : su 0 f = 0 := rfl
theorem lf_range {g : Nat → Nat × Nat} : ∀ {n : Nat}, (lf g (List.range n) 0 = none → qf g (List.range n) 0 + su n (fun i => (g i).1) = su n fun i => (g i).2) ∧ (lf g (List.range n) 0 = none ↔ ∀ k, k < n → su (k + 1) (fun i => (g i).1) ≤ su k fun i => (g i).2)
  | 0 => ⟨fun _ => rfl, fun _ k hk => by omega, fun _ => rfl⟩
  | n + 1 => by
    obtain ⟨h1, h2⟩ := lf_range (g := g) (n := n)
    have e : lf g (List.range (n + 1)) 0 = (if qf g (List.range n) 0 < (g n).1 then some n else none).or (lf g (List.range n) 0) := by
      rw [List.range_succ, lf_append]
      rfl
    have q : qf g (List.range (n + 1)) 0 = qf g (List.range n) 0 - (g n).1 + (g n).2 := by
      rw [List.range_succ]
      unfold qf
      rw [List.foldl_append]
      rfl
    have k1 : lf g (List.range (n + 1)) 0 = none ↔ lf g (List.range n) 0 = none ∧ (g n).1 ≤ qf g (List.range n) 0 := by
      rw [e]
      by_cases hc : qf g (List.range n) 0 < (g n).1
      · rw [if_pos hc]
        simp only [Option.some_or, reduceCtorEq, false_iff, not_and]
        intro _
        omega
      · rw [if_neg hc, Option.none_or]
        exact ⟨fun x => ⟨x, by omega⟩, fun x => x.1⟩
    refine ⟨fun hn => ?_, ?_⟩
    · obtain ⟨a1, a2⟩ := k1.mp hn
      rw [su_succ, su_succ, q]
      have := h1 a1
      omega
    · rw [k1, h2]
      constructor
      · rintro ⟨a1, a2⟩ k hk
        by_cases c : k = n
        · subst c
          rw [su_succ]
          have := h1 (h2.mpr a1)
          omega
        · exact a1 k (by omega)
      · intro a
        have a1 : ∀ k, k < n → su (k + 1) (fun i => (g i).1) ≤ su k fun i => (g i).2 := fun k hk => a k (by omega)
        refine ⟨a1, ?_⟩
        have := h1 (h2.mpr a1)
        have := a n (by omega)
        rw [su_succ] at this
        omega
theorem lf_num {p o : Nat → Nat} {n : Nat} : lf (fun k => bet false (p k) (o k)) (List.range n) 0 = none ↔ ∀ k, k < n → su (k + 1) p ≤ su k o := lf_range.2
theorem lf_sgn {p o : Nat → Nat} {n : Nat} : lf (fun k => bet true (p k) (o k)) (List.range n) 0 = none ↔ ∀ k, k < n → su (k + 1) p ≤ su (k + 1) o := by
  rw [lf_range.2]
  have h : ∀ k, su k p + su k (fun i => (bet true (p i) (o i)).2) = su k o + su k (fun i => (bet true (p i) (o i)).1) := fun k => by
    rw [← su_add, ← su_add]
    refine su_congr fun i _ => ?_
    show p i + (o i - p i) = o i + (p i - o i)
    omega
  constructor
  · intro a k hk
    have := a k hk
    have := h (k + 1)
    have : su k (fun i => (bet true (p i) (o i)).2) ≤ su (k + 1) (fun i => (bet true (p i) (o i)).2) := by rw [su_succ]; omega
    omega
  · intro a k hk
    by_cases c : p k ≤ o k
    · have e : su (k + 1) (fun i => (bet true (p i) (o i)).1) = su k (fun i => (bet true (p i) (o i)).1) := by
        rw [su_succ]
        show _ + (p k - o k) = _
        omega
      rw [e]
      cases k with
      | zero => exact Nat.le_refl _
      | succ k =>
        have := a k (by omega)
        have := h (k + 1)
        omega
    · have := a k hk
      have := h (k + 1)
      have e : su (k + 1) (fun i => (bet true (p i) (o i)).2) = su k (fun i => (bet true (p i) (o i)).2) := by
        rw [su_succ]
        show _ + (o k - p k) = _
        omega
      omega
theorem range_rev : ∀ {n : Nat}, (List.range n).reverse = (List.range n).map fun i => n - 1 - i := by
  intro n
  apply List.ext_getElem
  · simp
  · intro i h1 h2
    simp
theorem lf_rev {g : Nat → Nat × Nat} {n : Nat} : lf g (List.range n).reverse 0 = (lf (fun k => g (n - 1 - k)) (List.range n) 0).map fun k => n - 1 - k := by
  rw [range_rev, lf_map]
/-! ### numbers -/
structure FormN (a b : Nat) (M : Fn) : Prop where
  off : ∀ i j, i < a → j < b → i ≠ j → M i j = 0
  down : ∀ i, i + 1 < a → i + 1 < b → M (i + 1) (i + 1) ≤ M i i
section
variable {M N : Fn} {a b : Nat}
theorem su_diag {f : Nat → Nat} {i : Nat} : ∀ {n : Nat}, (∀ j, j < n → i ≠ j → f j = 0) → su n f = if i < n then f i else 0
  | 0, _ => rfl
  | n + 1, h => by
    rw [su_succ, su_diag fun j hj => h j (by omega)]
    by_cases c : i = n
    · subst c
      simp
    · rw [h n (by omega) c]
      by_cases d : i < n
      · rw [if_pos d, if_pos (by omega)]
        rfl
      · rw [if_neg d, if_neg (by omega)]
theorem formN_tr (h : FormN a b M) : FormN b a (tr M) := ⟨fun i j hi hj hij => h.off j i hj hi (Ne.symm hij), fun i h1 h2 => h.down i h2 h1⟩
def NoA (sg : Bool) (a b : Nat) (M : Fn) : Prop := ∀ lo, lo + 1 < a → lf (gA sg M lo) (List.range b) 0 = none
def NoB (sg : Bool) (a b : Nat) (M : Fn) : Prop := ∀ j, j + 1 < b → lf (gB sg M j) (rowsL sg a) 0 = none
theorem noB_tr : NoB false a b M ↔ NoA false b a (tr M) := Iff.rfl
theorem noA_low (h : NoA false a b M) : ∀ i, i < a → i ≤ b → su i (M i) = 0
  | 0, _, _ => rfl
  | i + 1, h1, h2 => by
    have e := lf_num.mp (h i h1) i (by omega)
    have := noA_low h i (by omega) (by omega)
    have e : su (i + 1) (M (i + 1)) ≤ su i (M i) := e
    omega
theorem noA_low2 (h : NoA false a b M) {i j : Nat} (hi : i < a) (hj : j < b) (hij : j < i) : M i j = 0 := by
  by_cases c : i ≤ b
  · have := noA_low h i hi c
    have := su_mono (f := M i) hij
    omega
  · have h' : ∀ n, i = b + n → su b (M i) = 0 := by
      intro n
      induction n generalizing i with
      | zero =>
        rintro rfl
        exact noA_low h _ hi (by omega)
      | succ n ih =>
        rintro rfl
        by_cases cn : n = 0
        · subst cn
          have e := noA_low h b (by omega) (by omega)
          by_cases hb : b = 0
          · subst hb; rfl
          · obtain ⟨b', rfl⟩ : ∃ b', b = b' + 1 := ⟨b - 1, by omega⟩
            have e2 : su (b' + 1) (M (b' + 1 + 1)) ≤ su b' (M (b' + 1)) := lf_num.mp (h (b' + 1) (by omega)) b' (by omega)
            have : su b' (M (b' + 1)) ≤ su (b' + 1) (M (b' + 1)) := by rw [su_succ]; omega
            show su (b' + 1) (M (b' + 1 + 1)) = 0
            omega
        · have e := ih (i := b + n) (by omega) (by omega) (by omega) rfl
          by_cases hb : b = 0
          · subst hb; rfl
          · obtain ⟨b', rfl⟩ : ∃ b', b = b' + 1 := ⟨b - 1, by omega⟩
            have e2 : su (b' + 1) (M (b' + 1 + n + 1)) ≤ su b' (M (b' + 1 + n)) := lf_num.mp (h (b' + 1 + n) (by omega)) b' (by omega)
            have : su b' (M (b' + 1 + n)) ≤ su (b' + 1) (M (b' + 1 + n)) := by rw [su_succ]; omega
            show su (b' + 1) (M (b' + 1 + n + 1)) = 0
            omega
    have := h' (i - b) (by omega)
    have := su_mono (f := M i) hj
    omega
theorem formN_of (hA : NoA false a b M) (hB : NoB false a b M) : FormN a b M := by
  have off : ∀ i j, i < a → j < b → i ≠ j → M i j = 0 := fun i j hi hj hij => by
    by_cases c : j < i
    · exact noA_low2 hA hi hj c
    · exact noA_low2 (noB_tr.mp hB) hj hi (by omega)
  refine ⟨off, fun i h1 h2 => ?_⟩
  have e : su (i + 1 + 1) (M (i + 1)) ≤ su (i + 1) (M i) := lf_num.mp (hA i h1) (i + 1) h2
  rw [su_diag (i := i + 1) fun j hj hij => off _ _ h1 (by omega) hij, su_diag (i := i) fun j hj hij => off _ _ (by omega) (by omega) hij] at e
  simpa using e
theorem formN_A (h : FormN a b M) : NoA false a b M := fun lo hlo => by
  refine lf_num.mpr fun k hk => ?_
  rw [su_diag (i := lo + 1) fun j hj hij => h.off _ _ hlo (by omega) hij, su_diag (i := lo) fun j hj hij => h.off _ _ (by omega) (by omega) hij]
  by_cases c : lo < k
  · rw [if_pos (by omega), if_pos c]
    exact h.down lo hlo (by omega)
  · rw [if_neg (by omega), if_neg c]
    exact Nat.le_refl _
theorem formN_B (h : FormN a b M) : NoB false a b M := noB_tr.mpr (formN_A (formN_tr h))
theorem formN_eq (h : FormN a b M) (h2 : FormN a b N) (e : ∀ j, j < b → cs a M j = cs a N j) : ∀ i j, i < a → j < b → M i j = N i j := fun i j hi hj => by
  by_cases c : i = j
  · subst c
    have := e i hj
    rw [show cs a M i = _ from su_diag (i := i) fun k hk hik => h.off k i hk hj (Ne.symm hik), show cs a N i = _ from su_diag (i := i) fun k hk hik => h2.off k i hk hj (Ne.symm hik), if_pos hi, if_pos hi] at this
    exact this
  · rw [h.off i j hi hj c, h2.off i j hi hj c]
/-! ### signs -/
structure FormS (a b : Nat) (M : Fn) : Prop where
  right : ∀ i j, i < a → j + 1 < b → M i (j + 1) ≤ M i j
  down : ∀ i j, i + 1 < a → j < b → M (i + 1) j ≤ M i j
theorem noninc {f : Nat → Nat} {n : Nat} (h : ∀ j, j + 1 < n → f (j + 1) ≤ f j) : ∀ {i j : Nat}, i ≤ j → j < n → f j ≤ f i
  | i, 0, hij, _ => by
    have : i = 0 := by omega
    subst this
    exact Nat.le_refl _
  | i, j + 1, hij, hj => by
    by_cases c : i = j + 1
    · subst c
      exact Nat.le_refl _
    · have := noninc h (i := i) (j := j) (by omega) (by omega)
      have := h j hj
      omega
theorem su_ones {f : Nat → Nat} : ∀ {n : Nat}, (∀ i, i < n → f i ≤ 1) → su n f ≤ n ∧ (su n f = n → ∀ i, i < n → f i = 1)
  | 0, _ => ⟨Nat.le_refl _, fun _ i hi => by omega⟩
  | n + 1, h => by
    obtain ⟨h1, h2⟩ := su_ones (n := n) fun i hi => h i (by omega)
    have h3 := h n (by omega)
    rw [su_succ]
    refine ⟨by omega, fun e i hi => ?_⟩
    by_cases c : i = n
    · subst c; omega
    · exact h2 (by omega) i (by omega)
theorem su_full {f : Nat → Nat} : ∀ {n : Nat}, (∀ i, i < n → f i = 1) → su n f = n
  | 0, _ => rfl
  | n + 1, h => by
    rw [su_succ, su_full fun i hi => h i (by omega), h n (by omega)]
theorem full_of {f g : Nat → Nat} {n k : Nat} (o : ∀ i, i < n → f i ≤ 1) (o2 : ∀ i, i < n → g i ≤ 1) (hf : ∀ j, j + 1 < n → f (j + 1) ≤ f j) (hk : k < n) (h1 : f k = 1) (e : su (k + 1) f ≤ su (k + 1) g) : g k = 1 := by
  have q1 : su (k + 1) f = k + 1 := su_full fun i hi => by
    have := noninc hf (i := i) (j := k) (by omega) hk
    have := o i (by omega)
    omega
  obtain ⟨q2, q3⟩ := su_ones (n := k + 1) (f := g) fun i hi => o2 i (by omega)
  exact q3 (by omega) k (by omega)
theorem noB_rev : NoB true a b M ↔ ∀ j, j + 1 < b → ∀ k, k < a → su (k + 1) (fun i => M (a - 1 - i) (j + 1)) ≤ su (k + 1) fun i => M (a - 1 - i) j := by
  unfold NoB rowsL
  rw [if_pos rfl]
  constructor
  · intro h j hj
    have := h j hj
    rw [lf_rev, Option.map_eq_none_iff] at this
    exact lf_sgn.mp this
  · intro h j hj
    rw [lf_rev, Option.map_eq_none_iff]
    exact lf_sgn.mpr (h j hj)
theorem noA_far (h : NoA true a b M) {i m k : Nat} (him : i ≤ m) (hm : m < a) (hk : k < b) : su (k + 1) (M m) ≤ su (k + 1) (M i) :=
  noninc (f := fun i => su (k + 1) (M i)) (fun j hj => lf_sgn.mp (h j hj) k hk) him hm
theorem formS_of (one : ∀ i j, M i j ≤ 1) (hA : NoA true a b M) (hB : NoB true a b M) : FormS a b M := by
  have right : ∀ n i, n = a - 1 - i → i < a → ∀ j, j + 1 < b → M i (j + 1) ≤ M i j := by
    intro n
    induction n using Nat.strongRecOn with
    | _ n ih =>
      intro i hn hi j hj
      apply Classical.byContradiction
      intro hc
      have e := noB_rev.mp hB j hj n (by omega)
      rw [su_succ, su_succ, show a - 1 - n = i by omega] at e
      have o1 := one i j
      have o2 := one i (j + 1)
      have : ∃ l, l < n ∧ M (a - 1 - l) (j + 1) < M (a - 1 - l) j := by
        apply Classical.byContradiction
        intro hx
        have := su_le (n := n) (f := fun i => M (a - 1 - i) j) (g := fun i => M (a - 1 - i) (j + 1)) fun l hl => by
          apply Classical.byContradiction
          intro hy
          exact hx ⟨l, hl, by omega⟩
        omega
      obtain ⟨l, hl, hlt⟩ := this
      have r := ih l hl (a - 1 - l) (by omega) (by omega)
      have := full_of (f := M (a - 1 - l)) (g := M i) (n := b) (k := j) (fun _ _ => one _ _) (fun _ _ => one _ _) r (by omega) (by have := one (a - 1 - l) j; omega) (noA_far hA (by omega) (by omega) (by omega))
      omega
  have right' : ∀ i j, i < a → j + 1 < b → M i (j + 1) ≤ M i j := fun i j hi hj => right _ i rfl hi j hj
  refine ⟨right', fun i j hi hj => ?_⟩
  apply Classical.byContradiction
  intro hc
  have := full_of (f := M (i + 1)) (g := M i) (n := b) (k := j) (fun _ _ => one _ _) (fun _ _ => one _ _) (fun l hl => right' _ l hi hl) hj (by have := one (i + 1) j; omega) (noA_far hA (by omega) hi hj)
  have o1 := one (i + 1) j
  omega
theorem formS_A (h : FormS a b M) : NoA true a b M := fun lo hlo => lf_sgn.mpr fun k hk => su_le fun j hj => h.down lo j hlo (by omega)
theorem formS_B (h : FormS a b M) : NoB true a b M := noB_rev.mpr fun j hj k hk => su_le fun i hi => h.right _ j (by omega) hj
theorem formS_tr (h : FormS a b M) : FormS b a (tr M) := ⟨fun i j hi hj => h.down j i hj hi, fun i j hi hj => h.right j i hj hi⟩
theorem su_noninc {f : Nat → Nat} {n : Nat} (o : ∀ i, i < n → f i ≤ 1) (h : ∀ j, j + 1 < n → f (j + 1) ≤ f j) : ∀ i, i < n → f i = if i < su n f then 1 else 0 := fun i hi => by
  by_cases c : f i = 0
  · have e : su n f ≤ i := by
      have : ∀ m, m ≤ n → i ≤ m → su m f ≤ i := by
        intro m hm him
        induction m with
        | zero => exact Nat.zero_le _
        | succ m ih =>
          by_cases d : i = m + 1
          · subst d
            exact (su_ones fun j hj => o j (by omega)).1
          · rw [su_succ]
            have := ih (by omega) (by omega)
            have := noninc h (i := i) (j := m) (by omega) (by omega)
            omega
      exact this n (Nat.le_refl _) (by omega)
    rw [c, if_neg (by omega)]
  · have := o i hi
    have e : su (i + 1) f = i + 1 := su_full fun j hj => by
      have := noninc h (i := j) (j := i) (by omega) hi
      have := o j (by omega)
      omega
    have : su (i + 1) f ≤ su n f := by
      have : ∀ m, i + 1 ≤ m → su (i + 1) f ≤ su m f := by
        intro m hm
        induction m with
        | zero => omega
        | succ m ih =>
          by_cases d : i = m
          · subst d; exact Nat.le_refl _
          · rw [su_succ (n := m)]
            have := ih (by omega)
            omega
      exact this n (by omega)
    rw [if_pos (by omega)]
    omega
theorem formS_eq (o1 : ∀ i j, M i j ≤ 1) (o2 : ∀ i j, N i j ≤ 1) (h : FormS a b M) (h2 : FormS a b N) (e : ∀ j, j < b → cs a M j = cs a N j) : ∀ i j, i < a → j < b → M i j = N i j := fun i j hi hj => by
  have q1 := su_noninc (f := fun i => M i j) (n := a) (fun _ _ => o1 _ _) (fun i hi => h.down i j hi hj) i hi
  have q2 := su_noninc (f := fun i => N i j) (n := a) (fun _ _ => o2 _ _) (fun i hi => h2.down i j hi hj) i hi
  have := e j hj
  have q1 : M i j = if i < cs a M j then 1 else 0 := q1
  have q2 : N i j = if i < cs a N j then 1 else 0 := q2
  rw [q1, q2, e j hj]
end
end Uh

set_option Elab.async false
set_option linter.all false
set_option maxRecDepth 100000
set_option maxHeartbeats 400000
/-! Tables are a double crystal. -/
namespace Uh
section
variable {sg : Bool} {T U : NT} {a b : Nat}
theorem noA_iff : No (stA sg a b) T ↔ NoA sg a b (fnT T) := by
  unfold NoA
  constructor
  · intro h lo hlo
    have := h lo
    unfold stA at this
    rw [if_pos hlo, Option.map_eq_none_iff] at this
    exact this
  · intro h lo
    unfold stA
    split
    · rename_i hlo
      rw [Option.map_eq_none_iff]
      exact h lo hlo
    · rfl
theorem noB_iff : No (stB sg a b) T ↔ NoB sg a b (fnT T) := by
  unfold NoB
  constructor
  · intro h lo hlo
    have := h lo
    unfold stB at this
    rw [if_pos hlo, Option.map_eq_none_iff] at this
    exact this
  · intro h lo
    unfold stB
    split
    · rename_i hlo
      rw [Option.map_eq_none_iff]
      exact h lo hlo
    · rfl
def Form (sg : Bool) (a b : Nat) (M : Fn) : Prop := if sg then FormS a b M else FormN a b M
theorem form_iff (g : Good sg T a b) : No (stA sg a b) T ∧ No (stB sg a b) T ↔ Form sg a b (fnT T) := by
  rw [noA_iff, noB_iff]
  unfold Form
  cases sg with
  | false => exact ⟨fun h => formN_of h.1 h.2, fun h => ⟨formN_A h, formN_B h⟩⟩
  | true => exact ⟨fun h => formS_of (oneT g rfl) h.1 h.2, fun h => ⟨formS_A h, formS_B h⟩⟩
theorem wA_get (h : wA a b T = wA a b U) : ∀ j, j < b → cs a (fnT T) j = cs a (fnT U) j := fun j hj => by
  have := congrArg (fun l => l[j]?) h
  simpa [wA, hj] using this
theorem wB_get (h : wB a b T = wB a b U) : ∀ i, i < a → rs b (fnT T) i = rs b (fnT U) i := fun i hi => by
  have := congrArg (fun l => l[i]?) h
  simpa [wB, hi] using this
theorem form_eqA (g : Good sg T a b) (g2 : Good sg U a b) (h : Form sg a b (fnT T)) (h2 : Form sg a b (fnT U)) (e : wA a b T = wA a b U) : T = U := by
  rw [← tab_fnT g.rect, ← tab_fnT g2.rect]
  refine tab_congr ?_
  unfold Form at h h2
  cases sg with
  | false => exact formN_eq h h2 (wA_get e)
  | true => exact formS_eq (oneT g rfl) (oneT g2 rfl) h h2 (wA_get e)
theorem form_eqB (g : Good sg T a b) (g2 : Good sg U a b) (h : Form sg a b (fnT T)) (h2 : Form sg a b (fnT U)) (e : wB a b T = wB a b U) : T = U := by
  rw [← tab_fnT g.rect, ← tab_fnT g2.rect]
  refine tab_congr ?_
  unfold Form at h h2
  cases sg with
  | false => exact fun i j hi hj => formN_eq (formN_tr h) (formN_tr h2) (wB_get e) j i hj hi
  | true => exact fun i j hi hj => formS_eq (M := tr (fnT T)) (N := tr (fnT U)) (fun i j => oneT g rfl j i) (fun i j => oneT g2 rfl j i) (formS_tr h) (formS_tr h2) (wB_get e) j i hj hi
def dbl (sg : Bool) (a b : Nat) : Dbl NT where
  f := stA sg a b
  g := stB sg a b
  ok := fun T => Good sg T a b
  okf := fun o h => okA o h
  okg := fun o h => okB o h
  c1 := fun o h k => d_c1 o h k
  c2 := fun o h k => d_c2 o h k
  c3 := fun o h k => d_c3 o h k
  injf := fun o o2 h k => d_injA o o2 h k
  injg := fun o o2 h k => d_injB o o2 h k
  potf := fun T => potA a b (fnT T)
  potg := fun T => potB a b (fnT T)
  decf := fun o h => by have := d_potA h; omega
  decg := fun o h => by have := d_potB h; omega
  wf := wA a b
  wg := wB a b
  keepf := fun o h => d_wA h
  keepg := fun o h => d_wB h
  cornf := fun o o2 h1 h2 h3 h4 e => form_eqA o o2 ((form_iff o).mp ⟨h1, h2⟩) ((form_iff o2).mp ⟨h3, h4⟩) e
  corng := fun o o2 h1 h2 h3 h4 e => form_eqB o o2 ((form_iff o).mp ⟨h1, h2⟩) ((form_iff o2).mp ⟨h3, h4⟩) e
/-! ### the way up -/
def wayL (sg : Bool) (a b : Nat) : Nat → Nat → NT → List Nat → List Nat × NT
  | 0, _, T, l => (l, T)
  | f + 1, low, T, l => if low + 1 < a then
      match stA sg a b low T with
      | none => wayL sg a b f (low + 1) T l
      | some U => wayL sg a b f 0 U (l ++ [low])
    else (l, T)
def mesA (a b : Nat) (low : Nat) (T : NT) : Nat := potA a b (fnT T) * 6 + (a - low)
def wayO (sg : Bool) (a b : Nat) (T : NT) : List Nat × NT := wayL sg a b (mesA a b 0 T) 0 T []
abbrev upA (sg : Bool) (a b : Nat) (T : NT) : NT := (wayO sg a b T).2
theorem wayL_end : ∀ (f low : Nat) (T : NT) (l : List Nat), a ≤ 5 → mesA a b low T ≤ f → (∀ lo, lo < low → stA sg a b lo T = none) → Rch (stA sg a b) T (wayL sg a b f low T l).2 ∧ No (stA sg a b) (wayL sg a b f low T l).2
  | 0, low, T, l, _, hm, hn => by
    refine ⟨.refl _, fun i => ?_⟩
    show stA sg a b i T = none
    unfold mesA at hm
    by_cases c : i < low
    · exact hn i c
    · unfold stA
      rw [if_neg (by omega)]
  | f + 1, low, T, l, ha, hm, hn => by
    unfold wayL
    by_cases c : low + 1 < a
    · rw [if_pos c]
      cases hz : stA sg a b low T with
      | none =>
        refine wayL_end f (low + 1) T l ha (by unfold mesA at hm ⊢; omega) fun lo hlo => ?_
        by_cases d : lo = low
        · rw [d, hz]
        · exact hn lo (by omega)
      | some U =>
        have hd := d_potA hz
        obtain ⟨h1, h2⟩ := wayL_end f 0 U (l ++ [low]) ha (by unfold mesA at hm ⊢; omega) fun lo hlo => by omega
        exact ⟨.step hz h1, h2⟩
    · rw [if_neg c]
      refine ⟨.refl _, fun i => ?_⟩
      show stA sg a b i T = none
      by_cases d : i < low
      · exact hn i d
      · unfold stA
        rw [if_neg (by omega)]
theorem upA_end (ha : a ≤ 5) : Rch (stA sg a b) T (upA sg a b T) ∧ No (stA sg a b) (upA sg a b T) := wayL_end _ _ _ _ ha (Nat.le_refl _) fun lo hlo => by omega
/-! ### crossed -/
def crF (sg : Bool) (a : Nat) (M : Fn) : Fn := if sg then fun j i => M (a - 1 - i) j else fun j i => M i j
def cbF (sg : Bool) (a : Nat) (M : Fn) : Fn := if sg then fun i j => M j (a - 1 - i) else fun i j => M j i
theorem colN_tab (h : T.length = a) {k : Nat} : colN T k = (List.range a).map fun i => fnT T i k := by
  apply List.ext_getElem
  · rw [colN_len, h]
    simp
  · intro i h1 h2
    have hi : i < T.length := by rwa [colN_len] at h1
    have := colN_get (T := T) (k := k) hi
    rw [List.getElem_map, List.getElem_range, ← this]
    simp [List.getD, h1]
theorem crN_tab (h : T.length = a) : crN sg T b = tab b a (crF sg a (fnT T)) := by
  unfold crN colsN tab crF
  cases sg with
  | false =>
    show (List.range b).map (colN T) = _
    exact List.map_congr_left fun k _ => colN_tab h
  | true =>
    show ((List.range b).map (colN T)).map List.reverse = _
    rw [List.map_map]
    refine List.map_congr_left fun k _ => ?_
    show (colN T k).reverse = _
    rw [colN_tab h, ← List.map_reverse, range_rev, List.map_map]
    rfl
theorem cbN_tab (h : T.length = b) : cbN sg T a = tab a b (cbF sg a (fnT T)) := by
  unfold cbN colsN tab cbF
  cases sg with
  | false =>
    show (List.range a).map (colN T) = _
    exact List.map_congr_left fun k _ => colN_tab h
  | true =>
    show ((List.range a).map (colN T)).reverse = _
    rw [← List.map_reverse, range_rev, List.map_map]
    refine List.map_congr_left fun k _ => ?_
    show colN T (a - 1 - k) = _
    rw [colN_tab h]
    rfl
theorem tab_len {M : Fn} : (tab a b M).length = a := by simp [tab]
theorem cb_cr (h : Rect T a b) : cbN sg (crN sg T b) a = T := by
  rw [crN_tab h.len, cbN_tab tab_len]
  refine Eq.trans (tab_congr (N := fnT T) fun i j hi hj => ?_) (tab_fnT h)
  unfold cbF crF
  cases sg with
  | false =>
    show fnT (tab b a _) j i = _
    rw [fnT_tab hj hi]
    rfl
  | true =>
    show fnT (tab b a _) j (a - 1 - i) = _
    rw [fnT_tab hj (by omega)]
    show fnT T (a - 1 - (a - 1 - i)) j = _
    rw [show a - 1 - (a - 1 - i) = i by omega]
theorem cr_good (g : Good sg T a b) : Good sg (crN sg T b) b a := by
  rw [crN_tab g.rect.len]
  refine good_tab g.b2 g.rect.c5 g.a2 g.rect.r5 ?_ fun hs i j hi hj => ?_
  · have h := g.sum
    have e : ((crN sg T b).map List.sum).sum = (T.map List.sum).sum := by
      rw [← sum_cols g.rect.row]
      unfold crN
      cases sg with
      | false => rfl
      | true =>
        show (((colsN T b).map List.reverse).map List.sum).sum = _
        rw [List.map_map]
        congr 1
        exact List.map_congr_left fun c _ => by
          show c.reverse.sum = c.sum
          exact (List.reverse_perm c).sum_nat
    rw [← tab_sum, ← crN_tab g.rect.len, e]
    exact h
  · subst hs
    exact oneT g rfl _ _
theorem gA_cr {j i : Nat} : gA sg (crF sg a (fnT T)) j i = gB sg (fnT T) j (if sg then a - 1 - i else i) := by
  unfold gA gB crF
  cases sg <;> rfl
theorem lf_cr {j : Nat} : lf (gB sg (fnT T) j) (rowsL sg a) 0 = (lf (gA sg (crF sg a (fnT T)) j) (List.range a) 0).map fun k => if sg then a - 1 - k else k := by
  unfold rowsL
  cases sg with
  | false =>
    show lf (gB false (fnT T) j) (List.range a) 0 = _
    rw [lf_congr (g := gA false (crF false a (fnT T)) j) (h := gB false (fnT T) j) (ks := List.range a) (q := 0) fun k _ => gA_cr (sg := false) (T := T) (a := a) (j := j) (i := k)]
    simp
  | true =>
    show lf (gB true (fnT T) j) (List.range a).reverse 0 = _
    rw [lf_rev, lf_congr (g := gA true (crF true a (fnT T)) j) (h := fun k => gB true (fnT T) j (a - 1 - k)) (ks := List.range a) (q := 0) fun k _ => gA_cr (sg := true) (T := T) (a := a) (j := j) (i := k)]
    rfl
theorem stA_cr (h : Rect T a b) {j : Nat} : stA sg b a j (crN sg T b) = (stB sg a b j T).map fun U => crN sg U b := by
  unfold stA stB
  split
  · rename_i hj
    rw [Option.map_map, lf_cr, Option.map_map, crN_tab h.len, lf_congr fun k hk => gA_tab (List.mem_range.mp hk) hj]
    cases hz : lf (gA sg (crF sg a (fnT T)) j) (List.range a) 0 with
    | none => rfl
    | some k =>
      have hk := List.mem_range.mp (lf_some hz).1
      show some _ = some (crN sg (tab a b _) b)
      rw [crN_tab tab_len]
      congr 1
      refine tab_congr fun x y hx hy => ?_
      unfold mvF crF
      cases sg with
      | false =>
        show (if y = k then _ else _) = fnT (tab a b (mvB j k (fnT T))) y x
        rw [fnT_tab hy hx, fnT_tab hx hy]
        rfl
      | true =>
        show (if y = k then _ else _) = fnT (tab a b (mvB j (a - 1 - k) (fnT T))) (a - 1 - y) x
        rw [fnT_tab (by omega) hx, fnT_tab hx hy]
        unfold mvB
        by_cases c : y = k
        · subst c
          simp
        · rw [if_neg c]
          have : ¬ a - 1 - y = a - 1 - k := by omega
          simp [this]
  · rfl
theorem rch_cr {x y : NT} (h : Rch (stA sg b a) x y) : ∀ T, Good sg T a b → x = crN sg T b → ∃ U, Good sg U a b ∧ Rch (stB sg a b) T U ∧ y = crN sg U b := by
  induction h with
  | refl => exact fun T g e => ⟨T, g, .refl _, e⟩
  | step e _ ih =>
    intro T g ex
    subst ex
    rw [stA_cr g.rect] at e
    obtain ⟨V, hV, rfl⟩ := Option.map_eq_some_iff.mp e
    obtain ⟨U, gU, r, ey⟩ := ih V (okB g hV) rfl
    exact ⟨U, gU, .step hV r, ey⟩
def upB (sg : Bool) (a b : Nat) (T : NT) : NT := cbN sg (upA sg b a (crN sg T b)) a
theorem upB_end (g : Good sg T a b) : Rch (stB sg a b) T (upB sg a b T) ∧ No (stB sg a b) (upB sg a b T) := by
  obtain ⟨h1, h2⟩ := upA_end (sg := sg) (a := b) (b := a) (T := crN sg T b) g.rect.c5
  obtain ⟨U, gU, r, e⟩ := rch_cr h1 T g rfl
  unfold upB
  rw [e, cb_cr gU.rect]
  refine ⟨r, fun j => ?_⟩
  have := h2 j
  rw [e, stA_cr gU.rect, Option.map_eq_none_iff] at this
  exact this
theorem upA_good (g : Good sg T a b) : Good sg (upA sg a b T) a b := rch_ok (dbl sg a b) (upA_end g.rect.r5).1 g
theorem upB_good (g : Good sg T a b) : Good sg (upB sg a b T) a b := rch_ok (dbl sg a b).swap (upB_end g).1 g
/-- a table that is its own end has no step -/
theorem rch_self {x : NT} (h : Rch (stA sg a b) T x) : x = T → No (stA sg a b) x → No (stA sg a b) T := fun e n => e ▸ n
theorem upA_eq (ha : a ≤ 5) : upA sg a b T = T ↔ No (stA sg a b) T := by
  constructor
  · intro e
    have := (upA_end (sg := sg) (a := a) (b := b) (T := T) ha).2
    rwa [e] at this
  · intro n
    obtain ⟨h1, _⟩ := upA_end (sg := sg) (a := a) (b := b) (T := T) ha
    generalize upA sg a b T = U at h1
    cases h1 with
    | refl => rfl
    | step e _ =>
      rw [n] at e
      cases e
theorem upB_eq (g : Good sg T a b) : upB sg a b T = T ↔ No (stB sg a b) T := by
  constructor
  · intro e
    have := (upB_end g).2
    rwa [e] at this
  · intro n
    obtain ⟨h1, _⟩ := upB_end g
    generalize upB sg a b T = U at h1
    cases h1 with
    | refl => rfl
    | step e _ =>
      rw [n] at e
      cases e
/-- where any steps end -/
theorem endA (g : Good sg T a b) (h : Rch (stA sg a b) T U) (n : No (stA sg a b) U) : U = upA sg a b T := uniqF (dbl sg a b) g h n (upA_end g.rect.r5).1 (upA_end g.rect.r5).2
theorem endB (g : Good sg T a b) (h : Rch (stB sg a b) T U) (n : No (stB sg a b) U) : U = upB sg a b T := uniqG (dbl sg a b) g h n (upB_end g).1 (upB_end g).2
def corn (sg : Bool) (a b : Nat) (T : NT) : NT := upB sg a b (upA sg a b T)
theorem corn_good (g : Good sg T a b) : Good sg (corn sg a b T) a b := upB_good (upA_good g)
theorem endAB (g : Good sg T a b) (h : Rm (stA sg a b) (stB sg a b) T U) (n : No (stA sg a b) U) (n2 : No (stB sg a b) U) : U = corn sg a b T :=
  mixed (dbl sg a b) g h n n2 (upA_end g.rect.r5).1 (upA_end g.rect.r5).2 (upB_end (upA_good g)).1 (upB_end (upA_good g)).2
theorem corn_cross (g : Good sg T a b) : upA sg a b (upB sg a b T) = corn sg a b T :=
  cross (dbl sg a b) g (upA_end g.rect.r5).1 (upA_end g.rect.r5).2 (upB_end (upA_good g)).1 (upB_end (upA_good g)).2 (upB_end g).1 (upB_end g).2 (upA_end g.rect.r5).1 (upA_end g.rect.r5).2
theorem corn_no (g : Good sg T a b) : No (stA sg a b) (corn sg a b T) ∧ No (stB sg a b) (corn sg a b T) := by
  refine ⟨?_, (upB_end (upA_good g)).2⟩
  rw [← corn_cross g]
  exact (upA_end g.rect.r5).2
/-! ### bounds -/
theorem su_mul {k : Nat} {f : Nat → Nat} : ∀ {n : Nat}, (∀ i, i < n → i ≤ k) → su n (fun i => i * f i) ≤ k * su n f
  | 0, _ => Nat.zero_le _
  | n + 1, h => by
    rw [su_succ, su_succ, Nat.mul_add]
    have h1 := su_mul (f := f) (n := n) fun i hi => h i (by omega)
    have h2 : n * f n ≤ k * f n := Nat.mul_le_mul_right _ (h n (by omega))
    omega
theorem tot_tr {M : Fn} : tot b a (tr M) = tot a b M := by
  show su b (fun i => su a fun j => M j i) = su a fun i => su b fun j => M i j
  induction a with
  | zero =>
    have : ∀ n, su n (fun _ => su 0 (fun _ => 0)) = 0 := fun n => by
      induction n with
      | zero => rfl
      | succ n ih => rw [su_succ, ih]; rfl
    exact this b
  | succ a ih =>
    rw [su_succ (f := fun i => su b fun j => M i j), ← ih, ← su_add]
    exact su_congr fun i _ => su_succ
theorem potA_le (g : Good sg T a b) (ha : a ≤ 4) : potA a b (fnT T) ≤ 36 := by
  have h1 := su_mul (k := 3) (f := rs b (fnT T)) (n := a) fun i hi => by omega
  have h2 := good_tot g
  unfold tot at h2
  unfold potA
  omega
theorem potB_le (g : Good sg T a b) (hb : b ≤ 4) : potB a b (fnT T) ≤ 36 := by
  have h1 := su_mul (k := 3) (f := rs a (tr (fnT T))) (n := b) fun i hi => by omega
  have h2 := good_tot g
  rw [← tot_tr] at h2
  unfold tot at h2
  unfold potB potA
  omega
end
end Uh

set_option Elab.async false
set_option linter.all false
set_option maxRecDepth 100000
set_option maxHeartbeats 200000
namespace Uh
open PySem PySem.Spec PyProof.Rows L2
open Evl (Ex)
local macro_rules | `(tactic| walk_at "ev") => `(tactic| repeat (first
  | with_reducible exact ep_var rfl | with_reducible exact ep_int | with_reducible exact ep_bl | with_reducible exact ep_non | with_reducible exact ep_str
  | with_reducible exact ea_nil | with_reducible apply ea_cons | with_reducible apply ep_tupG | with_reducible apply ef_lstG | with_reducible exact et_yes
  | with_reducible apply ca_isiG | with_reducible exact kit_tuple _ | with_reducible exact kit_int _ | with_reducible exact kit_bool _ | with_reducible exact kit_str _
  | with_reducible apply et_test | with_reducible apply et_b | with_reducible apply et_not | with_reducible apply et_orG | with_reducible apply et_andG
  | with_reducible apply ep_orG | with_reducible apply ep_andG | with_reducible apply ep_notV | with_reducible apply ep_chainG
  | with_reducible apply ep_inG | with_reducible apply ep_op | with_reducible apply ep_un | with_reducible apply ep_cb
  | with_reducible exact od_i | with_reducible exact od_b | with_reducible exact od_eqI | with_reducible exact od_neI | with_reducible exact od_eqS | with_reducible exact od_eqB | with_reducible exact od_isN | with_reducible exact od_notN | with_reducible exact ud_i
  | with_reducible exact od_ixT at3_0 | with_reducible exact od_ixT at3_1 | with_reducible exact od_ixT at3_2 | with_reducible exact od_ixT at2_0 | with_reducible exact od_ixT at2_1 | with_reducible exact od_ixT at1_0
  | with_reducible apply od_catA | (with_reducible show _ + _ ≤ 100000; first | omega | (simp; done) | (simp; omega))
  | with_reducible exact ca_lenT | with_reducible exact ca_lenL
  | exact (show allS _ = true from rfl) | exact (show Nat.ble _ 100000 = true from rfl)))
abbrev natD (k : Nat) : PyData := .int (k : Nat)
theorem eqv_row : ∀ {r s : List Nat}, PyData.eqvAll (r.map natD) (s.map natD) = decide (r = s)
  | [], [] => by simp [PyData.eqvAll]
  | [], _ :: _ => by simp [PyData.eqvAll]
  | _ :: _, [] => by simp [PyData.eqvAll]
  | x :: r, y :: s => by
    rw [List.map_cons, List.map_cons, PyData.eqvAll, eqv_row]
    show (PyData.eqv (.int (x : Nat)) (.int (y : Nat)) && _) = _
    rw [PyData.eqv]
    rw [Bool.eq_iff_iff]
    simp
    omega
theorem eqv_tabs : ∀ {r s : NT}, PyData.eqvAll (r.map rowN) (s.map rowN) = decide (r = s)
  | [], [] => by simp [PyData.eqvAll]
  | [], _ :: _ => by simp [PyData.eqvAll]
  | _ :: _, [] => by simp [PyData.eqvAll]
  | x :: r, y :: s => by
    rw [List.map_cons, List.map_cons, PyData.eqvAll, eqv_tabs]
    show (PyData.eqv (.tuple (x.map natD)) (.tuple (y.map natD)) && _) = _
    rw [PyData.eqv, eqv_row, Bool.eq_iff_iff]
    simp
theorem eqv_tabN {r s : NT} : PyData.eqv (tabN r) (tabN s) = decide (r = s) := by
  show PyData.eqv (.tuple (r.map rowN)) (.tuple (s.map rowN)) = _
  rw [PyData.eqv, eqv_tabs]
theorem plain_row {r : List Nat} : plainD (rowN r) = true := plainL_all fun d hd => by
  obtain ⟨k, _, rfl⟩ := List.mem_map.mp hd
  rfl
theorem plain_tabN {T : NT} : plainD (tabN T) = true := plainL_all fun d hd => by
  obtain ⟨k, _, rfl⟩ := List.mem_map.mp hd
  exact plain_row
theorem can_row {r : List Nat} : PyData.canLay0 (rowN r) = true := canAll fun d hd => by
  obtain ⟨k, _, rfl⟩ := List.mem_map.mp hd
  rfl
theorem depth_row {r : List Nat} : PyData.depth (rowN r) ≤ 60 := by
  have : PyData.depthAll (r.map natD) ≤ 1 := depthAll_le fun d hd => by
    obtain ⟨k, _, rfl⟩ := List.mem_map.mp hd
    simp [PyData.depth]
  show PyData.depthAll (r.map natD) + 1 ≤ 60
  omega
theorem shaped_tabN {T : NT} : SeqAt.shaped (tabN T) = true := shaped_tuple (fun d hd => by
  obtain ⟨k, _, rfl⟩ := List.mem_map.mp hd
  exact can_row) fun d hd => by
  obtain ⟨k, _, rfl⟩ := List.mem_map.mp hd
  exact depth_row
theorem od_eqTab {K : PySem.W.Frag} {T U : NT} : OpD (rEqD K) (tabN T) (tabN U) (.bool (decide (T = U))) := fun av H v w l a b Q q =>
  od_eqD plain_tabN plain_tabN shaped_tabN shaped_tabN av H v w l a b Q (by rw [eqv_tabN]; exact q)
theorem potA_48 {sg : Bool} {T : NT} {a b : Nat} (g : Good sg T a b) : potA a b (fnT T) ≤ 48 := by
  have h1 := su_mul (k := 4) (f := rs b (fnT T)) (n := a) fun i hi => by have := g.rect.r5; omega
  have h2 := good_tot g
  unfold tot at h2
  unfold potA
  omega
/-! way_up -/
def R_way_up (ds : List PyData) (r : PyData) : Prop := ∃ (T : NT) (sg : Bool) (a b : Nat), ds = [tabN T, .bool sg] ∧ Good sg T a b ∧ r = .tuple [.list ((wayO sg a b T).1.map natD), tabN (upA sg a b T)]
def sp_way_up (K : PySem.W.Frag) : Sp := SpP R_way_up
def t_way_up (K : PySem.W.Frag) : TS := tSeq (tAsg (tLst (tNil)) (gName 2)) (tSeq (tAsg (tVar 0) (gName 3)) (tSeq (tAsg (tC (.int 0)) (gName 4)) (tSeq (tWhile (tTest (tOp (rI0 fun i j => .bl (decide (i < j))) (tVar 4) (tOp (rI0 fun i j => .int (i - j)) (tCB (rLen K) (tCons (tVar 0) (tNil))) (tC (.int 1))))) (tSeq (tAsg (tCall (sp_moved_tables K) [] E0 (tCons (tVar 3) (tCons (tOp (rI0 fun i j => .int (i + j)) (tVar 4) (tC (.int 1))) (tCons (tVar 4) (tCons (tVar 1) (tNil)))))) (gName 5)) (tIfS (tTest (tOp (rIsNo) (tVar 5) (tC .non))) (tAsg (tOp (rI0 fun i j => .int (i + j)) (tVar 4) (tC (.int 1))) (gName 4)) (tSeq (tDrop (tBM K "list" rAppend (tVar 2) (tCons (tVar 4) (tNil)))) (tSeq (tAsg (tVar 5) (gName 3)) (tAsg (tC (.int 0)) (gName 4))))))) (tRet (tTup (tCons (tVar 2) (tCons (tVar 3) (tNil))))))))
theorem len_way_up {K : PySem.W.Frag} {vs : List V} {H : Hp} {Q : VK} {E : XK} (h : sp_way_up K vs H Q E) : vs.length = 2 := spP_len h fun ds r ⟨_, _, _, _, e, _⟩ => by rw [e]; rfl
theorem run_way_up (K : PySem.W.Frag) (W : Wd) (n : Nat) (ds : List PyData) (r : PyData) (h : R_way_up ds r) : RunS W (t_way_up K) n (ds.map Slot.d ++ List.replicate (6 - ds.length) .non) (fun o => o = .rt n r) := by
  obtain ⟨TT, sg, a, b, rfl, g, rfl⟩ := h
  have hlen := g.rect.len
  have ha5 := g.rect.r5
  refine snew (ef_lst ea_nil (by simp)) fun p => ?_
  refine sa (ep_var rfl) ?_
  refine sa ep_int ?_
  have hpot := potA_48 g
  refine rs_seq (rs_while (fun m n' ss' => n' = n ∧ ∃ (low : Nat) (U : NT) (l : List Nat) (near : Slot), ss' = [.d (tabN TT), .d (.bool sg), .own p (l.map natD), .d (tabN U), .d (.int (low : Nat)), near] ∧ near.ow = [] ∧ Good sg U a b ∧ wayL sg a b m low U l = wayO sg a b TT ∧ mesA a b low U ≤ m ∧ l.length + m ≤ 300)
    (mesA a b 0 TT) ⟨rfl, 0, TT, [], .non, rfl, rfl, g, rfl, Nat.le_refl _, by show 0 + (potA a b (fnT TT) * 6 + (a - 0)) ≤ 300; omega⟩ ?_)
  rintro m n' ss' ⟨rfl, low, U, l, near, rfl, hne, gU, hw, hm, hb⟩
  refine ⟨decide (low + 1 < a), et_is (b := decide (low + 1 < a)) (et_test (ep_op (ep_var rfl) (ep_op (ep_is (ep_cb (ea_cons (ep_var rfl) ea_nil) ca_lenT) (by rw [List.length_map, hlen])) ep_int od_i) od_b)) (decide_eq_decide.mpr (by omega)), fun hc => ?_, fun hc => ?_⟩
  · have hlo : low + 1 < a := of_decide_eq_true hc
    obtain ⟨m', rfl⟩ : ∃ m', m = m' + 1 := ⟨m - 1, by unfold mesA at hm; omega⟩
    refine sa (ep_call (by walk_at "ev") ⟨U, sg, a, b, low, (low : Int) + 1, rfl, rfl, gU, hlo, rfl⟩) ?_
    unfold wayL at hw
    rw [if_pos hlo] at hw
    rw [mvT_stA gU hlo]
    cases hz : stA sg a b low U with
    | none =>
      rw [hz] at hw
      refine rs_ifT (et_is (by walk_at "ev") (by rfl)) (rs_asg (d := .int ((low + 1 : Nat) : Int)) (ep_is (y := .int ((low + 1 : Nat) : Int)) (by walk_at "ev") (by rfl)) ⟨m', by omega, rfl, low + 1, U, l, .d (optN none), rfl, rfl, gU, hw, by unfold mesA at hm ⊢; omega, by omega⟩)
    | some V =>
      rw [hz] at hw
      have hd := d_potA hz
      refine rs_ifF (et_is (by walk_at "ev") (by rfl)) (sapp rfl (by rw [List.length_map]; omega) (ep_var rfl) (sa (ep_var rfl) (rs_asg ep_int ⟨m', by omega, rfl, 0, V, l ++ [low], .d (optN (some V)), ?_, rfl, okA gU hz, hw, by unfold mesA at hm ⊢; omega, by rw [List.length_append]; simp; omega⟩)))
      rw [List.map_append]
      rfl
  · have hlo : ¬ low + 1 < a := of_decide_eq_false hc
    have e : wayL sg a b m low U l = (l, U) := by
      cases m with
      | zero => rfl
      | succ m =>
        unfold wayL
        rw [if_neg hlo]
    rw [e] at hw
    show RunS W _ _ _ _
    unfold upA
    rw [← hw]
    exact rs_freeze (i := 2) rfl (rs_ret (ep_tup (ea_cons (ep_var rfl) (ea_cons (ep_var rfl) ea_nil)) (by simp)) rfl)
theorem pure_way_up {K : PySem.W.Frag} {vs : List V} {H : Hp} {Q : VK} {E : XK} (h : sp_way_up K vs H Q E) : t_way_up K { nx := fun _ H' => Q .non H', rt := Q } (L2.start ["table", "sign", "lows", "here", "low", "near"] vs) H := pure_of h fun W n ds r hr => run_way_up K W n ds r hr
section
variable {P : Program} {w : World} {K : PySem.W.Frag} {mg : Str → Option Value} {base : Heap}
abbrev N_way_up : List Str := ["table", "sign", "lows", "here", "low", "near"]
theorem sc_way_up : FnScope N_way_up ["table", "sign"] (defScope s_way_up) := ⟨rfl, rfl, rfl, by decide +kernel, rfl, by decide +kernel, by decide +kernel⟩
theorem ok_way_up (T : Tx K mg) : ∃ fd, FnOk P w K mg base CX0 17 (He.ga K "way_up") fd ["table", "sign"] (sp_way_up K) ∧ Binds K fd ["table", "sign"] [] := by
  have nd := sc_way_up.nd
  obtain ⟨_, G_moved_tables, b_moved_tables⟩ := ok_moved_tables (P := P) (w := w) (base := base) T
  obtain ⟨fd, F⟩ := T.d_way_up
  refine ⟨fd, FunD.ok F sc_way_up (fun vs H Q E h => len_way_up h) (fun cdv A outer s H vs Q E hr h => ⟨t_way_up K, PSs.nox ?_, pure_way_up h⟩), F.bindsN fun _ _ _ _ _ _ us hl => match us, hl with | [_, _], _ => rfl⟩
  exact pss_cons (ps_set (i := 2) nd rfl (Or.inl rfl) (pe_lst (pa_nil))) (pss_cons (ps_set (i := 3) nd rfl (Or.inl rfl) (pv 0)) (pss_cons (ps_set (i := 4) nd rfl (Or.inl rfl) (pe_int)) (pss_cons (ps_while PassesOwn.never (pt_cmpR op_lt (pv 4) (pe_op op_sub (pe_callB call_len_seq (by rfl) T.f_len (by decide +kernel) (pa_cons (pv 0) (pa_nil))) (pe_int)) (nomark _)) (pss_cons (ps_set (i := 5) nd rfl (Or.inl rfl) (pe_call G_moved_tables (hr.mono (by omega)) rfl T.g_moved_tables T.k_moved_tables b_moved_tables .nil pass0 (pa_cons (pv 3) (pa_cons (pe_op op_add (pv 4) (pe_int)) (pa_cons (pv 4) (pa_cons (pv 1) (pa_nil))))))) (pss_one (ps_if (pt_cmpR op_isN (pv 5) (pe_non) (nomark _)) (pss_one (ps_set (i := 4) nd rfl (Or.inl rfl) (pe_op op_add (pv 4) (pe_int)))) (pss_cons (ps_expr (pe_bm PySem.F.plainAttrs_list PySem.F.slot_list_append PySem.F.type_list_append mt_append (pv 2) (pa_cons (pv 4) (pa_nil)))) (pss_cons (ps_set (i := 3) nd rfl (Or.inl rfl) (pv 5)) (pss_one (ps_set (i := 4) nd rfl (Or.inl rfl) (pe_int))))))))) (pss_one (ps_ret (pe_tup (pa_cons (pv 2) (pa_cons (pv 3) (pa_nil)))))))))
end
/-! up_names -/
def R_up_names (ds : List PyData) (r : PyData) : Prop := ∃ (T : NT) (sg : Bool) (a b : Nat), ds = [tabN T, .bool sg] ∧ Good sg T a b ∧ r = tabN (upA sg a b T)
def sp_up_names (K : PySem.W.Frag) : Sp := SpP R_up_names
def t_up_names (K : PySem.W.Frag) : TS := tRet (tOp (rIxT K) (tCall (sp_way_up K) [] E0 (tCons (tVar 0) (tCons (tVar 1) (tNil)))) (tC (.int 1)))
theorem len_up_names {K : PySem.W.Frag} {vs : List V} {H : Hp} {Q : VK} {E : XK} (h : sp_up_names K vs H Q E) : vs.length = 2 := spP_len h fun ds r ⟨_, _, _, _, e, _⟩ => by rw [e]; rfl
theorem run_up_names (K : PySem.W.Frag) (W : Wd) (n : Nat) (ds : List PyData) (r : PyData) (h : R_up_names ds r) : RunS W (t_up_names K) n (ds.map Slot.d ++ List.replicate (2 - ds.length) .non) (fun o => o = .rt n r) := by
  obtain ⟨TT, sg, a, b, rfl, g, rfl⟩ := h
  exact rs_ret (ep_op (ep_call (by walk_at "ev") ⟨TT, sg, a, b, rfl, g, rfl⟩) ep_int (od_ixT at2_1)) rfl
theorem pure_up_names {K : PySem.W.Frag} {vs : List V} {H : Hp} {Q : VK} {E : XK} (h : sp_up_names K vs H Q E) : t_up_names K { nx := fun _ H' => Q .non H', rt := Q } (L2.start ["table", "sign"] vs) H := pure_of h fun W n ds r hr => run_up_names K W n ds r hr
section
variable {P : Program} {w : World} {K : PySem.W.Frag} {mg : Str → Option Value} {base : Heap}
abbrev N_up_names : List Str := ["table", "sign"]
theorem sc_up_names : FnScope N_up_names ["table", "sign"] (defScope s_up_names) := ⟨rfl, rfl, rfl, by decide +kernel, rfl, by decide +kernel, by decide +kernel⟩
theorem ok_up_names (T : Tx K mg) : ∃ fd, FnOk P w K mg base CX0 18 (He.ga K "up_names") fd ["table", "sign"] (sp_up_names K) ∧ Binds K fd ["table", "sign"] [] := by
  have nd := sc_up_names.nd
  obtain ⟨_, G_way_up, b_way_up⟩ := ok_way_up (P := P) (w := w) (base := base) T
  obtain ⟨fd, F⟩ := T.d_up_names
  refine ⟨fd, FunD.ok F sc_up_names (fun vs H Q E h => len_up_names h) (fun cdv A outer s H vs Q E hr h => ⟨t_up_names K, PSs.nox ?_, pure_up_names h⟩), F.bindsN fun _ _ _ _ _ _ us hl => match us, hl with | [_, _], _ => rfl⟩
  exact pss_one (ps_ret (pe_ix ix_tup (pe_call G_way_up (hr.mono (by omega)) rfl T.g_way_up T.k_way_up b_way_up .nil pass0 (pa_cons (pv 0) (pa_cons (pv 1) (pa_nil)))) (pe_int) (fun _ _ => rfl)))
end
/-! up_columns -/
def R_up_columns (ds : List PyData) (r : PyData) : Prop := ∃ (T : NT) (sg : Bool) (a b : Nat), ds = [tabN T, .bool sg] ∧ Good sg T a b ∧ r = tabN (upB sg a b T)
def sp_up_columns (K : PySem.W.Frag) : Sp := SpP R_up_columns
def t_up_columns (K : PySem.W.Frag) : TS := tRet (tCall (sp_crossed_back K) [] E0 (tCons (tOp (rIxT K) (tCall (sp_way_up K) [] E0 (tCons (tCall (sp_crossed K) [] E0 (tCons (tVar 0) (tCons (tVar 1) (tNil)))) (tCons (tVar 1) (tNil)))) (tC (.int 1))) (tCons (tVar 1) (tNil))))
theorem len_up_columns {K : PySem.W.Frag} {vs : List V} {H : Hp} {Q : VK} {E : XK} (h : sp_up_columns K vs H Q E) : vs.length = 2 := spP_len h fun ds r ⟨_, _, _, _, e, _⟩ => by rw [e]; rfl
theorem run_up_columns (K : PySem.W.Frag) (W : Wd) (n : Nat) (ds : List PyData) (r : PyData) (h : R_up_columns ds r) : RunS W (t_up_columns K) n (ds.map Slot.d ++ List.replicate (2 - ds.length) .non) (fun o => o = .rt n r) := by
  obtain ⟨TT, sg, a, b, rfl, g, rfl⟩ := h
  have gc := cr_good g
  have h1 : EvP (tCall (sp_crossed K) [] E0 (tCons (tVar 0) (tCons (tVar 1) (tNil)))) [.d (tabN TT), .d (.bool sg)] (tabN (crN sg TT b)) := ep_call (by walk_at "ev") ⟨TT, sg, a, b, rfl, g.rect, rfl⟩
  have h2 := ep_op (r := rIxT K) (ep_call (R := R_way_up) (E := E0) (ea_cons h1 (ea_cons (ep_var (i := 1) rfl) ea_nil)) ⟨_, sg, b, a, rfl, gc, rfl⟩) (ep_int (i := 1)) (od_ixT at2_1)
  exact rs_ret (ep_call (ea_cons h2 (ea_cons (ep_var rfl) ea_nil)) ⟨_, sg, b, a, rfl, (upA_good gc).rect, rfl⟩) rfl
theorem pure_up_columns {K : PySem.W.Frag} {vs : List V} {H : Hp} {Q : VK} {E : XK} (h : sp_up_columns K vs H Q E) : t_up_columns K { nx := fun _ H' => Q .non H', rt := Q } (L2.start ["table", "sign"] vs) H := pure_of h fun W n ds r hr => run_up_columns K W n ds r hr
section
variable {P : Program} {w : World} {K : PySem.W.Frag} {mg : Str → Option Value} {base : Heap}
abbrev N_up_columns : List Str := ["table", "sign"]
theorem sc_up_columns : FnScope N_up_columns ["table", "sign"] (defScope s_up_columns) := ⟨rfl, rfl, rfl, by decide +kernel, rfl, by decide +kernel, by decide +kernel⟩
theorem ok_up_columns (T : Tx K mg) : ∃ fd, FnOk P w K mg base CX0 18 (He.ga K "up_columns") fd ["table", "sign"] (sp_up_columns K) ∧ Binds K fd ["table", "sign"] [] := by
  have nd := sc_up_columns.nd
  obtain ⟨_, G_crossed_back, b_crossed_back⟩ := ok_crossed_back (P := P) (w := w) (base := base) T
  obtain ⟨_, G_way_up, b_way_up⟩ := ok_way_up (P := P) (w := w) (base := base) T
  obtain ⟨_, G_crossed, b_crossed⟩ := ok_crossed (P := P) (w := w) (base := base) T
  obtain ⟨fd, F⟩ := T.d_up_columns
  refine ⟨fd, FunD.ok F sc_up_columns (fun vs H Q E h => len_up_columns h) (fun cdv A outer s H vs Q E hr h => ⟨t_up_columns K, PSs.nox ?_, pure_up_columns h⟩), F.bindsN fun _ _ _ _ _ _ us hl => match us, hl with | [_, _], _ => rfl⟩
  exact pss_one (ps_ret (pe_call G_crossed_back (hr.mono (by omega)) rfl T.g_crossed_back T.k_crossed_back b_crossed_back .nil pass0 (pa_cons (pe_ix ix_tup (pe_call G_way_up (hr.mono (by omega)) rfl T.g_way_up T.k_way_up b_way_up .nil pass0 (pa_cons (pe_call G_crossed (hr.mono (by omega)) rfl T.g_crossed T.k_crossed b_crossed .nil pass0 (pa_cons (pv 0) (pa_cons (pv 1) (pa_nil)))) (pa_cons (pv 1) (pa_nil)))) (pe_int) (fun _ _ => rfl)) (pa_cons (pv 1) (pa_nil)))))
end
/-- the table itself is good, or it is refused -/
def rootR (K : PySem.W.Frag) (ds : List PyData) (r : Rs) (F : Bool → Nat → Nat → NT → PyData) : Prop := ∃ (d : PyData) (sg : Bool), ds = [d, .bool sg] ∧ plainD d = true ∧ ((∃ (T : NT) (a b : Nat), d = tabN T ∧ Good sg T a b ∧ needD sg d = .ok ∧ r = .val (F sg a b T)) ∨ (needD sg d ≠ .ok ∧ r = ndtR K d (needD sg d)))
theorem ndt_exc {K : PySem.W.Frag} {d : PyData} {x : Ndt} (h : x ≠ .ok) : ∃ c, ndtR K d x = .exc c := by
  cases x with
  | ok => exact absurd rfl h
  | bad y => exact ⟨_, rfl⟩
  | great => exact ⟨_, rfl⟩
theorem need_step {K : PySem.W.Frag} {W : Wd} {n : Nat} {sg : Bool} {d : PyData} {tu : TS} {P : Out → Prop} (hd : plainD d = true) (k : needD sg d = .ok → RunS W tu n [.d d, .d (.bool sg)] P) (k2 : ∀ c, needD sg d ≠ .ok → ndtR K d (needD sg d) = .exc c → P (.xc n [.d d, .d (.bool sg)] c)) :
    RunS W (tSeq (tDrop (tCallKX 1 1 (sp_need_table K) W.xk (tCons (tVar 0) tNil) (tCons (tVar 1) tNil))) tu) n [.d d, .d (.bool sg)] P := by
  have h0 : EvA (tCons (tVar 0) tNil) [.d d, .d (.bool sg)] [d] := ea_cons (ep_var rfl) ea_nil
  have h1 : EvA (tCons (tVar 1) tNil) [.d d, .d (.bool sg)] [.bool sg] := ea_cons (ep_var rfl) ea_nil
  by_cases hok : needD sg d = .ok
  · exact sdrop (ep_callKX (z := d) h0 h1 ⟨d, sg, rfl, hd, by rw [hok]; rfl⟩) (k hok)
  · obtain ⟨c, hc⟩ := ndt_exc (K := K) (d := d) hok
    exact rs_seq (rs_dropX (ex_callKX h0 h1 ⟨d, sg, rfl, hd, hc.symm⟩) (k2 c hok hc))
/-! names_root -/
def R_names_root (K : PySem.W.Frag) (ds : List PyData) (r : Rs) : Prop := ∃ (d : PyData) (sg : Bool), ds = [d, .bool sg] ∧ plainD d = true ∧ ((∃ (T : NT) (a b : Nat), d = tabN T ∧ Good sg T a b ∧ needD sg d = .ok ∧ r = .val (tabN (upA sg a b T))) ∨ (needD sg d ≠ .ok ∧ r = ndtR K d (needD sg d)))
def sp_names_root (K : PySem.W.Frag) : Sp := SpX (R_names_root K)
def t_names_root (K : PySem.W.Frag) (W : WX) : TS := tSeq (tDrop (tCallKX 1 1 (sp_need_table K) W (tCons (tVar 0) (tNil)) (tCons (tVar 1) (tNil)))) (tRet (tCall (sp_up_names K) [] E0 (tCons (tVar 0) (tCons (tVar 1) (tNil)))))
theorem len_names_root {K : PySem.W.Frag} {vs : List V} {H : Hp} {Q : VK} {E : XK} (h : sp_names_root K vs H Q E) : vs.length = 2 := spX_len h fun ds r ⟨_, _, e, _⟩ => by rw [e]; rfl
theorem run_names_root (K : PySem.W.Frag) (T : Ers K) (W : Wd) (n : Nat) (ds : List PyData) (r : Rs) (h : R_names_root K ds r) : RunS W (t_names_root K W.xk) n (ds.map Slot.d ++ List.replicate (2 - ds.length) .non) (rsOut n r) := by
  obtain ⟨d, sg, rfl, hd, hr⟩ := h
  refine need_step hd (fun hok => ?_) (fun c hok hc => ?_)
  · rcases hr with ⟨T, a, b, rfl, g, _, rfl⟩ | ⟨z, _⟩
    · exact rs_ret (ep_call (by walk_at "ev") ⟨T, sg, a, b, rfl, g, rfl⟩) rfl
    · exact absurd hok z
  · rcases hr with ⟨T, a, b, rfl, g, z, rfl⟩ | ⟨z, rfl⟩
    · exact absurd z hok
    · rw [hc]
      exact ⟨_, rfl⟩
theorem pure_names_root {K : PySem.W.Frag} (T : Ers K) {vs : List V} {H : Hp} {Q : VK} {E : XK} (h : sp_names_root K vs H Q E) : t_names_root K (fun cls d _ H' => E cls d H') { nx := fun _ H' => Q .non H', rt := Q } (L2.start ["table", "sign"] vs) H := pureX_of (ts := t_names_root K) h fun W n ds r hr => run_names_root K T W n ds r hr
section
variable {P : Program} {w : World} {K : PySem.W.Frag} {mg : Str → Option Value} {base : Heap}
abbrev N_names_root : List Str := ["table", "sign"]
theorem sc_names_root : FnScope N_names_root ["table", "sign"] (defScope s_names_root) := ⟨rfl, rfl, rfl, by decide +kernel, rfl, by decide +kernel, by decide +kernel⟩
theorem ok_names_root (T : Tx K mg) : ∃ fd, FnOk P w K mg base (L2.CX P w) 19 (He.ga K "names_root") fd ["table", "sign"] (sp_names_root K) ∧ KBn K fd ["table", "sign"] 1 ["sign"] (fun a b => a ++ b) (fun a b => a ++ b) := by
  have nd := sc_names_root.nd
  obtain ⟨_, G_up_names, b_up_names⟩ := ok_up_names (P := P) (w := w) (base := base) T
  obtain ⟨_, G_need_table, b_need_table⟩ := ok_need_table (P := P) (w := w) (base := base) T
  obtain ⟨fd, F⟩ := T.d_names_root
  refine ⟨fd, FunD.ok F sc_names_root (fun vs H Q E h => len_names_root h) (fun cdv A outer s H vs Q E hr h => ⟨t_names_root K (fun cls d _ H' => E cls d H'), ?_, pure_names_root (ers T) h⟩), kbn_sign F fun _ _ _ _ _ _ _ _ => rfl⟩
  exact pss_cons (ps_expr (pe_callKX (n := 1) (ks := ["sign"]) G_need_table (hr.mono (by omega)) rfl T.g_need_table T.k_need_table b_need_table tk_of (pa_cons (pv 0) (pa_nil)) (pk_cons (pv 1) (pk_nil)))) (pss_one (ps_ret (pe_call G_up_names (hr.mono (by omega)) rfl T.g_up_names T.k_up_names b_up_names .nil pass0 (pa_cons (pv 0) (pa_cons (pv 1) (pa_nil))))))
end
/-! columns_root -/
def R_columns_root (K : PySem.W.Frag) (ds : List PyData) (r : Rs) : Prop := ∃ (d : PyData) (sg : Bool), ds = [d, .bool sg] ∧ plainD d = true ∧ ((∃ (T : NT) (a b : Nat), d = tabN T ∧ Good sg T a b ∧ needD sg d = .ok ∧ r = .val (tabN (upB sg a b T))) ∨ (needD sg d ≠ .ok ∧ r = ndtR K d (needD sg d)))
def sp_columns_root (K : PySem.W.Frag) : Sp := SpX (R_columns_root K)
def t_columns_root (K : PySem.W.Frag) (W : WX) : TS := tSeq (tDrop (tCallKX 1 1 (sp_need_table K) W (tCons (tVar 0) (tNil)) (tCons (tVar 1) (tNil)))) (tRet (tCall (sp_up_columns K) [] E0 (tCons (tVar 0) (tCons (tVar 1) (tNil)))))
theorem len_columns_root {K : PySem.W.Frag} {vs : List V} {H : Hp} {Q : VK} {E : XK} (h : sp_columns_root K vs H Q E) : vs.length = 2 := spX_len h fun ds r ⟨_, _, e, _⟩ => by rw [e]; rfl
theorem run_columns_root (K : PySem.W.Frag) (T : Ers K) (W : Wd) (n : Nat) (ds : List PyData) (r : Rs) (h : R_columns_root K ds r) : RunS W (t_columns_root K W.xk) n (ds.map Slot.d ++ List.replicate (2 - ds.length) .non) (rsOut n r) := by
  obtain ⟨d, sg, rfl, hd, hr⟩ := h
  refine need_step hd (fun hok => ?_) (fun c hok hc => ?_)
  · rcases hr with ⟨T, a, b, rfl, g, _, rfl⟩ | ⟨z, _⟩
    · exact rs_ret (ep_call (by walk_at "ev") ⟨T, sg, a, b, rfl, g, rfl⟩) rfl
    · exact absurd hok z
  · rcases hr with ⟨T, a, b, rfl, g, z, rfl⟩ | ⟨z, rfl⟩
    · exact absurd z hok
    · rw [hc]
      exact ⟨_, rfl⟩
theorem pure_columns_root {K : PySem.W.Frag} (T : Ers K) {vs : List V} {H : Hp} {Q : VK} {E : XK} (h : sp_columns_root K vs H Q E) : t_columns_root K (fun cls d _ H' => E cls d H') { nx := fun _ H' => Q .non H', rt := Q } (L2.start ["table", "sign"] vs) H := pureX_of (ts := t_columns_root K) h fun W n ds r hr => run_columns_root K T W n ds r hr
section
variable {P : Program} {w : World} {K : PySem.W.Frag} {mg : Str → Option Value} {base : Heap}
abbrev N_columns_root : List Str := ["table", "sign"]
theorem sc_columns_root : FnScope N_columns_root ["table", "sign"] (defScope s_columns_root) := ⟨rfl, rfl, rfl, by decide +kernel, rfl, by decide +kernel, by decide +kernel⟩
theorem ok_columns_root (T : Tx K mg) : ∃ fd, FnOk P w K mg base (L2.CX P w) 19 (He.ga K "columns_root") fd ["table", "sign"] (sp_columns_root K) ∧ KBn K fd ["table", "sign"] 1 ["sign"] (fun a b => a ++ b) (fun a b => a ++ b) := by
  have nd := sc_columns_root.nd
  obtain ⟨_, G_up_columns, b_up_columns⟩ := ok_up_columns (P := P) (w := w) (base := base) T
  obtain ⟨_, G_need_table, b_need_table⟩ := ok_need_table (P := P) (w := w) (base := base) T
  obtain ⟨fd, F⟩ := T.d_columns_root
  refine ⟨fd, FunD.ok F sc_columns_root (fun vs H Q E h => len_columns_root h) (fun cdv A outer s H vs Q E hr h => ⟨t_columns_root K (fun cls d _ H' => E cls d H'), ?_, pure_columns_root (ers T) h⟩), kbn_sign F fun _ _ _ _ _ _ _ _ => rfl⟩
  exact pss_cons (ps_expr (pe_callKX (n := 1) (ks := ["sign"]) G_need_table (hr.mono (by omega)) rfl T.g_need_table T.k_need_table b_need_table tk_of (pa_cons (pv 0) (pa_nil)) (pk_cons (pv 1) (pk_nil)))) (pss_one (ps_ret (pe_call G_up_columns (hr.mono (by omega)) rfl T.g_up_columns T.k_up_columns b_up_columns .nil pass0 (pa_cons (pv 0) (pa_cons (pv 1) (pa_nil))))))
end
/-! corner -/
def R_corner (K : PySem.W.Frag) (ds : List PyData) (r : Rs) : Prop := ∃ (d : PyData) (sg : Bool), ds = [d, .bool sg] ∧ plainD d = true ∧ ((∃ (T : NT) (a b : Nat), d = tabN T ∧ Good sg T a b ∧ needD sg d = .ok ∧ r = .val (tabN (corn sg a b T))) ∨ (needD sg d ≠ .ok ∧ r = ndtR K d (needD sg d)))
def sp_corner (K : PySem.W.Frag) : Sp := SpX (R_corner K)
def t_corner (K : PySem.W.Frag) (W : WX) : TS := tSeq (tDrop (tCallKX 1 1 (sp_need_table K) W (tCons (tVar 0) (tNil)) (tCons (tVar 1) (tNil)))) (tRet (tCall (sp_up_columns K) [] E0 (tCons (tCall (sp_up_names K) [] E0 (tCons (tVar 0) (tCons (tVar 1) (tNil)))) (tCons (tVar 1) (tNil)))))
theorem len_corner {K : PySem.W.Frag} {vs : List V} {H : Hp} {Q : VK} {E : XK} (h : sp_corner K vs H Q E) : vs.length = 2 := spX_len h fun ds r ⟨_, _, e, _⟩ => by rw [e]; rfl
theorem run_corner (K : PySem.W.Frag) (T : Ers K) (W : Wd) (n : Nat) (ds : List PyData) (r : Rs) (h : R_corner K ds r) : RunS W (t_corner K W.xk) n (ds.map Slot.d ++ List.replicate (2 - ds.length) .non) (rsOut n r) := by
  obtain ⟨d, sg, rfl, hd, hr⟩ := h
  refine need_step hd (fun hok => ?_) (fun c hok hc => ?_)
  · rcases hr with ⟨T, a, b, rfl, g, _, rfl⟩ | ⟨z, _⟩
    · have h1 : EvP (tCall (sp_up_names K) [] E0 (tCons (tVar 0) (tCons (tVar 1) (tNil)))) [.d (tabN T), .d (.bool sg)] (tabN (upA sg a b T)) := ep_call (by walk_at "ev") ⟨T, sg, a, b, rfl, g, rfl⟩
      exact rs_ret (ep_call (ea_cons h1 (ea_cons (ep_var rfl) ea_nil)) ⟨_, sg, a, b, rfl, upA_good g, rfl⟩) rfl
    · exact absurd hok z
  · rcases hr with ⟨T, a, b, rfl, g, z, rfl⟩ | ⟨z, rfl⟩
    · exact absurd z hok
    · rw [hc]
      exact ⟨_, rfl⟩
theorem pure_corner {K : PySem.W.Frag} (T : Ers K) {vs : List V} {H : Hp} {Q : VK} {E : XK} (h : sp_corner K vs H Q E) : t_corner K (fun cls d _ H' => E cls d H') { nx := fun _ H' => Q .non H', rt := Q } (L2.start ["table", "sign"] vs) H := pureX_of (ts := t_corner K) h fun W n ds r hr => run_corner K T W n ds r hr
section
variable {P : Program} {w : World} {K : PySem.W.Frag} {mg : Str → Option Value} {base : Heap}
abbrev N_corner : List Str := ["table", "sign"]
theorem sc_corner : FnScope N_corner ["table", "sign"] (defScope s_corner) := ⟨rfl, rfl, rfl, by decide +kernel, rfl, by decide +kernel, by decide +kernel⟩
theorem ok_corner (T : Tx K mg) : ∃ fd, FnOk P w K mg base (L2.CX P w) 19 (He.ga K "corner") fd ["table", "sign"] (sp_corner K) ∧ KBn K fd ["table", "sign"] 1 ["sign"] (fun a b => a ++ b) (fun a b => a ++ b) := by
  have nd := sc_corner.nd
  obtain ⟨_, G_up_columns, b_up_columns⟩ := ok_up_columns (P := P) (w := w) (base := base) T
  obtain ⟨_, G_up_names, b_up_names⟩ := ok_up_names (P := P) (w := w) (base := base) T
  obtain ⟨_, G_need_table, b_need_table⟩ := ok_need_table (P := P) (w := w) (base := base) T
  obtain ⟨fd, F⟩ := T.d_corner
  refine ⟨fd, FunD.ok F sc_corner (fun vs H Q E h => len_corner h) (fun cdv A outer s H vs Q E hr h => ⟨t_corner K (fun cls d _ H' => E cls d H'), ?_, pure_corner (ers T) h⟩), kbn_sign F fun _ _ _ _ _ _ _ _ => rfl⟩
  exact pss_cons (ps_expr (pe_callKX (n := 1) (ks := ["sign"]) G_need_table (hr.mono (by omega)) rfl T.g_need_table T.k_need_table b_need_table tk_of (pa_cons (pv 0) (pa_nil)) (pk_cons (pv 1) (pk_nil)))) (pss_one (ps_ret (pe_call G_up_columns (hr.mono (by omega)) rfl T.g_up_columns T.k_up_columns b_up_columns .nil pass0 (pa_cons (pe_call G_up_names (hr.mono (by omega)) rfl T.g_up_names T.k_up_names b_up_names .nil pass0 (pa_cons (pv 0) (pa_cons (pv 1) (pa_nil)))) (pa_cons (pv 1) (pa_nil))))))
end
/-! is_corner -/
def R_is_corner (K : PySem.W.Frag) (ds : List PyData) (r : Rs) : Prop := ∃ (d : PyData) (sg : Bool), ds = [d, .bool sg] ∧ plainD d = true ∧ ((∃ (T : NT) (a b : Nat), d = tabN T ∧ Good sg T a b ∧ needD sg d = .ok ∧ r = .val (.bool (decide (upA sg a b T = T) && decide (upB sg a b T = T)))) ∨ (needD sg d ≠ .ok ∧ r = ndtR K d (needD sg d)))
def sp_is_corner (K : PySem.W.Frag) : Sp := SpX (R_is_corner K)
def t_is_corner (K : PySem.W.Frag) (W : WX) : TS := tSeq (tDrop (tCallKX 1 1 (sp_need_table K) W (tCons (tVar 0) (tNil)) (tCons (tVar 1) (tNil)))) (tRet (tAndV (tOp (rEqD K) (tCall (sp_up_names K) [] E0 (tCons (tVar 0) (tCons (tVar 1) (tNil)))) (tVar 0)) (tOp (rEqD K) (tCall (sp_up_columns K) [] E0 (tCons (tVar 0) (tCons (tVar 1) (tNil)))) (tVar 0))))
theorem len_is_corner {K : PySem.W.Frag} {vs : List V} {H : Hp} {Q : VK} {E : XK} (h : sp_is_corner K vs H Q E) : vs.length = 2 := spX_len h fun ds r ⟨_, _, e, _⟩ => by rw [e]; rfl
theorem run_is_corner (K : PySem.W.Frag) (T : Ers K) (W : Wd) (n : Nat) (ds : List PyData) (r : Rs) (h : R_is_corner K ds r) : RunS W (t_is_corner K W.xk) n (ds.map Slot.d ++ List.replicate (2 - ds.length) .non) (rsOut n r) := by
  obtain ⟨d, sg, rfl, hd, hr⟩ := h
  refine need_step hd (fun hok => ?_) (fun c hok hc => ?_)
  · rcases hr with ⟨T, a, b, rfl, g, _, rfl⟩ | ⟨z, _⟩
    · have h1 : EvP (tCall (sp_up_names K) [] E0 (tCons (tVar 0) (tCons (tVar 1) (tNil)))) [.d (tabN T), .d (.bool sg)] (tabN (upA sg a b T)) := ep_call (by walk_at "ev") ⟨T, sg, a, b, rfl, g, rfl⟩
      have h2 : EvP (tCall (sp_up_columns K) [] E0 (tCons (tVar 0) (tCons (tVar 1) (tNil)))) [.d (tabN T), .d (.bool sg)] (tabN (upB sg a b T)) := ep_call (by walk_at "ev") ⟨T, sg, a, b, rfl, g, rfl⟩
      exact rs_ret (ep_andG (ep_op h1 (ep_var rfl) od_eqTab) (ep_op h2 (ep_var rfl) od_eqTab)) rfl
    · exact absurd hok z
  · rcases hr with ⟨T, a, b, rfl, g, z, rfl⟩ | ⟨z, rfl⟩
    · exact absurd z hok
    · rw [hc]
      exact ⟨_, rfl⟩
theorem pure_is_corner {K : PySem.W.Frag} (T : Ers K) {vs : List V} {H : Hp} {Q : VK} {E : XK} (h : sp_is_corner K vs H Q E) : t_is_corner K (fun cls d _ H' => E cls d H') { nx := fun _ H' => Q .non H', rt := Q } (L2.start ["table", "sign"] vs) H := pureX_of (ts := t_is_corner K) h fun W n ds r hr => run_is_corner K T W n ds r hr
section
variable {P : Program} {w : World} {K : PySem.W.Frag} {mg : Str → Option Value} {base : Heap}
abbrev N_is_corner : List Str := ["table", "sign"]
theorem sc_is_corner : FnScope N_is_corner ["table", "sign"] (defScope s_is_corner) := ⟨rfl, rfl, rfl, by decide +kernel, rfl, by decide +kernel, by decide +kernel⟩
theorem ok_is_corner (T : Tx K mg) : ∃ fd, FnOk P w K mg base (L2.CX P w) 19 (He.ga K "is_corner") fd ["table", "sign"] (sp_is_corner K) ∧ KBn K fd ["table", "sign"] 1 ["sign"] (fun a b => a ++ b) (fun a b => a ++ b) := by
  have nd := sc_is_corner.nd
  obtain ⟨_, G_up_names, b_up_names⟩ := ok_up_names (P := P) (w := w) (base := base) T
  obtain ⟨_, G_up_columns, b_up_columns⟩ := ok_up_columns (P := P) (w := w) (base := base) T
  obtain ⟨_, G_need_table, b_need_table⟩ := ok_need_table (P := P) (w := w) (base := base) T
  obtain ⟨fd, F⟩ := T.d_is_corner
  refine ⟨fd, FunD.ok F sc_is_corner (fun vs H Q E h => len_is_corner h) (fun cdv A outer s H vs Q E hr h => ⟨t_is_corner K (fun cls d _ H' => E cls d H'), ?_, pure_is_corner (ers T) h⟩), kbn_sign F fun _ _ _ _ _ _ _ _ => rfl⟩
  exact pss_cons (ps_expr (pe_callKX (n := 1) (ks := ["sign"]) G_need_table (hr.mono (by omega)) rfl T.g_need_table T.k_need_table b_need_table tk_of (pa_cons (pv 0) (pa_nil)) (pk_cons (pv 1) (pk_nil)))) (pss_one (ps_ret (pe_and (pe_cmpR (op_eqD hr.units) (pe_call G_up_names (hr.mono (by omega)) rfl T.g_up_names T.k_up_names b_up_names .nil pass0 (pa_cons (pv 0) (pa_cons (pv 1) (pa_nil)))) (pv 0) (nomark _)) (pe_one (pe_cmpR (op_eqD hr.units) (pe_call G_up_columns (hr.mono (by omega)) rfl T.g_up_columns T.k_up_columns b_up_columns .nil pass0 (pa_cons (pv 0) (pa_cons (pv 1) (pa_nil)))) (pv 0) (nomark _))))))
end
end Uh

set_option Elab.async false
set_option linter.all false
set_option maxRecDepth 100000
set_option maxHeartbeats 400000
/-! Defs that show values (repr): they want that no guard stands. -/
namespace Uh
open PySem PySem.Spec PyProof.Rows L2
open Evl (Ex)
section
variable {P : Program} {w : World} {K : PySem.W.Frag} {mg : Str → Option Value} {base : Heap} {k : Nat} {f : Addr} {fd : FuncData} {ps : List Str} {sp : Sp}
/-- what is promised of a def that is called where no guard stands -/
structure FnG (P : Program) (w : World) (K : PySem.W.Frag) (mg : Str → Option Value) (base : Heap) (k : Nat) (f : Addr) (fd : FuncData) (ps : List Str) (sp : Sp) : Prop where
  ln : ∀ vs H Q E, sp vs H Q E → vs.length = ps.length
  go : ∀ (A : Around) (out : List Env) (s : Shared) (H : Hp) (ar : Args) (us : List Value) (vs : List V) (Q : VK) (E : XK), A.guards = some [] → Room k A → Env0 P w K mg base A out s H → BindsTo s fd ar (ps.zip us) → Vals vs us → sp vs H Q E →
    codeAny (model P w) A (.call (.ref f) ar) (CR CX0 out P w H s Q E) s
theorem FunD.okG {x qual : Str} {params : Arguments} {body : List Stmt} {scope : Scope} {N : List Str} (D : FunD K x qual params body scope [] [] f fd) (S : FnScope N ps scope) (ln : ∀ vs H Q E, sp vs H Q E → vs.length = ps.length)
    (hb : ∀ (cdv : Value) (A : Around) (out : List Env) (s : Shared) (H : Hp) (vs : List V) (Q : VK) (E : XK), A.guards = some [] → Room k (A.deeper (envOfC qual scope s.heap.objs.size f cdv)) → sp vs H Q E →
      ∃ t, PSs (cxOf CX0 P w K mg base N qual scope f cdv A out s H E) body t ∧ t { nx := fun _ H' => Q .non H', rt := Q } (L2.start N vs) H) : FnG P w K mg base (k + 1) f fd ps sp := by
  obtain ⟨oc, od, dV, kV, doc, pm, an, cdv, ct, osl, rfl, lk, hcd, _, _⟩ := D.ex
  refine ⟨ln, fun A out s H ar us vs Q E hgu room e0 bd r prom => ?_⟩
  have hlen := ln _ _ _ _ prom
  have KH : K.In s.heap := e0.mod.kin.keeps fun b o e => (e0.bs b o e).1
  have nolim : s.heap.NoLimit := e0.mod.nolimit.keeps fun b o e => (e0.bs b o e).1
  have kinds : ∀ y ∈ ps.zip us, scope.names.lookup y.1 = some .local ∨ (scope.names.lookup y.1 = some .cell ∧ ((cellsFrom (s.heap.objs.size + 1) scope.names []).lookup y.1).isSome = true) := fun ⟨a, b⟩ hy => by
    rcases S.par a (List.of_mem_zip hy).1 with z | z
    · exact .inl z
    · exact .inr ⟨z, PySem.W.cellsFrom_some _ _ _ (.inl z)⟩
  refine codeAny_call_function room.depth (KH _ _ lk) rfl S.co S.gen rfl (PySem.W.codeRec_of KH hcd) (bd _ _ _ _ ?_)
  refine wpAny_newFunctionEnv_cells S.kind kinds fun env eq s1 inC => ?_
  subst eq
  refine ⟨nolim.keeps inC.toInCall.keep, codeAny_func ?_⟩
  obtain ⟨t, pt, ht⟩ := hb cdv A out s H vs Q E hgu (room.deeper _) prom
  have J0 : Inv (cxOf CX0 P w K mg base N qual scope f cdv A out s H E) [] (L2.start N vs) H s1 := inv_start S room.hd e0 hlen r inC
  refine wpAny_mono (pt.run [] s1 (L2.start N vs) H _ J0 ht) (fun fl s' done => ?_) fun e s' done => done
  cases fl with
  | ret u =>
    obtain ⟨v, σ', H', J, rv, q⟩ := done
    exact ⟨v, H', J.os, J.bare, J.base, J.hok, rv, q⟩
  | next =>
    obtain ⟨σ', H', J, q⟩ := done
    exact ⟨.non, H', J.os, J.bare, J.base, J.hok, rfl, q⟩
  | brk =>
    obtain ⟨_, _, _, q⟩ := done
    exact q.elim
  | cont =>
    obtain ⟨_, _, _, q⟩ := done
    exact q.elim
end
section
variable {X : Cx} {k : Nat} {f : Addr} {fd : FuncData} {ps : List Str} {sp : Sp} {x : Str} {p pos : Pos} {e : Expr} {es : List Expr} {t : TA}
theorem pe_callG (F : FnG X.prog X.w X.K X.mg X.base k f fd ps sp) (hG : X.A.guards = some []) (hr : Room k X.A) (hg : Gl X x) (hm : X.mg x = some (.ref f)) (hk : PySem.W.keepIn X.K (.ref f) = true) (hb : Binds X.K fd ps [])
    (ha : PA X (e :: es) t) (hdb : (x == ("__debug__" : Str)) = false := by decide) (he : starEach (e :: es) X.env = (false, eval e X.env) :: starEach es X.env := by rfl) (hpl : (backTo pos (starEach es X.env)).any (·.1) = false := by rfl) :
    PE X (.Call (.Name x p) (e :: es) [] pos) (tCall sp [] E0 t) := by
  refine ⟨fun pins s σ H Q I h => ?_⟩
  refine wpAny_Call_Name_kw (ld_glob I hg hm ?_ hdb)
  refine PySem.W.callWith_K (h₀ := X.base) I.ok.mod.kin hk (thn (ha.run pos pins s σ H _ I h) fun us s1 ⟨vs, H1, I1, r, q⟩ => ⟨I1.kIn, ?_⟩) he hpl
  change sp (vs ++ []) H1 Q E0 at q
  rw [List.append_nil] at q
  have hl : (us ++ []).length = ps.length := by
    rw [List.append_nil, ← r.length]
    exact F.ln _ _ _ _ q
  have hbs := hb s1 us I1.kIn hl
  rw [List.append_nil] at hbs
  refine wpAny_call (codeAny_mono (F.go X.A X.stack s1 H1 ⟨us, []⟩ us vs Q E0 hG hr I1.env0 hbs r q) fun r s' hq => ?_)
  cases r with
  | error e => exact hq.elim
  | ok fl =>
    cases fl with
    | ret u => exact I1.after hq
    | next => exact hq.elim
    | brk => exact hq.elim
    | cont => exact hq.elim
end
/-! ### the law at the head -/
theorem law_goG {P : Program} {w : World} {K : PySem.W.Frag} {mg mb : Str → Option Value} {k : Nat} {fa a : Addr} {fd : FuncData} {x : Str} {sp : Sp} {s1 : Shared} {vs : List Value} {ns : List Int}
    (KI : K.In s1.heap) (gN : s1.heap.Ns mainGlobals mg) (bN : s1.heap.Ns builtinsNs mb) (bE : ∀ y : Str, y ≠ "__name__" → mb y = bootBuiltins y) (noL : s1.heap.NoLimit) (noG : s1.gens = #[])
    (hs : s1.heap.get? a = some { cls := .type "list", data := .seq vs.toArray }) (hi : IntsAre vs ns) (hz : ns.length ≤ sizeLine) (room : Room k callerA)
    (F : ∀ base : Heap, K.In base → base.Ns mainGlobals mg → FnG P w K mg base k fa fd [x] sp) (bd : ∀ (s : Shared) (u : Value), BindsTo s fd ⟨[u], []⟩ [(x, u)])
    (prom : ∀ H : Hp, Only H → SqL K H a (ns.map V.int) → sp [.ref a] H (fun v _ => v = .bl true) fun _ _ _ => False) :
    codeAny (model P w) callerA (.call (.ref fa) ⟨[.ref a], []⟩) (fun r s' => r = .ok (.ret (.bool true)) ∧ OldK s1.heap s'.heap ∧ s'.os = s1.os ∧ AllBare s'.gens) s1 := by
  have rv := vals_ints hi
  have lenV := hi.length
  have go : ∀ H : Hp, Only H → SqL K H a (ns.map V.int) → HOk P w H s1.heap → (∀ b, H b ≠ none → b = a ∧ K.lookup a = none) →
      codeAny (model P w) callerA (.call (.ref fa) ⟨[.ref a], []⟩) (fun r s' => r = .ok (.ret (.bool true)) ∧ OldK s1.heap s'.heap ∧ s'.os = s1.os ∧ AllBare s'.gens) s1 := by
    intro H only sq hok mine
    have bare_at : ∀ {b : Addr} {o : Obj} {es : Array DictEntry} {ep : Nat}, s1.heap.get? b = some o → o.data = .dict es ep → H b = none := fun {b o es ep} e d => by
      apply Classical.byContradiction
      intro z
      obtain ⟨rfl, _⟩ := mine b z
      rw [hs] at e
      cases e
      have d' : Data.seq vs.toArray _ = Data.dict es ep := d
      cases d'
    have ns_in : ∀ {b : Addr} {m : Str → Option Value}, s1.heap.Ns b m → (hidT s1.heap H).Ns b m := fun {b m} ⟨o, es, ep, e, d, r⟩ => ⟨o, es, ep, hidT_get e (bare_at e d), d, r⟩
    have KB : K.In (hidT s1.heap H) := fun b o e => hidT_get (KI b o e) (by
      apply Classical.byContradiction
      intro z
      obtain ⟨rfl, z2⟩ := mine b z
      rw [z2] at e
      cases e)
    have md : Mod K mg (hidT s1.heap H) := ⟨KB, ns_in gN, ⟨mb, ns_in bN, bE⟩, let ⟨mc, h1, h2⟩ := noL; ⟨mc, ns_in h1, h2⟩⟩
    have e0 : Env0 P w K mg (hidT s1.heap H) callerA [] s1 H := ⟨rfl, md, fun b o e => of_hidT e, Nat.le_of_eq (hidT_size _ _), trivial, fun b hb => (by cases hb), hok, .of_eq noG⟩
    refine codeAny_mono ((F _ KB (ns_in gN)).go callerA [] s1 H ⟨[.ref a], []⟩ [.ref a] [.ref a] _ _ rfl room e0 (bd s1 (.ref a)) (.cons rfl .nil) (prom H only sq)) fun r s' h => ?_
    cases r with
    | error e => exact False.elim h
    | ok fl =>
      cases fl with
      | ret u =>
        obtain ⟨v, H', os, bare, un, hok', rel, q⟩ := h
        have q2 : v = .bl true := q
        subst q2
        obtain rfl : u = Value.bool true := rel
        refine ⟨rfl, OldK.of_keep fun b o e => ?_, os, bare⟩
        cases hb : H b with
        | none => exact un.keep b o e hb (fun z => by cases z) (by simp)
        | some u =>
          rcases only b with z | ⟨ob, xs, z⟩
          · rw [hb] at z
            cases z
          · obtain ⟨e1, _⟩ := hok b _ z
            obtain ⟨e2, _⟩ := hok' b _ (un.frzs b ob _ z)
            rw [e] at e1
            cases e1
            exact e2
      | next => exact False.elim h
      | brk => exact False.elim h
      | cont => exact False.elim h
  cases hk : K.lookup a with
  | some o =>
    have e := KI a o hk
    rw [hs] at e
    cases e
    exact go (fun _ => none) (fun _ => .inl rfl) (.inr ⟨_, vs.toArray, _, hk, rfl, rfl, rfl, by rw [List.size_toArray, lenV]; exact hz, by simpa using rv⟩) (fun b u z => nomatch z) fun b z => absurd rfl z
  | none =>
    have hin : ∀ b u, (if b = a then some (HO.frz { cls := .type "list", data := .seq vs.toArray } (.lst (ns.map V.int))) else none) = some u → b = a ∧ u = .frz { cls := .type "list", data := .seq vs.toArray } (.lst (ns.map V.int)) := fun b u z => by
      by_cases hb : b = a
      · rw [if_pos hb] at z
        cases z
        exact ⟨hb, rfl⟩
      · rw [if_neg hb] at z
        cases z
    refine go (fun b => if b = a then some (.frz { cls := .type "list", data := .seq vs.toArray } (.lst (ns.map V.int))) else none) (fun b => ?_) (.inl (.inr ⟨{ cls := .type "list", data := .seq vs.toArray }, if_pos rfl⟩)) (fun b u z => ?_) fun b z => ?_
    · by_cases hb : b = a
      · exact .inr ⟨_, _, if_pos hb⟩
      · exact .inl (if_neg hb)
    · obtain ⟨rfl, rfl⟩ := hin b u z
      exact ⟨hs, by rw [List.length_map]; exact hz, vs, _, rv, hs⟩
    · by_cases hb : b = a
      · exact ⟨hb, hk⟩
      · exact absurd (if_neg hb) z
/-- a law that shows values -/
theorem walk_ofG {l : PySem.W.OpenLaw} {n k : Nat} {q : Program} {loose : List Str} {XP : (Str → Option Value) → Heap → Prop} {YP : World → Heap → Prop} {d : DefRec} {x : Str}
    (hn : l.most = some n) (hn2 : n ≤ sizeLine) (hdf : d.params.defaults = []) (room : Room k callerA)
    (F : ∀ (w : World) (mg : Str → Option Value) (fa : Addr) (h : Heap), YP w h → h.Ns mainGlobals mg → mg d.name = some (.ref fa) →
      ∃ (K : PySem.W.Frag) (fd : FuncData) (sp : Sp), K.In h ∧ (∀ (s : Shared) (u : Value), BindsTo s fd ⟨[u], []⟩ [(x, u)]) ∧
        (∀ (H : Hp) (a : Addr) (ns : List Int), ns.length ≤ n → Only H → SqL K H a (ns.map V.int) → sp [.ref a] H (fun v _ => v = .bl true) fun _ _ _ => False) ∧
        ∀ base : Heap, K.In base → base.Ns mainGlobals mg → FnG l.prog w K mg base k fa fd [x] sp) :
    PySem.W.WalkO q loose XP YP l.row.toRowW d [] (fun f vs => PySem.call f vs) := by
  refine Att.attach_call hn hdf fun w s₀ s₁ mg mb fa o pm cd doc a vs ns G Y ho hd hcd hmg hobj hints hlen hg => ?_
  obtain ⟨K, fd, sp, KX, hb, hsp, hF⟩ := F w mg fa _ Y G.T.g hmg
  exact law_goG KX G.T.g G.T.b G.T.builtins G.T.nolimit hg hobj hints (Nat.le_trans hlen hn2) room hF hb fun H hO hS => hsp H a ns hlen hO hS
end Uh

set_option Elab.async false
set_option linter.all false
set_option maxRecDepth 100000
set_option maxHeartbeats 400000
/-! The law's state of draws. -/
namespace Uh
open PySem PySem.Spec PyProof.Rows L2
open Evl (Ex)
structure StA where
  st : Addr
  pc : Addr
  pl : Addr
  cells : List Int
  /-- an object that stays beside: the script -/
  scr : List (Addr × HO)
def stD (S : StA) (n : Nat) : HO := .dK [(.inr "cells", .ref S.pc), (.inr "lefts", .ref S.pl), (.inr "at", .int (n : Nat))]
/-- the state stands; n numbers were drawn -/
def stL (S : StA) (n : Nat) (H : Hp) : Prop := S.pc ≠ S.pl ∧ S.cells ≠ [] ∧ S.cells.length ≤ 1000 ∧ H S.st = some (stD S n) ∧ H S.pc = some (.lst (S.cells.map V.int)) ∧ (∀ p ∈ S.scr, H p.1 = some p.2 ∧ p.1 ≠ S.st ∧ p.1 ≠ S.pl) ∧ ∃ ls : List Int, ls.length = S.cells.length ∧ H S.pl = some (.lst (ls.map V.int))
def stW (S : StA) (A0 : Addr → Prop) : Wd where
  A := fun a => A0 a ∨ a = S.st ∨ a = S.pc ∨ a = S.pl ∨ ∃ o, (a, o) ∈ S.scr
  M := fun a => a = S.st ∨ a = S.pl
  sub := fun a h => h.elim (fun e => .inr (.inl e)) fun e => .inr (.inr (.inr (.inl e)))
  stOk := fun n H => stL S n H ∧ Live A0 H
  live := fun n H h a ha => by
    obtain ⟨⟨_, _, _, h1, h2, h5, ls, _, h3⟩, h4⟩ := h
    rcases ha with e | e | e | e | ⟨o, e⟩
    · exact h4 a e
    · exact ⟨_, e ▸ h1⟩
    · exact ⟨_, e ▸ h2⟩
    · exact ⟨_, e ▸ h3⟩
    · exact ⟨_, (h5 _ e).1⟩
  stab := fun n H H' k h => by
    obtain ⟨⟨h0, hc, hl, h1, h2, h6, ls, h3, h4⟩, h5⟩ := h
    refine ⟨⟨h0, hc, hl, k _ _ (.inr (.inl rfl)) h1, k _ _ (.inr (.inr (.inl rfl))) h2, fun p hp => ⟨k _ _ (.inr (.inr (.inr (.inr ⟨p.2, hp⟩)))) (h6 p hp).1, (h6 p hp).2⟩, ls, h3, k _ _ (.inr (.inr (.inr (.inl rfl)))) h4⟩, fun a ha => ?_⟩
    obtain ⟨o, e⟩ := h5 a ha
    exact ⟨o, k a o (.inl ha) e⟩
  xk := fun _ _ _ _ => False
/-- a def that draws -/
def SpSt (pre : Nat → List PyData → Prop) (post : Nat → List PyData → Nat → PyData → Prop) : Sp := fun vs H Q _ => ∃ (S : StA) (A0 : Addr → Prop) (n : Nat) (ds : List PyData) (us : List V), vs = .ref S.st :: us ∧ (stW S A0).stOk n H ∧ DaL (stW S A0).A H ds us ∧ pre n ds ∧
  ∀ n' d v H', post n ds n' d → Stp (stW S A0) [] H H' → (stW S A0).stOk n' H' → Da (stW S A0).A H' d v → Q v H'
/-! ### expressions that draw -/
def EvSA (W : Wd) (ta : TA) (n : Nat) (ss : List Slot) (P : Nat → List PyData → Prop) : Prop := ∀ (H : Hp) (σ : L2.St), Sl W n H σ ss → ∀ Q : List V → Hp → Prop,
  (∀ vs H2 n' ds, P n' ds → Stp W [] H H2 → W.stOk n' H2 → DaL (avd W (owns ss)) H2 ds vs → Q vs H2) → ta σ H Q
def EvST (W : Wd) (tt : TT) (n : Nat) (ss : List Slot) (P : Nat → Bool → Prop) : Prop := ∀ (H : Hp) (σ : L2.St), Sl W n H σ ss → ∀ Q : Bool → Hp → Prop,
  (∀ H2 n' b, P n' b → Stp W [] H H2 → W.stOk n' H2 → Q b H2) → tt σ H Q
/-- a new list, drawn -/
def EvFS (W : Wd) (te : TE) (n : Nat) (ss : List Slot) (P : Nat → List PyData → Prop) : Prop := ∀ (H : Hp) (σ : L2.St), Sl W n H σ ss → ∀ Q : VK,
  (∀ p H1 H2 vs n' ds, P n' ds → Stp W [] H H1 → W.stOk n' H1 → Ex H1 H2 → H1 p = none → H2 p = some (.lst vs) → DaL (fun a => avd W (owns ss) a ∨ a = p) H2 ds vs → Q (.ref p) H2) → te σ H Q
section
variable {W : Wd} {n : Nat} {ss : List Slot} {te ta tb : TE} {tA tr : TA} {tt tu' : TT} {ts tu tw : TS} {x y z d : PyData} {ds : List PyData} {P0 P1 : Nat → PyData → Prop} {PA0 PA1 : Nat → List PyData → Prop} {P : Out → Prop}
theorem Stp.keepD {H H1 : Hp} (t : Stp W [] H H1) {x : PyData} {v : V} (h : Da (avd W (owns ss)) H x v) : Da (avd W (owns ss)) H1 x v := ((t.more (ow' := owns ss) (by simp)).mv Fr.self).da h
theorem Stp.keepL {H H1 : Hp} (t : Stp W [] H H1) {x : List PyData} {v : List V} (h : DaL (avd W (owns ss)) H x v) : DaL (avd W (owns ss)) H1 x v := ((t.more (ow' := owns ss) (by simp)).mv Fr.self).dal h
theorem Stp.then0 {H H1 H2 : Hp} (t : Stp W [] H H1) (u : Stp W [] H1 H2) : Stp W [] H H2 := t.trans u (by simp)
theorem EvS.mono (h : EvS W te n ss P0) (k : ∀ n d, P0 n d → P1 n d) : EvS W te n ss P1 := fun H σ s Q q => h H σ s Q fun v H2 n' d p t ok r => q v H2 n' d (k _ _ p) t ok r
theorem EvSA.mono (h : EvSA W tA n ss PA0) (k : ∀ n d, PA0 n d → PA1 n d) : EvSA W tA n ss PA1 := fun H σ s Q q => h H σ s Q fun v H2 n' d p t ok r => q v H2 n' d (k _ _ p) t ok r
theorem es_op {r : R2} (ha : EvS W ta n ss P0) (hb : ∀ n1 x, P0 n1 x → EvS W tb n1 ss fun n2 y => ∃ z, OpD r x y z ∧ P1 n2 z) : EvS W (tOp r ta tb) n ss P1 := fun H σ s Q q =>
  ha H σ s _ fun v H1 n1 x p1 t1 ok1 d1 => hb n1 x p1 H1 σ (s.stp t1 ok1) _ fun w H2 n2 y ⟨z, hr, p2⟩ t2 ok2 d2 => by
    have s2 := (s.stp t1 ok1).stp t2 ok2
    exact hr _ H2 v w s2.live (t2.keepD d1) d2 Q fun u H3 e3 d3 => q u H3 n2 z p2 ((t1.then0 t2).then0 (.of_ex e3)) (s2.ext e3).ok d3
theorem esa_nil (p : PA0 n []) : EvSA W tNil n ss PA0 := fun H σ s Q q => q [] H n [] p .refl s.ok (by simp [DaL])
theorem esa_cons (h : EvS W te n ss P0) (k : ∀ n1 d, P0 n1 d → EvSA W tr n1 ss fun n2 ds => PA0 n2 (d :: ds)) : EvSA W (tCons te tr) n ss PA0 := fun H σ s Q q =>
  h H σ s _ fun v H1 n1 d p1 t1 ok1 d1 => k n1 d p1 H1 σ (s.stp t1 ok1) _ fun vs H2 n2 ds p2 t2 ok2 d2 => q _ H2 n2 (d :: ds) p2 (t1.then0 t2) ok2 (by simp only [DaL]; exact ⟨t2.keepD d1, d2⟩)
theorem esa_of (h : EvA tA ss ds) (p : PA0 n ds) : EvSA W tA n ss PA0 := fun H σ s Q q => h _ H σ s.live s.fits _ fun vs H2 e r => q vs H2 n ds p (.of_ex e) (s.ext e).ok r
theorem es_cb {r : List V → Hp → VK → Prop} (h : EvSA W tA n ss PA0) (hr : ∀ n1 ds, PA0 n1 ds → ∃ z, CaD r ds z ∧ P1 n1 z) : EvS W (tCB r tA) n ss P1 := fun H σ s Q q =>
  h H σ s _ fun vs H1 n1 ds p1 t1 ok1 d1 => by
    obtain ⟨z, hz, p2⟩ := hr n1 ds p1
    have s1 := s.stp t1 ok1
    exact hz _ H1 vs s1.live d1 Q fun u H3 e3 d3 => q u H3 n1 z p2 (t1.then0 (.of_ex e3)) (s1.ext e3).ok d3
theorem es_if {b : Bool} (h : EvT tt ss b) (h1 : b = true → EvS W ta n ss P0) (h2 : b = false → EvS W tb n ss P0) : EvS W (tIf tt ta tb) n ss P0 := fun H σ s Q q => h.at s fun H1 e s1 => by
  cases b with
  | true =>
    show ta σ H1 Q
    exact h1 rfl H1 σ s1 Q fun v H2 n' d p t ok r => q v H2 n' d p (Stp.then0 (.of_ex e) t) ok r
  | false =>
    show tb σ H1 Q
    exact h2 rfl H1 σ s1 Q fun v H2 n' d p t ok r => q v H2 n' d p (Stp.then0 (.of_ex e) t) ok r
/-- a call of a def that draws -/
theorem es_callS {S : StA} {A0 : Addr → Prop} {E : XK} {i : Nat} {pre : Nat → List PyData → Prop} {post : Nat → List PyData → Nat → PyData → Prop} (hi : ss[i]? = some (.st S.st)) (h : EvSA (stW S A0) tA n ss PA0) (hp : ∀ n1 ds, PA0 n1 ds → pre n1 ds)
    (hq : ∀ n1 ds n' d, PA0 n1 ds → post n1 ds n' d → P1 n' d) : EvS (stW S A0) (tCall (SpSt pre post) [] E (tCons (tVar i) tA)) n ss P1 := fun H σ s Q q => by
  refine ⟨_, s.fits.state hi, ?_⟩
  refine h H σ s _ fun vs H1 n1 ds p1 t1 ok1 d1 => ?_
  have s1 := s.stp t1 ok1
  have av : ∀ a, avd (stW S A0) (owns ss) a ↔ (stW S fun a => A0 a ∨ a ∈ owns ss).A a := fun a => by
    show ((A0 a ∨ _) ∨ a ∈ owns ss) ↔ ((A0 a ∨ a ∈ owns ss) ∨ _)
    constructor
    · rintro ((e | e) | e)
      · exact .inl (.inl e)
      · exact .inr e
      · exact .inl (.inr e)
    · rintro ((e | e) | e)
      · exact .inl (.inl e)
      · exact .inr e
      · exact .inl (.inr e)
  refine ⟨S, fun a => A0 a ∨ a ∈ owns ss, n1, ds, vs, by simp, ⟨ok1.1, fun a ha => ?_⟩, d1.weak fun a z => (av a).mpr z, hp _ _ p1, fun n' d v H' po t' ok' r => ?_⟩
  · rcases ha with e | e
    · exact ok1.2 a e
    · exact s1.live a (.inr e)
  · exact q v H' n' d (hq _ _ _ _ p1 po) (t1.then0 ⟨t'.tup, t'.keep, t'.there⟩) ⟨ok'.1, fun a e => ok'.2 a (.inl e)⟩ (r.weak fun a z => (av a).mp z)
/-! tests -/
theorem et_bS {PT : Nat → Bool → Prop} (h : EvS W te n ss fun n' d => ∃ b, d = .bool b ∧ PT n' b) : EvST W (tB te) n ss PT := fun H σ s Q q => h H σ s _ fun v H2 n' d ⟨b, e, p⟩ t ok r => by
  subst e
  exact ⟨b, by simpa [Da] using r, q H2 n' b p t ok⟩
theorem et_testS {PT : Nat → Bool → Prop} (h : EvS W te n ss fun n' d => ∃ b, d = .bool b ∧ PT n' b) : EvST W (tTest te) n ss PT := fun H σ s Q q => h H σ s _ fun v H2 n' d ⟨b, e, p⟩ t ok r => by
  subst e
  exact ⟨b, by simpa [Da] using r, q H2 n' b p t ok⟩
theorem et_notS {PT : Nat → Bool → Prop} (h : EvST W tt n ss fun n' b => PT n' (!b)) : EvST W (tNot tt) n ss PT := fun H σ s Q q => h H σ s _ fun H2 n' b p t ok => q H2 n' _ p t ok
/-- both fail -/
theorem et_orS {P2 PT : Nat → Bool → Prop} (h : EvST W tt n ss fun n' b => b = false ∧ P2 n' b) (k : ∀ n', P2 n' false → EvST W tu' n' ss PT) : EvST W (tOr tt tu') n ss PT := fun H σ s Q q => h H σ s _ fun H1 n1 b ⟨e, p⟩ t ok => by
  subst e
  show tu' σ H1 Q
  exact k n1 p H1 σ (s.stp t ok) Q fun H2 n' b p t2 ok2 => q H2 n' b p (t.then0 t2) ok2
theorem EvT.s {b : Bool} {PT : Nat → Bool → Prop} (h : EvT tt ss b) (p : PT n b) : EvST W tt n ss PT := fun H σ s Q q => h.at s fun H1 e s1 => q H1 n b p (.of_ex e) s1.ok
theorem rs_ifS {PT : Nat → Bool → Prop} (h : EvST W tt n ss PT) (h1 : ∀ n', PT n' true → RunS W tu n' ss P) (h2 : ∀ n', PT n' false → RunS W tw n' ss P) : RunS W (tIfS tt tu tw) n ss P := fun D H σ s g => h H σ s _ fun H1 n1 b p t ok => by
  have g1 := g.later (t.more (ow' := owns ss) (by simp)) (ow' := owns ss) fun p hp => .inl hp
  cases b with
  | true =>
    show tu D σ H1
    exact h1 n1 p D H1 σ (s.stp t ok) g1
  | false =>
    show tw D σ H1
    exact h2 n1 p D H1 σ (s.stp t ok) g1
theorem rs_parS {i j : Nat} (h : EvSA W tA n ss fun n' ds => ∃ x y, ds = [x, y] ∧ P (.nx n' ((ss.set i (.d x)).set j (.d y)))) : RunS W (tPar i j tA) n ss P := fun D H σ s g => h H σ s _ fun vs H2 n' ds ⟨x, y, e, p⟩ t ok r => by
  subst e
  obtain ⟨v, w, rfl, r1, r2⟩ := da_two r
  have s2 := s.stp t ok
  refine ⟨v, w, rfl, g.nx n' _ H2 _ p (t.more (by simp)) (Fr.plain rfl (Fr.plain rfl .self)) ?_⟩
  have s3 := s2.set (i := i) r1
  exact s3.set (r2.weak fun a z => z.imp id fun m => (owns_set_sub rfl).subset m)
theorem efs_lst (h : EvSA W tA n ss PA0) (hz : ∀ n' ds, PA0 n' ds → ds.length ≤ 100000) : EvFS W (tLst tA) n ss PA0 := fun H σ s Q q => h H σ s _ fun vs H1 n' ds p t ok r =>
  ⟨Evl.sz_of (by rw [← r.length]; exact hz _ _ p), fun a ha => q a H1 _ vs n' ds p t ok (Ex.new ha) ha upd_same ((Mv.avoid (Ex.new ha) ha).dal r)⟩
theorem rs_newS {i : Nat} (h : EvFS W te n ss fun n' ds => ∀ a, P (.nx n' (ss.set i (.own a ds)))) : RunS W (tAsg te (gName i)) n ss P := fun D H σ s g => h H σ s _ fun a H1 H2 vs n' ds p t ok e ha h2 r => by
  have s1 := s.stp t ok
  exact g.nx n' _ H2 _ (p a) ((t.then0 (.of_ex e)).more (by simp)) (Fr.own .self (t.none_back ha)) (s1.make e ha h2 r)
theorem EvFS.p (h : EvFS W te n ss PA0) (k : ∀ n' ds, PA0 n' ds → P1 n' (.list ds)) : EvS W te n ss P1 := fun H σ s Q q => h H σ s Q fun a H1 H2 vs n' ds p t ok e ha h2 r => by
  have s1 := s.stp t ok
  refine q _ H2 n' _ (k _ _ p) (t.then0 (.of_ex e)) (s1.ext e).ok ?_
  simp only [Da]
  exact ⟨a, vs, rfl, s1.live.no ha, h2, r.weak fun a z => .inl z⟩
theorem EvF.s {xs : List PyData} (h : EvF te ss xs) (p : PA0 n xs) : EvFS W te n ss PA0 := fun H σ s Q q => h _ H σ s.live s.fits Q fun a H2 vs e ha h2 r => q a H H2 vs n xs p .refl s.ok e ha h2 r
theorem rs_appS {K : PySem.W.Frag} {i : Nat} {a : Addr} {xs : List PyData} (hi : ss[i]? = some (.own a xs)) (hz : xs.length < 100000) (h : EvS W te n ss fun n' d => P (.nx n' (ss.set i (.own a (xs ++ [d]))))) :
    RunS W (tDrop (tBM K "list" rAppend (tVar i) (tCons te tNil))) n ss P := fun D H σ s g => by
  obtain ⟨e1, vs, q, r⟩ := s.fits.own hi
  refine ⟨_, e1, Or.inl ⟨rfl, vs, SqL.of q⟩, ?_⟩
  refine h H σ s _ fun v H2 n' d p t ok r2 => ?_
  have s2 := s.stp t ok
  obtain ⟨_, vs2, q2, r3⟩ := s2.fits.own hi
  obtain ⟨s3, t3⟩ := s2.change (ys := xs ++ [d]) (ws := vs2 ++ [v]) hi (r3.append (DaL.one r2))
  refine ⟨a, vs2, v, rfl, rfl, q2, Evl.sz_lt (by rw [← r3.length]; exact hz), ?_⟩
  exact g.nx n' _ _ _ p ((t.more (ow' := owns ss) (by simp)).trans t3 fun z hz => .inl hz) (by
    show Fr (owns ss) H (ss.set i (.own a (xs ++ [d])))
    intro z hz
    rw [owns_set_same hi] at hz
    exact .inl hz) s3
end
/-! ### reading and writing the state -/
section
variable {S : StA} {A0 : Addr → Prop} {K : PySem.W.Frag} {n : Nat} {ss : List Slot} {i : Nat} {te tv : TE} {P : Out → Prop}
theorem get_st {H : Hp} {k : Str} {v : V} (h : H S.st = some (stD S n)) (hk : valV [((.inr "cells" : Key), V.ref S.pc), (.inr "lefts", .ref S.pl), (.inr "at", .int (n : Nat))] (.inr k) = some v) : DGet H S.st (.str k) (some v) := by
  have := DGet.k (k := .inr k) h
  rw [hk] at this
  exact this
theorem val_at {a b : V} {c : V} : valV [((.inr "cells" : Key), a), (.inr "lefts", b), (.inr "at", c)] (.inr "at") = some c := by
  rw [valV_neg (fun e => absurd (show (Sum.inr "cells" : Key) = .inr "at" from e) (by decide)), valV_neg (fun e => absurd (show (Sum.inr "lefts" : Key) = .inr "at" from e) (by decide)), valV_pos rfl]
theorem val_cells {a b : V} {c : V} : valV [((.inr "cells" : Key), a), (.inr "lefts", b), (.inr "at", c)] (.inr "cells") = some a := by
  rw [valV_pos rfl]
theorem val_lefts {a b : V} {c : V} : valV [((.inr "cells" : Key), a), (.inr "lefts", b), (.inr "at", c)] (.inr "lefts") = some b := by
  rw [valV_neg (fun e => absurd (show (Sum.inr "cells" : Key) = .inr "lefts" from e) (by decide)), valV_pos rfl]
theorem es_at (hi : ss[i]? = some (.st S.st)) : EvS (stW S A0) (tDGet (tVar i) (tC (.str "at"))) n ss fun n' d => n' = n ∧ d = .int (n : Nat) := fun H σ s Q q =>
  ⟨_, s.fits.state hi, S.st, .int (n : Nat), rfl, get_st s.ok.1.2.2.2.1 val_at, q _ H n _ ⟨rfl, rfl⟩ .refl s.ok (by simp [Da])⟩
theorem es_len (hi : ss[i]? = some (.st S.st)) : EvS (stW S A0) (tCB (rLen K) (tCons (tDGet (tVar i) (tC (.str "cells"))) tNil)) n ss fun n' d => n' = n ∧ d = .int (S.cells.length : Nat) ∧ 0 < S.cells.length := fun H σ s Q q =>
  ⟨_, s.fits.state hi, S.st, .ref S.pc, rfl, get_st s.ok.1.2.2.2.1 val_cells, S.pc, _, rfl, .inl (SqL.of s.ok.1.2.2.2.2.1), q _ H n (.int (S.cells.length : Nat)) ⟨rfl, rfl, List.length_pos_iff.mpr s.ok.1.2.1⟩ .refl s.ok (by simp [Da])⟩
theorem atI_ints {ls : List Int} {j : Nat} (h : j < ls.length) : atI (ls.map V.int) (j : Int) = some (.int (ls.getD j 0)) := by
  apply L2.atI_nat
  simp [h]
theorem es_cell (hi : ss[i]? = some (.st S.st)) {j : Nat} (h : EvP te ss (.int (j : Nat))) (hj : j < S.cells.length) : EvS (stW S A0) (tOp (rIx K) (tDGet (tVar i) (tC (.str "cells"))) te) n ss fun n' d => n' = n ∧ ∃ z, d = .int z := fun H σ s Q q => by
  refine ⟨_, s.fits.state hi, S.st, .ref S.pc, rfl, get_st s.ok.1.2.2.2.1 val_cells, ?_⟩
  refine h.at s fun v H2 e s2 r => ?_
  refine .inl ⟨S.pc, _, (j : Int), _, rfl, by simpa [Da] using r, SqL.of s2.ok.1.2.2.2.2.1, atI_ints hj, ?_⟩
  exact q _ H2 n (.int (S.cells.getD j 0)) ⟨rfl, _, rfl⟩ (.of_ex e) s2.ok (by simp only [Da])
theorem es_left (hi : ss[i]? = some (.st S.st)) {j : Nat} (h : EvP te ss (.int (j : Nat))) (hj : j < S.cells.length) : EvS (stW S A0) (tOp (rIx K) (tDGet (tVar i) (tC (.str "lefts"))) te) n ss fun n' d => n' = n ∧ ∃ z, d = .int z := fun H σ s Q q => by
  refine ⟨_, s.fits.state hi, S.st, .ref S.pl, rfl, get_st s.ok.1.2.2.2.1 val_lefts, ?_⟩
  refine h.at s fun v H2 e s2 r => ?_
  obtain ⟨ls, hl, hls⟩ := s2.ok.1.2.2.2.2.2.2
  refine .inl ⟨S.pl, _, (j : Int), _, rfl, by simpa [Da] using r, SqL.of hls, atI_ints (by omega), ?_⟩
  exact q _ H2 n (.int (ls.getD j 0)) ⟨rfl, _, rfl⟩ (.of_ex e) s2.ok (by simp only [Da])
/-- a step that writes into the state alone -/
theorem st_write {H : Hp} {a : Addr} {o o' : HO} {n' : Nat} (h : (stW S A0).stOk n H) (ha : a = S.st ∨ a = S.pl) (ho : H a = some o) (nt : ¬ isT o) (new : stL S n' (upd H a o')) : Stp (stW S A0) [] H (upd H a o') ∧ (stW S A0).stOk n' (upd H a o') := by
  refine ⟨⟨fun b u t e => ?_, fun b u m _ e => ?_, fun b u e => ?_⟩, new, fun b hb => ?_⟩
  · by_cases c : b = a
    · subst c
      rw [ho] at e
      cases e
      exact absurd t nt
    · rw [upd_ne c]
      exact e
  · rw [upd_ne fun c => m (by rw [c]; exact ha)]
    exact e
  · by_cases c : b = a
    · subst c
      exact ⟨_, upd_same⟩
    · exact ⟨u, by rw [upd_ne c]; exact e⟩
  · obtain ⟨u, e⟩ := h.2 b hb
    by_cases c : b = a
    · subst c
      exact ⟨_, upd_same⟩
    · exact ⟨u, by rw [upd_ne c]; exact e⟩
theorem rs_putAt (hi : ss[i]? = some (.st S.st)) {n1 : Nat} (h : EvP tv ss (.int (n1 : Nat))) (p : P (.nx n1 ss)) : RunS (stW S A0) (sDPut (tVar i) (tC (.str "at")) tv) n ss P := fun D H σ s g => by
  refine h.at s fun v H1 e s1 r => ?_
  have ev : v = .int (n1 : Nat) := by simpa [Da] using r
  subst ev
  obtain ⟨h0, hc, hl, h1, h2, h6, ls, h3, h4⟩ := s1.ok.1
  refine ⟨_, s1.fits.state hi, S.st, _, rfl, DPut.k (k := .inr "at") h1 (show 3 < sizeLine from by decide), ?_⟩
  have ep : putK [((.inr "cells" : Key), V.ref S.pc), (.inr "lefts", .ref S.pl), (.inr "at", .int (n : Nat))] (.inr "at") (.int (n1 : Nat)) = [((.inr "cells" : Key), V.ref S.pc), (.inr "lefts", .ref S.pl), (.inr "at", .int (n1 : Nat))] := rfl
  rw [ep]
  have n1' : S.pc ≠ S.st := fun e => by rw [e, h1] at h2; cases h2
  have n2' : S.pl ≠ S.st := fun e => by rw [e, h1] at h4; cases h4
  obtain ⟨t, ok⟩ := st_write (o' := stD S n1) (n' := n1) s1.ok (.inl rfl) h1 (fun z => z) ⟨h0, hc, hl, upd_same, by rw [upd_ne n1']; exact h2, fun p hp => ⟨by rw [upd_ne (h6 p hp).2.1]; exact (h6 p hp).1, (h6 p hp).2⟩, ls, h3, by rw [upd_ne n2']; exact h4⟩
  exact g.nx n1 ss _ σ p ((Stp.then0 (.of_ex e) t).more (by simp)) .self (s1.stp t ok)
theorem rs_putLeft (hi : ss[i]? = some (.st S.st)) {j : Nat} {z : Int} (h : EvP tv ss (.int z)) (hj : EvP te ss (.int (j : Nat))) (hlt : j < S.cells.length) (p : P (.nx n ss)) : RunS (stW S A0) (tAsg tv (gSub (tDGet (tVar i) (tC (.str "lefts"))) te rSetL)) n ss P := fun D H σ s g => by
  refine h.at s fun v H1 e s1 r => ?_
  have ev : v = .int z := by simpa [Da] using r
  subst ev
  refine ⟨_, s1.fits.state hi, S.st, .ref S.pl, rfl, get_st s1.ok.1.2.2.2.1 val_lefts, ?_⟩
  refine hj.at s1 fun w H2 e2 s2 r2 => ?_
  obtain ⟨h0, hc, hl, h1, h2, h6, ls, h3, h4⟩ := s2.ok.1
  refine ⟨S.pl, ls.map V.int, (j : Int), j, rfl, by simpa [Da] using r2, h4, Evl.ixN_nat (by rw [List.length_map]; omega), ?_⟩
  have n2' : S.st ≠ S.pl := fun e => by rw [← e, h1] at h4; cases h4
  obtain ⟨t, ok⟩ := st_write (o' := .lst ((ls.map V.int).set j (.int z))) (n' := n) s2.ok (.inr rfl) h4 (fun z => z) ⟨h0, hc, hl, by rw [upd_ne n2']; exact h1, by rw [upd_ne h0]; exact h2, fun p hp => ⟨by rw [upd_ne (h6 p hp).2.2]; exact (h6 p hp).1, (h6 p hp).2⟩, ls.set j z, by rw [List.length_set]; exact h3, by rw [upd_same, List.map_set]⟩
  exact g.nx n ss _ σ p (((Stp.then0 (.of_ex e) (.of_ex e2)).then0 t).more (by simp)) .self (s2.stp t ok)
/-- the body of a def that draws -/
theorem pureS_of {N : List Str} {ts : TS} {pre : Nat → List PyData → Prop} {post : Nat → List PyData → Nat → PyData → Prop} {vs : List V} {H : Hp} {Q : VK} {E : XK} (h : SpSt pre post vs H Q E)
    (run : ∀ (S : StA) (A0 : Addr → Prop) (n : Nat) (ds : List PyData), pre n ds → RunS (stW S A0) ts n (.st S.st :: (ds.map Slot.d ++ List.replicate (N.length - (ds.length + 1)) .non)) fun o => ∃ n' d, o = .rt n' d ∧ post n ds n' d) :
    ts { nx := fun _ H' => Q .non H', rt := Q } (L2.start N vs) H := by
  obtain ⟨S, A0, n, ds, us, rfl, ok, dl, hp, hq⟩ := h
  have sl : Sl (stW S A0) n H (L2.start N (.ref S.st :: us)) (.st S.st :: (ds.map Slot.d ++ List.replicate (N.length - (ds.length + 1)) .non)) := by
    have eo : owns (.st S.st :: (ds.map Slot.d ++ List.replicate (N.length - (ds.length + 1)) .non)) = [] := owns_start ds _
    refine ⟨?_, by rw [eo]; simp, fun p hp => (by rw [eo] at hp; cases hp), ok⟩
    refine ⟨rfl, ?_⟩
    rw [eo]
    have := fits_start (A := avd (stW S A0) []) (k := N.length - (ds.length + 1)) (dl.weak fun a z => z.elim id fun m => by cases m)
    rw [dl.length] at this ⊢
    exact this
  refine run S A0 n ds hp _ H _ sl ⟨fun n' ss' H' σ' p => ?_, fun n' ss' H' σ' p => ?_, fun n' ss' H' σ' p => ?_, fun n' d v H' p t ok' r => ?_, fun n' ss' c cls d H' σ' p => ?_⟩
  · obtain ⟨_, _, e, _⟩ := p; cases e
  · obtain ⟨_, _, e, _⟩ := p; cases e
  · obtain ⟨_, _, e, _⟩ := p; cases e
  · obtain ⟨n2, d2, e, po⟩ := p
    cases e
    have eo : owns (.st S.st :: (ds.map Slot.d ++ List.replicate (N.length - (ds.length + 1)) .non)) = [] := owns_start ds _
    rw [eo] at t
    exact hq n' d v H' po t ok' r
  · obtain ⟨_, _, e, _⟩ := p; cases e
theorem spSt_len {pre : Nat → List PyData → Prop} {post : Nat → List PyData → Nat → PyData → Prop} {m : Nat} {vs : List V} {H : Hp} {Q : VK} {E : XK} (h : SpSt pre post vs H Q E) (k : ∀ n ds, pre n ds → ds.length + 1 = m) : vs.length = m := by
  obtain ⟨S, A0, n, ds, us, rfl, ok, dl, hp, _⟩ := h
  rw [List.length_cons, ← dl.length]
  exact k n ds hp
end
end Uh

set_option Elab.async false
set_option linter.all false
set_option maxRecDepth 100000
set_option maxHeartbeats 400000
namespace Uh
open PySem PySem.Spec PyProof.Rows L2
open Evl (Ex)
local macro_rules | `(tactic| walk_at "ev") => `(tactic| repeat (first
  | with_reducible exact ep_var rfl | with_reducible exact ep_int | with_reducible exact ep_bl | with_reducible exact ep_non | with_reducible exact ep_str
  | with_reducible exact ea_nil | with_reducible apply ea_cons | with_reducible apply ep_tupG | with_reducible apply ef_lstG | with_reducible exact et_yes
  | with_reducible apply ca_isiG | with_reducible exact kit_tuple _ | with_reducible exact kit_int _ | with_reducible exact kit_bool _ | with_reducible exact kit_str _
  | with_reducible apply et_test | with_reducible apply et_b | with_reducible apply et_not | with_reducible apply et_orG | with_reducible apply et_andG
  | with_reducible apply ep_orG | with_reducible apply ep_andG | with_reducible apply ep_notV | with_reducible apply ep_chainG
  | with_reducible apply ep_inG | with_reducible apply ep_op | with_reducible apply ep_un | with_reducible apply ep_cb
  | with_reducible exact od_i | with_reducible exact od_b | with_reducible exact od_eqI | with_reducible exact od_neI | with_reducible exact od_eqS | with_reducible exact od_eqB | with_reducible exact od_isN | with_reducible exact od_notN | with_reducible exact ud_i
  | with_reducible exact od_ixT at3_0 | with_reducible exact od_ixT at3_1 | with_reducible exact od_ixT at3_2 | with_reducible exact od_ixT at2_0 | with_reducible exact od_ixT at2_1 | with_reducible exact od_ixT at1_0
  | with_reducible apply od_catA | (with_reducible show _ + _ ≤ 100000; first | omega | (simp; done) | (simp; omega))
  | with_reducible exact ca_lenT | with_reducible exact ca_lenL
  | exact (show allS _ = true from rfl) | exact (show Nat.ble _ 100000 = true from rfl)))
section
variable {W : Wd} {n : Nat} {ss : List Slot} {te : TE} {ta : TA} {tu : TS} {P : Out → Prop} {P0 P1 : Nat → PyData → Prop} {PA0 : Nat → List PyData → Prop}
theorem saS {i : Nat} (h : EvS W te n ss P0) (k : ∀ n' d, P0 n' d → RunS W tu n' (ss.set i (.d d)) P) : RunS W (tSeq (tAsg te (gName i)) tu) n ss P := rs_seq (rs_asgS h k)
theorem es_callP {R : List PyData → PyData → Prop} {E : XK} (h : EvSA W ta n ss PA0) (hr : ∀ n1 ds, PA0 n1 ds → ∃ z, R ds z ∧ P1 n1 z) : EvS W (tCall (SpP R) [] E ta) n ss P1 := fun H σ s Q q => h H σ s _ fun vs H1 n1 ds p t ok r => by
  obtain ⟨z, hz, p1⟩ := hr _ _ p
  have s1 := s.stp t ok
  rw [List.append_nil]
  exact ⟨_, ds, z, s1.live, r, hz, fun v H' e d => q v H' n1 z p1 (t.then0 (.of_ex e)) (s1.ext e).ok d⟩
theorem es_un {r : V → Hp → VK → Prop} (h : EvS W te n ss P0) (hr : ∀ n1 x, P0 n1 x → ∃ z, UnD r x z ∧ P1 n1 z) : EvS W (tUn r te) n ss P1 := fun H σ s Q q => h H σ s _ fun v H1 n1 x p t ok r1 => by
  obtain ⟨z, hz, p1⟩ := hr _ _ p
  have s1 := s.stp t ok
  exact hz _ H1 v s1.live r1 Q fun u H2 e d => q u H2 n1 z p1 (t.then0 (.of_ex e)) (s1.ext e).ok d
end
def mixV (c k : Int) : Int := (c % 2147483647 * (48271 + 2 * k * k) + 69621 * k + 11) % 2147483647 * 69621 % 2147483629
/-! l_mixed -/
def R_l_mixed (ds : List PyData) (r : PyData) : Prop := ∃ c k : Int, ds = [.int c, .int k] ∧ 0 ≤ k ∧ k < 2 ^ 60 ∧ r = .int (mixV c k)
def sp_l_mixed (K : PySem.W.Frag) : Sp := SpP R_l_mixed
def t_l_mixed (K : PySem.W.Frag) : TS := tSeq (tAsg (tOp (rI (fun _ j => 0 < j) fun i j => .int (i % j)) (tCB (rInt) (tCons (tVar 0) (tNil))) (tC (.int 2147483647))) (gName 0)) (tRet (tOp (rI (fun _ j => 0 < j) fun i j => .int (i % j)) (tOp (rI CMul fun i j => .int (i * j)) (tOp (rI (fun _ j => 0 < j) fun i j => .int (i % j)) (tOp (rI0 fun i j => .int (i + j)) (tOp (rI0 fun i j => .int (i + j)) (tOp (rI CMul fun i j => .int (i * j)) (tVar 0) (tOp (rI0 fun i j => .int (i + j)) (tC (.int 48271)) (tOp (rI CMul fun i j => .int (i * j)) (tOp (rI CMul fun i j => .int (i * j)) (tC (.int 2)) (tVar 1)) (tVar 1)))) (tOp (rI CMul fun i j => .int (i * j)) (tC (.int 69621)) (tVar 1))) (tC (.int 11))) (tC (.int 2147483647))) (tC (.int 69621))) (tC (.int 2147483629))))
theorem len_l_mixed {K : PySem.W.Frag} {vs : List V} {H : Hp} {Q : VK} {E : XK} (h : sp_l_mixed K vs H Q E) : vs.length = 2 := spP_len h fun ds r ⟨_, _, e, _⟩ => by rw [e]; rfl
theorem run_l_mixed (K : PySem.W.Frag) (W : Wd) (n : Nat) (ds : List PyData) (r : PyData) (h : R_l_mixed ds r) : RunS W (t_l_mixed K) n (ds.map Slot.d ++ List.replicate (2 - ds.length) .non) (fun o => o = .rt n r) := by
  obtain ⟨c, k, rfl, h0, h1, rfl⟩ := h
  have hm : 0 ≤ c % 2147483647 ∧ c % 2147483647 < 2147483647 := ⟨Int.emod_nonneg _ (by decide), Int.emod_lt_of_pos _ (by decide)⟩
  refine sa (ep_op (ep_cb (by walk_at "ev") ca_int) ep_int (od_c (g := fun i j => i % j) (by decide))) ?_
  refine rs_ret (ep_op (ep_op (ep_op (ep_op (ep_op (ep_op (ep_var rfl) (ep_op ep_int (ep_op (ep_op ep_int (ep_var rfl) (od_c (g := fun i j => i * j) (.inl (by decide)))) (ep_var rfl) (od_c (g := fun i j => i * j) (.inr (by constructor <;> omega)))) od_i) (od_c (g := fun i j => i * j) (.inl (by constructor <;> omega))))
    (ep_op ep_int (ep_var rfl) (od_c (g := fun i j => i * j) (.inl (by decide)))) od_i) ep_int od_i) ep_int (od_c (g := fun i j => i % j) (by decide))) ep_int (od_c (g := fun i j => i * j) (.inr (by decide)))) ep_int (od_c (g := fun i j => i % j) (by decide))) rfl
theorem pure_l_mixed {K : PySem.W.Frag} {vs : List V} {H : Hp} {Q : VK} {E : XK} (h : sp_l_mixed K vs H Q E) : t_l_mixed K { nx := fun _ H' => Q .non H', rt := Q } (L2.start ["_law_cell", "_law_k"] vs) H := pure_of h fun W n ds r hr => run_l_mixed K W n ds r hr
section
variable {P : Program} {w : World} {K : PySem.W.Frag} {mg : Str → Option Value} {base : Heap}
abbrev N_l_mixed : List Str := ["_law_cell", "_law_k"]
theorem sc_l_mixed : FnScope N_l_mixed ["_law_cell", "_law_k"] (defScope s_l_mixed) := ⟨rfl, rfl, rfl, by decide +kernel, rfl, by decide +kernel, by decide +kernel⟩
theorem ok_l_mixed (T : Tx K mg) : ∃ fd, FnOk P w K mg base CX0 1 (He.ga K "_law_mixed") fd ["_law_cell", "_law_k"] (sp_l_mixed K) ∧ Binds K fd ["_law_cell", "_law_k"] [] := by
  have nd := sc_l_mixed.nd
  obtain ⟨fd, F⟩ := T.d_l_mixed
  refine ⟨fd, FunD.ok F sc_l_mixed (fun vs H Q E h => len_l_mixed h) (fun cdv A outer s H vs Q E hr h => ⟨t_l_mixed K, PSs.nox ?_, pure_l_mixed h⟩), F.bindsN fun _ _ _ _ _ _ us hl => match us, hl with | [_, _], _ => rfl⟩
  exact pss_cons (ps_set (i := 0) nd rfl (Or.inl rfl) (pe_op op_mod (pe_callTy call_int1 (by rfl) T.f_int (by decide +kernel) (pa_cons (pv 0) (pa_nil))) (pe_int))) (pss_one (ps_ret (pe_op op_mod (pe_op op_mul (pe_op op_mod (pe_op op_add (pe_op op_add (pe_op op_mul (pv 0) (pe_op op_add (pe_int) (pe_op op_mul (pe_op op_mul (pe_int) (pv 1)) (pv 1)))) (pe_op op_mul (pe_int) (pv 1))) (pe_int)) (pe_int)) (pe_int)) (pe_int))))
end
/-! l_draw -/
def pre_l_draw (n : Nat) (ds : List PyData) : Prop := ∃ lim : Nat, ds = [.int (lim : Nat)] ∧ 0 < lim ∧ lim ≤ 1000 ∧ n < 2 ^ 50
def post_l_draw (n : Nat) (ds : List PyData) (n' : Nat) (d : PyData) : Prop := n' = n + 1 ∧ ∃ lim r : Nat, ds = [.int (lim : Nat)] ∧ d = .int (r : Nat) ∧ r < lim
def sp_l_draw (K : PySem.W.Frag) : Sp := SpSt pre_l_draw post_l_draw
def t_l_draw (K : PySem.W.Frag) : TS := tSeq (tAsg (tDGet (tVar 0) (tC (.str "at"))) (gName 2)) (tSeq (sDPut (tVar 0) (tC (.str "at")) (tOp (rI0 fun i j => .int (i + j)) (tVar 2) (tC (.int 1)))) (tSeq (tAsg (tOp (rI (fun _ j => 0 < j) fun i j => .int (i % j)) (tCB (rInt) (tCons (tVar 2) (tNil))) (tCB (rLen K) (tCons (tDGet (tVar 0) (tC (.str "cells"))) (tNil)))) (gName 3)) (tSeq (tAsg (tOp (rIx K) (tDGet (tVar 0) (tC (.str "lefts"))) (tVar 3)) (gName 4)) (tSeq (tIfS (tTest (tOp (rI0 fun i j => .bl (decide (j < i))) (tVar 4) (tC (.int 0)))) (tSeq (tAsg (tOp (rI CDiv fun i j => .int (i / j)) (tVar 4) (tVar 1)) (gSub (tDGet (tVar 0) (tC (.str "lefts"))) (tVar 3) rSetL)) (tRet (tOp (rI (fun _ j => 0 < j) fun i j => .int (i % j)) (tCB (rInt) (tCons (tVar 4) (tNil))) (tVar 1)))) (tNext)) (tSeq (tAsg (tCall (sp_l_mixed K) [] E0 (tCons (tCall (sp_l_mixed K) [] E0 (tCons (tOp (rIx K) (tDGet (tVar 0) (tC (.str "cells"))) (tVar 3)) (tCons (tVar 2) (tNil)))) (tCons (tOp (rI0 fun i j => .int (i + j)) (tC (.int 40)) (tVar 2)) (tNil)))) (gName 5)) (tRet (tOp (rI (fun _ j => 0 < j) fun i j => .int (i % j)) (tOp (rI CDiv fun i j => .int (i / j)) (tCB (rInt) (tCons (tOp (rI0 fun i j => .int (i + j)) (tOp (rI CMul fun i j => .int (i * j)) (tVar 5) (tC (.int 2147483647))) (tCall (sp_l_mixed K) [] E0 (tCons (tVar 5) (tCons (tOp (rI0 fun i j => .int (i + j)) (tC (.int 7)) (tVar 2)) (tNil))))) (tNil))) (tC (.int 64))) (tVar 1))))))))
theorem len_l_draw {K : PySem.W.Frag} {vs : List V} {H : Hp} {Q : VK} {E : XK} (h : sp_l_draw K vs H Q E) : vs.length = 2 := spSt_len h fun n ds ⟨_, e, _⟩ => by rw [e]; rfl
theorem run_l_draw (K : PySem.W.Frag) (S : StA) (A0 : Addr → Prop) (n : Nat) (ds : List PyData) (h : pre_l_draw n ds) : RunS (stW S A0) (t_l_draw K) n (.st S.st :: (ds.map Slot.d ++ List.replicate (6 - (ds.length + 1)) .non)) fun o => ∃ n' d, o = .rt n' d ∧ post_l_draw n ds n' d := by
  obtain ⟨lim, rfl, l0, l1, hn⟩ := h
  have hmix : ∀ c k, 0 ≤ mixV c k ∧ mixV c k < 2147483629 := fun c k => ⟨Int.emod_nonneg _ (by decide), Int.emod_lt_of_pos _ (by decide)⟩
  refine saS (es_at rfl) ?_
  rintro n _ ⟨rfl, rfl⟩
  refine rs_seq (rs_putAt (n1 := n + 1) rfl (ep_is (y := .int ((n + 1 : Nat) : Int)) (by walk_at "ev") (by rfl)) ?_)
  refine saS (P0 := fun n' d => n' = n + 1 ∧ ∃ j : Nat, d = .int (j : Nat) ∧ j < S.cells.length) (es_op (EvP.s (P := fun n' d => n' = n + 1 ∧ d = .int (n : Nat)) (ep_cb (by walk_at "ev") ca_int) ⟨rfl, rfl⟩) ?_) ?_
  · rintro n1 x ⟨rfl, rfl⟩
    refine (es_len rfl).mono ?_
    rintro n1 y ⟨rfl, rfl, hl⟩
    exact ⟨_, od_c (g := fun i j => i % j) (by omega), rfl, n % S.cells.length, by simp, Nat.mod_lt _ hl⟩
  rintro n1 _ ⟨rfl, j, rfl, hj⟩
  refine saS (es_left rfl (ep_var rfl) hj) ?_
  rintro n1 _ ⟨rfl, z, rfl⟩
  have hret : ∀ z : Int, 0 ≤ z % (lim : Int) ∧ z % (lim : Int) < lim := fun z => ⟨Int.emod_nonneg _ (by omega), Int.emod_lt_of_pos _ (by omega)⟩
  have hpost : ∀ z : Int, post_l_draw n [.int (lim : Nat)] (n + 1) (.int (z % (lim : Int))) := fun z => ⟨rfl, lim, (z % (lim : Int)).toNat, rfl, by rw [Int.toNat_of_nonneg (hret z).1], by have := hret z; omega⟩
  refine rs_seq (rs_if (et_test (ep_op (ep_var rfl) ep_int od_b)) (fun hz => ?_) fun _ => rs_next ?_)
  · have hz := of_decide_eq_true hz
    refine rs_seq (rs_putLeft rfl (ep_op (ep_var rfl) (ep_var rfl) (od_c (g := fun i j => i / j) ⟨by omega, by omega⟩)) (ep_var rfl) hj ?_)
    exact rs_ret (ep_op (ep_cb (by walk_at "ev") ca_int) (ep_var rfl) (od_c (g := fun i j => i % j) (by omega))) ⟨_, _, rfl, hpost z⟩
  · refine saS (P0 := fun n' d => n' = n + 1 ∧ ∃ c k, d = .int (mixV c k)) (es_callP (PA0 := fun n' ds => n' = n + 1 ∧ ∃ c, ds = [.int c, .int ((40 : Int) + (n : Nat))]) (esa_cons (P0 := fun n' d => n' = n + 1 ∧ ∃ c, d = .int c)
      (es_callP (PA0 := fun n' ds => n' = n + 1 ∧ ∃ c, ds = [.int c, .int (n : Nat)]) (esa_cons (es_cell rfl (ep_var rfl) hj) ?_) ?_) ?_) ?_) ?_
    · rintro n1 _ ⟨rfl, c, rfl⟩
      exact esa_of (by walk_at "ev") ⟨rfl, c, rfl⟩
    · rintro n1 _ ⟨rfl, c, rfl⟩
      exact ⟨_, ⟨c, _, rfl, by omega, by omega, rfl⟩, rfl, _, rfl⟩
    · rintro n1 _ ⟨rfl, c, rfl⟩
      exact esa_of (by walk_at "ev") ⟨rfl, c, rfl⟩
    · rintro n1 _ ⟨rfl, c, rfl⟩
      exact ⟨_, ⟨c, _, rfl, by omega, by omega, rfl⟩, rfl, _, _, rfl⟩
    · rintro n1 _ ⟨rfl, c, k, rfl⟩
      have hm := hmix c k
      refine rs_ret (ep_op (ep_op (ep_cb (ea_cons (ep_op (ep_op (ep_var rfl) ep_int (od_c (g := fun i j => i * j) (.inr (by decide)))) (ep_call (by walk_at "ev") ⟨_, _, rfl, by omega, by omega, rfl⟩) od_i) ea_nil) ca_int) ep_int (od_c (g := fun i j => i / j) ⟨by decide, by decide⟩)) (ep_var rfl) (od_c (g := fun i j => i % j) (by omega))) ⟨_, _, rfl, hpost _⟩
theorem pure_l_draw {K : PySem.W.Frag} {vs : List V} {H : Hp} {Q : VK} {E : XK} (h : sp_l_draw K vs H Q E) : t_l_draw K { nx := fun _ H' => Q .non H', rt := Q } (L2.start ["_law_state", "_law_limit", "_law_at", "_law_place", "_law_left", "_law_number"] vs) H := pureS_of h fun S A0 n ds hp => run_l_draw K S A0 n ds hp
section
variable {P : Program} {w : World} {K : PySem.W.Frag} {mg : Str → Option Value} {base : Heap}
abbrev N_l_draw : List Str := ["_law_state", "_law_limit", "_law_at", "_law_place", "_law_left", "_law_number"]
theorem sc_l_draw : FnScope N_l_draw ["_law_state", "_law_limit"] (defScope s_l_draw) := ⟨rfl, rfl, rfl, by decide +kernel, rfl, by decide +kernel, by decide +kernel⟩
theorem ok_l_draw (T : Tx K mg) : ∃ fd, FnOk P w K mg base CX0 2 (He.ga K "_law_draw") fd ["_law_state", "_law_limit"] (sp_l_draw K) ∧ Binds K fd ["_law_state", "_law_limit"] [] := by
  have nd := sc_l_draw.nd
  obtain ⟨_, G_l_mixed, b_l_mixed⟩ := ok_l_mixed (P := P) (w := w) (base := base) T
  obtain ⟨fd, F⟩ := T.d_l_draw
  refine ⟨fd, FunD.ok F sc_l_draw (fun vs H Q E h => len_l_draw h) (fun cdv A outer s H vs Q E hr h => ⟨t_l_draw K, PSs.nox ?_, pure_l_draw h⟩), F.bindsN fun _ _ _ _ _ _ us hl => match us, hl with | [_, _], _ => rfl⟩
  exact pss_cons (ps_set (i := 2) nd rfl (Or.inl rfl) (pe_dget (hu_of hr) (pv 0) (pe_str) (fun _ _ => rfl))) (pss_cons (ps_dput (hu_of hr) (pv 0) (pe_str) (pe_op op_add (pv 2) (pe_int)) rfl) (pss_cons (ps_set (i := 3) nd rfl (Or.inl rfl) (pe_op op_mod (pe_callTy call_int1 (by rfl) T.f_int (by decide +kernel) (pa_cons (pv 2) (pa_nil))) (pe_callB call_len_seq (by rfl) T.f_len (by decide +kernel) (pa_cons (pe_dget (hu_of hr) (pv 0) (pe_str) (fun _ _ => rfl)) (pa_nil))))) (pss_cons (ps_set (i := 4) nd rfl (Or.inl rfl) (pe_ix ix_seq (pe_dget (hu_of hr) (pv 0) (pe_str) (fun _ _ => rfl)) (pv 3) (fun _ _ => rfl))) (pss_cons (ps_if (pt_cmpR op_gt (pv 4) (pe_int) (nomark _)) (pss_cons (ps_asg (pe_op op_fdiv (pv 4) (pv 1)) (pg_sub (pe_dget (hu_of hr) (pv 0) (pe_str) (fun _ _ => rfl)) (pv 3) set_list)) (pss_one (ps_ret (pe_op op_mod (pe_callTy call_int1 (by rfl) T.f_int (by decide +kernel) (pa_cons (pv 4) (pa_nil))) (pv 1))))) (pss_nil)) (pss_cons (ps_set (i := 5) nd rfl (Or.inl rfl) (pe_call G_l_mixed (hr.mono (by omega)) rfl T.g_l_mixed T.k_l_mixed b_l_mixed .nil pass0 (pa_cons (pe_call G_l_mixed (hr.mono (by omega)) rfl T.g_l_mixed T.k_l_mixed b_l_mixed .nil pass0 (pa_cons (pe_ix ix_seq (pe_dget (hu_of hr) (pv 0) (pe_str) (fun _ _ => rfl)) (pv 3) (fun _ _ => rfl)) (pa_cons (pv 2) (pa_nil)))) (pa_cons (pe_op op_add (pe_int) (pv 2)) (pa_nil))))) (pss_one (ps_ret (pe_op op_mod (pe_op op_fdiv (pe_callTy call_int1 (by rfl) T.f_int (by decide +kernel) (pa_cons (pe_op op_add (pe_op op_mul (pv 5) (pe_int)) (pe_call G_l_mixed (hr.mono (by omega)) rfl T.g_l_mixed T.k_l_mixed b_l_mixed .nil pass0 (pa_cons (pv 5) (pa_cons (pe_op op_add (pe_int) (pv 2)) (pa_nil))))) (pa_nil))) (pe_int)) (pv 1)))))))))
end
/-! l_of -/
def pre_l_of (n : Nat) (ds : List PyData) : Prop := ∃ xs : List PyData, ds = [.list xs] ∧ xs ≠ [] ∧ xs.length ≤ 1000 ∧ n < 2 ^ 50
def post_l_of (n : Nat) (ds : List PyData) (n' : Nat) (d : PyData) : Prop := n' = n + 1 ∧ ∃ xs : List PyData, ds = [.list xs] ∧ d ∈ xs
def sp_l_of (K : PySem.W.Frag) : Sp := SpSt pre_l_of post_l_of
def t_l_of (K : PySem.W.Frag) : TS := tRet (tOp (rIxL K) (tVar 1) (tCall (sp_l_draw K) [] E0 (tCons (tVar 0) (tCons (tCB (rLen K) (tCons (tVar 1) (tNil))) (tNil)))))
theorem len_l_of {K : PySem.W.Frag} {vs : List V} {H : Hp} {Q : VK} {E : XK} (h : sp_l_of K vs H Q E) : vs.length = 2 := spSt_len h fun n ds ⟨_, e, _⟩ => by rw [e]; rfl
theorem run_l_of (K : PySem.W.Frag) (S : StA) (A0 : Addr → Prop) (n : Nat) (ds : List PyData) (h : pre_l_of n ds) : RunS (stW S A0) (t_l_of K) n (.st S.st :: (ds.map Slot.d ++ List.replicate (2 - (ds.length + 1)) .non)) fun o => ∃ n' d, o = .rt n' d ∧ post_l_of n ds n' d := by
  obtain ⟨xs, rfl, h0, h1, hn⟩ := h
  have hl := List.length_pos_iff.mpr h0
  refine rs_retS (P0 := fun n' d => n' = n + 1 ∧ d ∈ xs) (es_op (EvP.s (P := fun n' d => n' = n ∧ d = .list xs) (ep_var rfl) ⟨rfl, rfl⟩) ?_) ?_
  · rintro n1 _ ⟨rfl, rfl⟩
    refine es_callS (S := S) (A0 := A0) rfl (esa_of (PA0 := fun n' ds => n' = n1 ∧ ds = [.int (xs.length : Nat)]) (by walk_at "ev") ⟨rfl, rfl⟩) ?_ ?_
    · rintro n1 _ ⟨rfl, rfl⟩
      exact ⟨_, rfl, hl, h1, hn⟩
    · rintro n1 _ n2 d ⟨rfl, rfl⟩ ⟨rfl, lim, r, e, rfl, hr⟩
      have e2 : (lim : Int) = (xs.length : Nat) := by simpa using e.symm
      refine ⟨xs[r]'(by omega), od_ixL (at_nat (by simp)), rfl, List.getElem_mem _⟩
  · rintro n1 d ⟨rfl, hd⟩
    exact ⟨_, _, rfl, rfl, xs, rfl, hd⟩
theorem pure_l_of {K : PySem.W.Frag} {vs : List V} {H : Hp} {Q : VK} {E : XK} (h : sp_l_of K vs H Q E) : t_l_of K { nx := fun _ H' => Q .non H', rt := Q } (L2.start ["_law_state", "_law_some"] vs) H := pureS_of h fun S A0 n ds hp => run_l_of K S A0 n ds hp
section
variable {P : Program} {w : World} {K : PySem.W.Frag} {mg : Str → Option Value} {base : Heap}
abbrev N_l_of : List Str := ["_law_state", "_law_some"]
theorem sc_l_of : FnScope N_l_of ["_law_state", "_law_some"] (defScope s_l_of) := ⟨rfl, rfl, rfl, by decide +kernel, rfl, by decide +kernel, by decide +kernel⟩
theorem ok_l_of (T : Tx K mg) : ∃ fd, FnOk P w K mg base CX0 3 (He.ga K "_law_of") fd ["_law_state", "_law_some"] (sp_l_of K) ∧ Binds K fd ["_law_state", "_law_some"] [] := by
  have nd := sc_l_of.nd
  obtain ⟨_, G_l_draw, b_l_draw⟩ := ok_l_draw (P := P) (w := w) (base := base) T
  obtain ⟨fd, F⟩ := T.d_l_of
  refine ⟨fd, FunD.ok F sc_l_of (fun vs H Q E h => len_l_of h) (fun cdv A outer s H vs Q E hr h => ⟨t_l_of K, PSs.nox ?_, pure_l_of h⟩), F.bindsN fun _ _ _ _ _ _ us hl => match us, hl with | [_, _], _ => rfl⟩
  exact pss_one (ps_ret (pe_ix ix_list (pv 1) (pe_call G_l_draw (hr.mono (by omega)) rfl T.g_l_draw T.k_l_draw b_l_draw .nil pass0 (pa_cons (pv 0) (pa_cons (pe_callB call_len_seq (by rfl) T.f_len (by decide +kernel) (pa_cons (pv 1) (pa_nil))) (pa_nil)))) (fun _ _ => rfl)))
end
end Uh

set_option Elab.async false
set_option linter.all false
set_option maxRecDepth 100000
set_option maxHeartbeats 400000
namespace Uh
open PySem PySem.Spec PyProof.Rows L2
open Evl (Ex)
local macro_rules | `(tactic| walk_at "ev") => `(tactic| repeat (first
  | with_reducible exact ep_var rfl | with_reducible exact ep_int | with_reducible exact ep_bl | with_reducible exact ep_non | with_reducible exact ep_str
  | with_reducible exact ea_nil | with_reducible apply ea_cons | with_reducible apply ep_tupG | with_reducible apply ef_lstG | with_reducible exact et_yes
  | with_reducible apply ca_isiG | with_reducible exact kit_tuple _ | with_reducible exact kit_int _ | with_reducible exact kit_bool _ | with_reducible exact kit_str _
  | with_reducible apply et_test | with_reducible apply et_b | with_reducible apply et_not | with_reducible apply et_orG | with_reducible apply et_andG
  | with_reducible apply ep_orG | with_reducible apply ep_andG | with_reducible apply ep_notV | with_reducible apply ep_chainG
  | with_reducible apply ep_inG | with_reducible apply ep_op | with_reducible apply ep_un | with_reducible apply ep_cb
  | with_reducible exact od_i | with_reducible exact od_b | with_reducible exact od_eqI | with_reducible exact od_neI | with_reducible exact od_eqS | with_reducible exact od_eqB | with_reducible exact od_isN | with_reducible exact od_notN | with_reducible exact ud_i
  | with_reducible exact od_ixT at3_0 | with_reducible exact od_ixT at3_1 | with_reducible exact od_ixT at3_2 | with_reducible exact od_ixT at2_0 | with_reducible exact od_ixT at2_1 | with_reducible exact od_ixT at1_0
  | with_reducible apply od_catA | (with_reducible show _ + _ ≤ 100000; first | omega | (simp; done) | (simp; omega))
  | with_reducible exact ca_lenT | with_reducible exact ca_lenL
  | exact (show allS _ = true from rfl) | exact (show Nat.ble _ 100000 = true from rfl)))
/-! ### cells of a table -/
theorem at_rowN {r : List Nat} {c : Nat} (h : c < r.length) : atI (r.map natD) (c : Int) = some (natD (r.getD c 0)) := at_nat (by simp [h])
theorem at_tabN {T : NT} {c : Nat} (h : c < T.length) : atI (T.map rowN) (c : Int) = some (rowN (T.getD c [])) := at_nat (by simp [h])
theorem row_len {T : NT} {a b i : Nat} (h : Rect T a b) (hi : i < a) : (T.getD i []).length = b := by
  have hl := h.len
  have e : T.getD i [] = T[i]'(by omega) := by simp [List.getD, show i < T.length by omega]
  rw [e]
  exact h.row _ (List.getElem_mem _)
theorem ep_cellN {K : PySem.W.Frag} {ss : List Slot} {t ti tj : TE} {T : NT} {a b i j : Nat} (hT : Rect T a b) (h : EvP t ss (tabN T)) (hi : EvP ti ss (.int (i : Nat))) (hj : EvP tj ss (.int (j : Nat))) (li : i < a) (lj : j < b) :
    EvP (tOp (rIxT K) (tOp (rIxT K) t ti) tj) ss (natD (fnT T i j)) :=
  ep_op (ep_op h hi (od_ixT (at_tabN (by have := hT.len; omega)))) hj (od_ixT (at_rowN (by rw [row_len hT li]; exact lj)))
theorem ep_hgt {K : PySem.W.Frag} {ss : List Slot} {t : TE} {T : NT} {a b : Nat} (hT : Rect T a b) (h : EvP t ss (tabN T)) : EvP (tCB (rLen K) (tCons t tNil)) ss (.int (a : Nat)) :=
  ep_is (ep_cb (ea_cons h ea_nil) ca_lenT) (by rw [List.length_map, hT.len])
theorem ep_wdt {K : PySem.W.Frag} {ss : List Slot} {t : TE} {T : NT} {a b : Nat} (hT : Rect T a b) (h : EvP t ss (tabN T)) : EvP (tCB (rLen K) (tCons (tOp (rIxT K) t (tC (.int 0))) tNil)) ss (.int (b : Nat)) := by
  have h0 : 0 < T.length := by have := hT.len; have := hT.r1; omega
  refine ep_is (ep_cb (ea_cons (ep_op h (ep_int (i := 0)) (od_ixT (at_tabN (c := 0) h0))) ea_nil) (ca_lenT (ds := (T.getD 0 []).map natD))) ?_
  rw [List.length_map, row_len hT (by have := hT.r1; omega)]
/-! ### brackets by places -/
def spotsL (g : Nat → Nat × Nat) (ks : List Nat) : List (Bool × Nat) := ks.flatMap fun k => List.replicate (g k).1 (true, k) ++ List.replicate (g k).2 (false, k)
def encS (p : Bool × Nat) : PyData := .tuple [brD p.1, natD p.2]
def gS (sg ac : Bool) (T : NT) (lo : Nat) : Nat → Nat × Nat := if ac then gB sg (fnT T) lo else gA sg (fnT T) lo
def kS (sg ac : Bool) (a b : Nat) : List Nat := if ac then rowsL sg a else List.range b
theorem spotsL_snoc {g : Nat → Nat × Nat} {ks : List Nat} {k : Nat} : spotsL g (ks ++ [k]) = spotsL g ks ++ (List.replicate (g k).1 (true, k) ++ List.replicate (g k).2 (false, k)) := by
  unfold spotsL
  rw [List.flatMap_append]
  simp
theorem spotsL_len {g : Nat → Nat × Nat} {m : Nat} : ∀ {ks : List Nat}, (∀ k ∈ ks, (g k).1 + (g k).2 ≤ m) → (spotsL g ks).length ≤ m * ks.length
  | [], _ => Nat.le_refl _
  | k :: ks, h => by
    have ih := spotsL_len (ks := ks) fun x hx => h x (List.mem_cons_of_mem _ hx)
    have hk := h k (by simp)
    unfold spotsL at ih ⊢
    rw [List.flatMap_cons, List.length_append, List.length_append, List.length_replicate, List.length_replicate, List.length_cons, Nat.mul_succ]
    omega
theorem spots_last {g : Nat → Nat × Nat} : ∀ {ks : List Nat} {s : List Nat × List Nat}, ((spotsL g ks).foldl stepB s).1.getLast? = (lf g ks s.2.length).or s.1.getLast?
  | [], s => rfl
  | k :: ks, s => by
    have e1 : spotsL g (k :: ks) = (List.replicate (g k).1 (true, k) ++ List.replicate (g k).2 (false, k)) ++ spotsL g ks := by
      unfold spotsL
      rw [List.flatMap_cons]
    rw [e1, List.foldl_append, List.foldl_append, fold_close, fold_open, spots_last]
    have el : (s.2.take (s.2.length - (g k).1) ++ List.replicate (g k).2 k).length = s.2.length - (g k).1 + (g k).2 := by
      rw [List.length_append, List.length_take, List.length_replicate]
      omega
    show (lf g ks (_ : List _).length).or _ = _
    rw [el]
    show _ = ((lf g ks (s.2.length - (g k).1 + (g k).2)).or (if s.2.length < (g k).1 then some k else none)).or _
    cases lf g ks (s.2.length - (g k).1 + (g k).2) with
    | some m => rfl
    | none =>
      show (s.1 ++ List.replicate ((g k).1 - s.2.length) k).getLast? = (if s.2.length < (g k).1 then some k else none).or _
      by_cases hq : s.2.length < (g k).1
      · rw [if_pos hq]
        obtain ⟨m, hm⟩ : ∃ m, (g k).1 - s.2.length = m + 1 := ⟨(g k).1 - s.2.length - 1, by omega⟩
        rw [hm, List.replicate_succ', ← List.append_assoc]
        simp
      · rw [if_neg hq, show (g k).1 - s.2.length = 0 by omega]
        simp
theorem scan_lf {g : Nat → Nat × Nat} {ks : List Nat} : (scanB (spotsL g ks)).1.getLast? = lf g ks 0 := by
  unfold scanB
  rw [spots_last]
  show (lf g ks 0).or none = _
  cases lf g ks 0 <;> rfl
theorem fnT_le {sg : Bool} {T : NT} {a b i j : Nat} (g : Good sg T a b) (hi : i < a) (hj : j < b) : fnT T i j ≤ 12 := by
  have h1 := su_mono (f := fnT T i) hj
  have h2 := su_mono (f := rs b (fnT T)) hi
  have h3 := good_tot g
  unfold tot at h3
  have h1' : fnT T i j ≤ rs b (fnT T) i := h1
  omega
theorem kS_lt {sg ac : Bool} {a b k : Nat} (h : k ∈ kS sg ac a b) : k < if ac then a else b := by
  unfold kS at h
  cases ac with
  | true => exact mem_rows.mp h
  | false => exact List.mem_range.mp h
theorem kS_len {sg ac : Bool} {a b : Nat} (ha : a ≤ 5) (hb : b ≤ 5) : (kS sg ac a b).length ≤ 5 := by
  unfold kS rowsL
  cases ac <;> cases sg <;> simp <;> omega
/-- the two entries at k -/
def loE (ac : Bool) (T : NT) (lo k : Nat) : Nat := if ac then fnT T k lo else fnT T lo k
theorem gS_eq {sg ac : Bool} {T : NT} {lo k : Nat} : gS sg ac T lo k = bet sg (loE ac T (lo + 1) k) (loE ac T lo k) := by
  unfold gS loE
  cases ac <;> rfl
theorem loE_le {sg ac : Bool} {T : NT} {a b lo k : Nat} (g : Good sg T a b) (hl : lo < if ac then b else a) (hk : k < if ac then a else b) : loE ac T lo k ≤ 12 := by
  unfold loE
  cases ac with
  | true => exact fnT_le g hk hl
  | false => exact fnT_le g hl hk
theorem loE_one {sg ac : Bool} {T : NT} {a b lo k : Nat} (g : Good sg T a b) (hs : sg = true) : loE ac T lo k ≤ 1 := by
  unfold loE
  cases ac <;> exact fnT_one g hs
theorem bet_le {sg : Bool} {p o m : Nat} (h1 : p ≤ m) (h2 : o ≤ m) : (bet sg p o).1 ≤ m ∧ (bet sg p o).2 ≤ m := by
  unfold bet
  cases sg <;> simp <;> omega
theorem mul_one {ss : List Slot} {tx tk : TE} {x : PyData} {k : Nat} (h : EvP tx ss x) (hk : EvP tk ss (natD k)) (hle : k ≤ 1000) : EvP (tOp rRep (tLst (tCons tx tNil)) tk) ss (.list (List.replicate k x)) :=
  ep_is (ep_op (EvF.p (ef_lst (ea_cons h ea_nil) (by simp))) hk (od_rep (by omega) (by omega) (by simp))) (by simp)
/-! l_spots -/
def R_l_spots (ds : List PyData) (r : PyData) : Prop := ∃ (T : NT) (sg ac : Bool) (a b lo : Nat), ds = [tabN T, .int (lo : Nat), .int ((lo : Int) + 1), .bool ac, .bool sg] ∧ Good sg T a b ∧ (lo + 1 < if ac then b else a) ∧ r = .list ((spotsL (gS sg ac T lo) (kS sg ac a b)).map encS)
def sp_l_spots (K : PySem.W.Frag) : Sp := SpP R_l_spots
def t_l_spots (K : PySem.W.Frag) : TS := tSeq (tAsg (tLst (tNil)) (gName 5)) (tSeq (tAsg (tLstRg (tRg1 (tIf (tB (tVar 3)) (tCB (rLen K) (tCons (tVar 0) (tNil))) (tCB (rLen K) (tCons (tOp (rIxT K) (tVar 0) (tC (.int 0))) (tNil)))))) (gName 6)) (tSeq (tFor (iList K (tIf (tAnd (tB (tVar 3)) (tB (tVar 4))) (tRevL K (tVar 6)) (tVar 6))) (gName 7) (tSeq (tAsg (tIf (tB (tVar 3)) (tOp (rIxT K) (tOp (rIxT K) (tVar 0) (tVar 7)) (tVar 1)) (tOp (rIxT K) (tOp (rIxT K) (tVar 0) (tVar 1)) (tVar 7))) (gName 8)) (tSeq (tAsg (tIf (tB (tVar 3)) (tOp (rIxT K) (tOp (rIxT K) (tVar 0) (tVar 7)) (tVar 2)) (tOp (rIxT K) (tOp (rIxT K) (tVar 0) (tVar 2)) (tVar 7))) (gName 9)) (tSeq (tIfS (tAnd (tB (tVar 4)) (tTest (tOp (rEq) (tVar 8) (tVar 9)))) (tAsg (tTup (tCons (tC (.int 0)) (tCons (tC (.int 0)) (tNil)))) (gTup K 2 (gCons (gName 8) (gCons (gName 9) (gNil))))) (tNext)) (tAsg (tOp (rCat) (tOp (rCat) (tVar 5) (tOp (rRep) (tLst (tCons (tTup (tCons (tC (.str ")")) (tCons (tVar 7) (tNil)))) (tNil))) (tVar 9))) (tOp (rRep) (tLst (tCons (tTup (tCons (tC (.str "(")) (tCons (tVar 7) (tNil)))) (tNil))) (tVar 8))) (gName 5)))))) (tRet (tVar 5))))
theorem len_l_spots {K : PySem.W.Frag} {vs : List V} {H : Hp} {Q : VK} {E : XK} (h : sp_l_spots K vs H Q E) : vs.length = 5 := spP_len h fun ds r ⟨_, _, _, _, _, _, e, _⟩ => by rw [e]; rfl
theorem run_l_spots (K : PySem.W.Frag) (W : Wd) (n : Nat) (ds : List PyData) (r : PyData) (h : R_l_spots ds r) : RunS W (t_l_spots K) n (ds.map Slot.d ++ List.replicate (10 - ds.length) .non) (fun o => o = .rt n r) := by
  obtain ⟨TT, sg, ac, a, b, lo, rfl, g, hlo, rfl⟩ := h
  have hR := g.rect
  have hr5 := hR.r5
  have hc5 := hR.c5
  refine sa (EvF.p (ef_lst ea_nil (by simp))) ?_
  refine sa (d := .list ((List.range (if ac then a else b)).map natD)) ?_ ?_
  · have h1 : EvP (tIf (tB (tVar 3)) (tCB (rLen K) (tCons (tVar 0) (tNil))) (tCB (rLen K) (tCons (tOp (rIxT K) (tVar 0) (tC (.int 0))) (tNil)))) [.d (tabN TT), .d (.int (lo : Nat)), .d (.int ((lo : Int) + 1)), .d (.bool ac), .d (.bool sg), .d (.list []), .non, .non, .non, .non] (.int ((if ac then a else b : Nat) : Int)) :=
      ep_if (et_b (ep_var rfl)) (fun e => by rw [e]; exact ep_hgt hR (ep_var rfl)) (fun e => by rw [e]; exact ep_wdt hR (ep_var rfl))
    refine ep_is (EvF.p (ef_listRg h1 (by omega) (by cases ac <;> simp <;> omega))) ?_
    unfold irange
    rw [List.map_map]
    simp
  have hks : EvP (tIf (tAnd (tB (tVar 3)) (tB (tVar 4))) (tRevL K (tVar 6)) (tVar 6)) [.d (tabN TT), .d (.int (lo : Nat)), .d (.int ((lo : Int) + 1)), .d (.bool ac), .d (.bool sg), .d (.list []), .d (.list ((List.range (if ac then a else b)).map natD)), .non, .non, .non] (.list ((kS sg ac a b).map natD)) := by
    refine ep_if (et_andG (et_b (ep_var rfl)) (et_b (ep_var rfl))) (fun e => ?_) (fun e => ?_)
    · have e' : ac = true ∧ sg = true := by simpa using e
      obtain ⟨rfl, rfl⟩ := e'
      exact ep_is (EvF.p (ep_revL (ep_var rfl))) (by rw [← List.map_reverse]; rfl)
    · refine ep_is (ep_var rfl) ?_
      cases ac <;> cases sg <;> first | rfl | cases e
  refine sfor (xs := kS sg ac a b) (enc := natD) (f := fun k ss => ss.set 7 (.d (natD k)))
    (fun i n' ss' => n' = n ∧ ∃ s t u, ss' = [.d (tabN TT), .d (.int (lo : Nat)), .d (.int ((lo : Int) + 1)), .d (.bool ac), .d (.bool sg), .d (.list ((spotsL (gS sg ac TT lo) ((kS sg ac a b).take i)).map encS)), .d (.list ((List.range (if ac then a else b)).map natD)), s, t, u])
    (wk_list hks) (fun _ _ => tg_name) ⟨rfl, _, _, _, rfl⟩ ?_ ?_
  · rintro i k n _ hi ⟨rfl, s, t, u, rfl⟩
    have hk : k ∈ kS sg ac a b := List.mem_of_getElem? hi
    have hkl := kS_lt hk
    have h1 : ∀ {ss : List Slot} {tl : TE} {l : Nat}, EvP (tVar 0) ss (tabN TT) → EvP (tVar 3) ss (.bool ac) → EvP tl ss (.int (l : Nat)) → EvP (tVar 7) ss (natD k) → (l < if ac then b else a) → EvP (tIf (tB (tVar 3)) (tOp (rIxT K) (tOp (rIxT K) (tVar 0) (tVar 7)) tl) (tOp (rIxT K) (tOp (rIxT K) (tVar 0) tl) (tVar 7))) ss (natD (loE ac TT l k)) := fun {ss tl l} e0 e3 el e7 hl => by
      refine ep_if (et_b e3) (fun e => ?_) (fun e => ?_)
      · subst e
        exact ep_cellN hR e0 e7 el hkl hl
      · subst e
        exact ep_cellN hR e0 el e7 hl hkl
    refine sa (h1 (ep_var rfl) (ep_var rfl) (ep_var rfl) (ep_var rfl) (by omega)) ?_
    refine sa (h1 (l := lo + 1) (ep_var rfl) (ep_var rfl) (ep_var rfl) (ep_var rfl) hlo) ?_
    have b1 := loE_le (ac := ac) g (lo := lo) (k := k) (by omega) hkl
    have b2 := loE_le (ac := ac) g (lo := lo + 1) (k := k) hlo hkl
    have bb := bet_le (sg := sg) b2 b1
    have hlen : (spotsL (gS sg ac TT lo) ((kS sg ac a b).take i)).length ≤ 24 * 5 := by
      refine Nat.le_trans (spotsL_len (m := 24) fun x hx => ?_) (Nat.mul_le_mul_left _ ?_)
      · have hx' := kS_lt (List.mem_of_mem_take hx)
        have := bet_le (sg := sg) (loE_le (ac := ac) g (lo := lo + 1) (k := x) hlo hx') (loE_le (ac := ac) g (lo := lo) (k := x) (by omega) hx')
        rw [gS_eq]
        omega
      · rw [List.length_take]
        have := kS_len (sg := sg) (ac := ac) hr5 hc5
        omega
    have fin : ∀ p o : Nat, (p, o) = gS sg ac TT lo k → RunS W (tAsg (tOp rCat (tOp rCat (tVar 5) (tOp rRep (tLst (tCons (tTup (tCons (tC (.str ")")) (tCons (tVar 7) (tNil)))) (tNil))) (tVar 9))) (tOp rRep (tLst (tCons (tTup (tCons (tC (.str "(")) (tCons (tVar 7) (tNil)))) (tNil))) (tVar 8))) (gName 5)) n
        [.d (tabN TT), .d (.int (lo : Nat)), .d (.int ((lo : Int) + 1)), .d (.bool ac), .d (.bool sg), .d (.list ((spotsL (gS sg ac TT lo) ((kS sg ac a b).take i)).map encS)), .d (.list ((List.range (if ac then a else b)).map natD)), .d (natD k), .d (natD o), .d (natD p)]
        (Turn' (Then W (tRet (tVar 5)) fun o => o = .rt n (.list ((spotsL (gS sg ac TT lo) (kS sg ac a b)).map encS))) (fun n' ss' => n' = n ∧ ∃ s t u, ss' = [.d (tabN TT), .d (.int (lo : Nat)), .d (.int ((lo : Int) + 1)), .d (.bool ac), .d (.bool sg), .d (.list ((spotsL (gS sg ac TT lo) ((kS sg ac a b).take (i + 1))).map encS)), .d (.list ((List.range (if ac then a else b)).map natD)), s, t, u])) := fun p o e => by
      have ep : p ≤ 12 ∧ o ≤ 12 := by
        rw [gS_eq] at e
        rw [← e] at bb
        exact bb
      refine rs_asg (d := .list ((spotsL (gS sg ac TT lo) ((kS sg ac a b).take (i + 1))).map encS)) (ep_is (ep_op (ep_op (ep_var rfl) (mul_one (x := encS (true, k)) (ep_tup (ea_cons ep_str (ea_cons (ep_var rfl) ea_nil)) (by simp)) (ep_var rfl) (by omega)) (od_cat (by rw [List.length_map, List.length_replicate]; omega)))
        (mul_one (x := encS (false, k)) (ep_tup (ea_cons ep_str (ea_cons (ep_var rfl) ea_nil)) (by simp)) (ep_var rfl) (by omega)) (od_cat (by rw [List.length_append, List.length_map, List.length_replicate, List.length_replicate]; omega))) ?_) ⟨rfl, _, _, _, rfl⟩
      rw [take_snoc hi, spotsL_snoc, ← e, List.map_append, List.map_append, List.map_replicate, List.map_replicate, List.append_assoc]
    by_cases hsm : sg = true ∧ loE ac TT lo k = loE ac TT (lo + 1) k
    · obtain ⟨rfl, hq⟩ := hsm
      refine rs_seq (rs_ifT (et_is (et_andG (et_b (ep_var rfl)) (et_test (ep_op (ep_var rfl) (ep_var rfl) od_eqI))) (by rw [hq]; simp)) (rs_asgT (d := .tuple [natD 0, natD 0]) (ep_tup (ea_cons ep_int (ea_cons ep_int ea_nil)) (by simp)) tg_two (fin 0 0 ?_)))
      rw [gS_eq, hq]
      unfold bet
      simp
    · refine rs_seq (rs_ifF (et_is (et_andG (et_b (ep_var rfl)) (et_test (ep_op (ep_var rfl) (ep_var rfl) od_eqI))) ?_) (rs_next (fin _ _ ?_)))
      · cases sg with
        | false => rfl
        | true =>
          have : ¬ loE ac TT lo k = loE ac TT (lo + 1) k := fun z => hsm ⟨rfl, z⟩
          simp
          omega
      · rw [gS_eq]
        unfold bet
        cases sg with
        | false => rfl
        | true =>
          have o1 := loE_one (ac := ac) (lo := lo) (k := k) g rfl
          have o2 := loE_one (ac := ac) (lo := lo + 1) (k := k) g rfl
          have : ¬ loE ac TT lo k = loE ac TT (lo + 1) k := fun z => hsm ⟨rfl, z⟩
          simp
          omega
  · rintro _ _ ⟨rfl, s, t, u, rfl⟩
    rw [List.take_of_length_le (Nat.le_refl _)]
    exact rs_ret (ep_var rfl) rfl
theorem pure_l_spots {K : PySem.W.Frag} {vs : List V} {H : Hp} {Q : VK} {E : XK} (h : sp_l_spots K vs H Q E) : t_l_spots K { nx := fun _ H' => Q .non H', rt := Q } (L2.start ["_law_table_here", "_law_low", "_law_high", "_law_across", "_law_signed", "_law_found", "_law_spots_here", "_law_k", "_law_less", "_law_more"] vs) H := pure_of h fun W n ds r hr => run_l_spots K W n ds r hr
section
variable {P : Program} {w : World} {K : PySem.W.Frag} {mg : Str → Option Value} {base : Heap}
abbrev N_l_spots : List Str := ["_law_table_here", "_law_low", "_law_high", "_law_across", "_law_signed", "_law_found", "_law_spots_here", "_law_k", "_law_less", "_law_more"]
theorem sc_l_spots : FnScope N_l_spots ["_law_table_here", "_law_low", "_law_high", "_law_across", "_law_signed"] (defScope s_l_spots) := ⟨rfl, rfl, rfl, by decide +kernel, rfl, by decide +kernel, by decide +kernel⟩
theorem ok_l_spots (T : Tx K mg) : ∃ fd, FnOk P w K mg base CX0 1 (He.ga K "_law_spots") fd ["_law_table_here", "_law_low", "_law_high", "_law_across", "_law_signed"] (sp_l_spots K) ∧ Binds K fd ["_law_table_here", "_law_low", "_law_high", "_law_across", "_law_signed"] [] := by
  have nd := sc_l_spots.nd
  obtain ⟨fd, F⟩ := T.d_l_spots
  refine ⟨fd, FunD.ok F sc_l_spots (fun vs H Q E h => len_l_spots h) (fun cdv A outer s H vs Q E hr h => ⟨t_l_spots K, PSs.nox ?_, pure_l_spots h⟩), F.bindsN fun _ _ _ _ _ _ us hl => match us, hl with | [_, _, _, _, _], _ => rfl⟩
  exact pss_cons (ps_set (i := 5) nd rfl (Or.inl rfl) (pe_lst (pa_nil))) (pss_cons (ps_set (i := 6) nd rfl (Or.inl rfl) (pe_listRg rfl (by rfl) T.f_list (prg_1 rfl T.f_range (pe_ifExp (pt_val (pv 3)) (pe_callB call_len_seq (by rfl) T.f_len (by decide +kernel) (pa_cons (pv 0) (pa_nil))) (pe_callB call_len_seq (by rfl) T.f_len (by decide +kernel) (pa_cons (pe_ix ix_tup (pv 0) (pe_int) (fun _ _ => rfl)) (pa_nil))))))) (pss_cons (ps_for PassesOwn.never rfl (pi_list (pe_ifExp (PW.pt (pw_and (pt_val (pv 3)) (pw_and1 (pt_val (pv 4))))) (pe_revL (pv 6)) (pv 6))) (pg_name (i := 7) nd rfl (Or.inl rfl)) (pss_cons (ps_set (i := 8) nd rfl (Or.inl rfl) (pe_ifExp (pt_val (pv 3)) (pe_ix ix_tup (pe_ix ix_tup (pv 0) (pv 7) (fun _ _ => rfl)) (pv 1) (fun _ _ => rfl)) (pe_ix ix_tup (pe_ix ix_tup (pv 0) (pv 1) (fun _ _ => rfl)) (pv 7) (fun _ _ => rfl)))) (pss_cons (ps_set (i := 9) nd rfl (Or.inl rfl) (pe_ifExp (pt_val (pv 3)) (pe_ix ix_tup (pe_ix ix_tup (pv 0) (pv 7) (fun _ _ => rfl)) (pv 2) (fun _ _ => rfl)) (pe_ix ix_tup (pe_ix ix_tup (pv 0) (pv 2) (fun _ _ => rfl)) (pv 7) (fun _ _ => rfl)))) (pss_cons (ps_if (PW.pt (pw_and (pt_val (pv 4)) (pw_and1 (pt_cmpR op_eq (pv 8) (pv 9) (nomark _))))) (pss_one (ps_asg (pe_tup (pa_cons (pe_int) (pa_cons (pe_int) (pa_nil)))) (pg_tup rfl (pgs_cons (pg_name (i := 8) nd rfl (Or.inl rfl)) (pgs_cons (pg_name (i := 9) nd rfl (Or.inl rfl)) (pgs_nil)))))) (pss_nil)) (pss_one (ps_set (i := 5) nd rfl (Or.inl rfl) (pe_op op_cat (pe_op op_cat (pv 5) (pe_op op_rep (pe_lst (pa_cons (pe_tup (pa_cons (pe_str) (pa_cons (pv 7) (pa_nil)))) (pa_nil))) (pv 9))) (pe_op op_rep (pe_lst (pa_cons (pe_tup (pa_cons (pe_str) (pa_cons (pv 7) (pa_nil)))) (pa_nil))) (pv 8))))))))) (pss_one (ps_ret (pv 5)))))
end
end Uh

set_option Elab.async false
set_option linter.all false
set_option maxRecDepth 100000
set_option maxHeartbeats 400000
namespace Uh
open PySem PySem.Spec PyProof.Rows L2
open Evl (Ex)
local macro_rules | `(tactic| walk_at "ev") => `(tactic| repeat (first
  | with_reducible exact ep_var rfl | with_reducible exact ep_int | with_reducible exact ep_bl | with_reducible exact ep_non | with_reducible exact ep_str
  | with_reducible exact ea_nil | with_reducible apply ea_cons | with_reducible apply ep_tupG | with_reducible apply ef_lstG | with_reducible exact et_yes
  | with_reducible apply ca_isiG | with_reducible exact kit_tuple _ | with_reducible exact kit_int _ | with_reducible exact kit_bool _ | with_reducible exact kit_str _
  | with_reducible apply et_test | with_reducible apply et_b | with_reducible apply et_not | with_reducible apply et_orG | with_reducible apply et_andG
  | with_reducible apply ep_orG | with_reducible apply ep_andG | with_reducible apply ep_notV | with_reducible apply ep_chainG
  | with_reducible apply ep_inG | with_reducible apply ep_op | with_reducible apply ep_un | with_reducible apply ep_cb
  | with_reducible exact od_i | with_reducible exact od_b | with_reducible exact od_eqI | with_reducible exact od_neI | with_reducible exact od_eqS | with_reducible exact od_eqB | with_reducible exact od_isN | with_reducible exact od_notN | with_reducible exact ud_i
  | with_reducible exact od_ixT at3_0 | with_reducible exact od_ixT at3_1 | with_reducible exact od_ixT at3_2 | with_reducible exact od_ixT at2_0 | with_reducible exact od_ixT at2_1 | with_reducible exact od_ixT at1_0
  | with_reducible apply od_catA | (with_reducible show _ + _ ≤ 100000; first | omega | (simp; done) | (simp; omega))
  | with_reducible exact ca_lenT | with_reducible exact ca_lenL
  | exact (show allS _ = true from rfl) | exact (show Nat.ble _ 100000 = true from rfl)))
theorem ne_nilN {K : PySem.W.Frag} {ss : List Slot} {te : TE} {ns : List Nat} (h : EvP te ss (.list (ns.map natD))) : EvT (tTest (tOp (rNeD K) te (tLst tNil))) ss (!ns.isEmpty) := by
  have e : ns.map natD = (ns.map fun k : Nat => (k : Int)).map PyData.int := by rw [List.map_map]; rfl
  rw [e] at h
  have := ne_nil (K := K) h
  rw [List.isEmpty_map] at this
  exact this
theorem spots_len {sg ac : Bool} {T : NT} {a b lo : Nat} (g : Good sg T a b) (hlo : lo + 1 < if ac then b else a) : (spotsL (gS sg ac T lo) (kS sg ac a b)).length ≤ 120 := by
  refine Nat.le_trans (spotsL_len (m := 24) fun x hx => ?_) (Nat.mul_le_mul_left 24 (kS_len (sg := sg) (ac := ac) g.rect.r5 g.rect.c5))
  have hx' := kS_lt hx
  have := bet_le (sg := sg) (loE_le (ac := ac) g (lo := lo + 1) (k := x) hlo hx') (loE_le (ac := ac) g (lo := lo) (k := x) (by omega) hx')
  rw [gS_eq]
  omega
/-! l_loose -/
def R_l_loose (ds : List PyData) (r : PyData) : Prop := ∃ (T : NT) (sg ac : Bool) (a b lo : Nat), ds = [tabN T, .int (lo : Nat), .int ((lo : Int) + 1), .bool ac, .bool sg] ∧ Good sg T a b ∧ (lo + 1 < if ac then b else a) ∧
  r = .tuple [.list ((scanB (spotsL (gS sg ac T lo) (kS sg ac a b))).1.map natD), .list ((scanB (spotsL (gS sg ac T lo) (kS sg ac a b))).2.map natD)]
def sp_l_loose (K : PySem.W.Frag) : Sp := SpP R_l_loose
def t_l_loose (K : PySem.W.Frag) : TS := tSeq (tPar 5 6 (tCons (tLst (tNil)) (tCons (tLst (tNil)) (tNil)))) (tSeq (tFor (iList K (tCall (sp_l_spots K) [] E0 (tCons (tVar 0) (tCons (tVar 1) (tCons (tVar 2) (tCons (tVar 3) (tCons (tVar 4) (tNil)))))))) (gTup K 2 (gCons (gName 7) (gCons (gName 8) (gNil)))) (tIfS (tTest (tOp (rEq) (tVar 7) (tC (.str "(")))) (tDrop (tBM K "list" rAppend (tVar 6) (tCons (tVar 8) (tNil)))) (tIfS (tTest (tOp (rNeD K) (tVar 6) (tLst (tNil)))) (tDrop (tBM0 K "list" rPop (tVar 6))) (tDrop (tBM K "list" rAppend (tVar 5) (tCons (tVar 8) (tNil))))))) (tRet (tTup (tCons (tVar 5) (tCons (tVar 6) (tNil))))))
theorem len_l_loose {K : PySem.W.Frag} {vs : List V} {H : Hp} {Q : VK} {E : XK} (h : sp_l_loose K vs H Q E) : vs.length = 5 := spP_len h fun ds r ⟨_, _, _, _, _, _, e, _⟩ => by rw [e]; rfl
theorem run_l_loose (K : PySem.W.Frag) (W : Wd) (n : Nat) (ds : List PyData) (r : PyData) (h : R_l_loose ds r) : RunS W (t_l_loose K) n (ds.map Slot.d ++ List.replicate (9 - ds.length) .non) (fun o => o = .rt n r) := by
  obtain ⟨TT, sg, ac, a, b, lo, rfl, g, hlo, rfl⟩ := h
  have hlen := spots_len g hlo
  have hcall : EvP (tCall (sp_l_spots K) [] E0 (tCons (tVar 0) (tCons (tVar 1) (tCons (tVar 2) (tCons (tVar 3) (tCons (tVar 4) (tNil))))))) [.d (tabN TT), .d (.int (lo : Nat)), .d (.int ((lo : Int) + 1)), .d (.bool ac), .d (.bool sg), .own 0 [], .own 0 [], .non, .non] (.list ((spotsL (gS sg ac TT lo) (kS sg ac a b)).map encS)) :=
    ep_call (by walk_at "ev") ⟨TT, sg, ac, a, b, lo, rfl, g, hlo, rfl⟩
  clear hcall
  generalize hL : spotsL (gS sg ac TT lo) (kS sg ac a b) = L at *
  refine snew2 (ef_lstG ea_nil rfl) (ef_lstG ea_nil rfl) fun p q => ?_
  refine sfor (xs := L) (enc := encS) (f := fun x ss => (ss.set 7 (.d (brD x.1))).set 8 (.d (natD x.2)))
    (fun i n' ss' => n' = n ∧ ∃ s t, ss' = [.d (tabN TT), .d (.int (lo : Nat)), .d (.int ((lo : Int) + 1)), .d (.bool ac), .d (.bool sg), .own p ((scanB (L.take i)).1.map natD), .own q ((scanB (L.take i)).2.map natD), s, t])
    (wk_list (ep_call (z := .list (L.map encS)) (by walk_at "ev") ⟨TT, sg, ac, a, b, lo, rfl, g, hlo, by rw [hL]⟩)) (fun _ _ => tg_two) ⟨rfl, _, _, rfl⟩ ?_ ?_
  · rintro i ⟨c, k⟩ n _ hi ⟨rfl, s, t, rfl⟩
    have htk := take_snoc hi
    have hln := scanB_len (L.take i)
    have hlt : (L.take i).length ≤ 1000 := by
      rw [List.length_take]
      omega
    cases c with
    | false =>
      refine rs_ifT (et_is (et_test (ep_op (ep_var rfl) ep_str od_eqS)) brD_eq) (rs_app (i := 6) (a := q) rfl (by rw [List.length_map]; omega) (ep_var rfl) ⟨rfl, .d (brD false), .d (natD k), ?_⟩)
      rw [htk, scanB_snoc]
      unfold stepB
      simp only [Bool.false_eq_true, if_false, List.map_append, List.map_cons, List.map_nil]
      rfl
    | true =>
      refine rs_ifF (et_is (et_test (ep_op (ep_var rfl) ep_str od_eqS)) brD_eq) ?_
      by_cases he : (scanB (L.take i)).2.isEmpty = true
      · refine rs_ifF (et_is (et_thaw (i := 6) (p := q) rfl (ne_nilN (ep_var rfl))) (by rw [he]; rfl)) (rs_app (i := 5) (a := p) rfl (by rw [List.length_map]; omega) (ep_var rfl) ⟨rfl, .d (brD true), .d (natD k), ?_⟩)
        rw [htk, scanB_snoc]
        unfold stepB
        simp only [if_true, he, List.map_append, List.map_cons, List.map_nil]
        rfl
      · refine rs_ifT (et_is (et_thaw (i := 6) (p := q) rfl (ne_nilN (ep_var rfl))) (by simp [he])) (rs_pop (i := 6) (a := q) rfl (by
          intro z
          apply he
          rw [List.map_eq_nil_iff] at z
          rw [z]
          rfl) ⟨rfl, .d (brD true), .d (natD k), ?_⟩)
        rw [htk, scanB_snoc]
        unfold stepB
        have he' : (scanB (L.take i)).2.isEmpty = false := by simpa using he
        simp only [if_true, he', Bool.false_eq_true, if_false, List.map_dropLast]
        rfl
  · rintro n _ ⟨rfl, s, t, rfl⟩
    rw [List.take_of_length_le (Nat.le_refl _)]
    exact rs_freeze (i := 5) rfl (rs_freeze (i := 6) rfl (rs_ret (ep_tup (ea_cons (ep_var rfl) (ea_cons (ep_var rfl) ea_nil)) (by simp)) rfl))
theorem pure_l_loose {K : PySem.W.Frag} {vs : List V} {H : Hp} {Q : VK} {E : XK} (h : sp_l_loose K vs H Q E) : t_l_loose K { nx := fun _ H' => Q .non H', rt := Q } (L2.start ["_law_table_here", "_law_low", "_law_high", "_law_across", "_law_signed", "_law_shut", "_law_left", "_law_one", "_law_k"] vs) H := pure_of h fun W n ds r hr => run_l_loose K W n ds r hr
section
variable {P : Program} {w : World} {K : PySem.W.Frag} {mg : Str → Option Value} {base : Heap}
abbrev N_l_loose : List Str := ["_law_table_here", "_law_low", "_law_high", "_law_across", "_law_signed", "_law_shut", "_law_left", "_law_one", "_law_k"]
theorem sc_l_loose : FnScope N_l_loose ["_law_table_here", "_law_low", "_law_high", "_law_across", "_law_signed"] (defScope s_l_loose) := ⟨rfl, rfl, rfl, by decide +kernel, rfl, by decide +kernel, by decide +kernel⟩
theorem ok_l_loose (T : Tx K mg) : ∃ fd, FnOk P w K mg base CX0 2 (He.ga K "_law_loose") fd ["_law_table_here", "_law_low", "_law_high", "_law_across", "_law_signed"] (sp_l_loose K) ∧ Binds K fd ["_law_table_here", "_law_low", "_law_high", "_law_across", "_law_signed"] [] := by
  have nd := sc_l_loose.nd
  obtain ⟨_, G_l_spots, b_l_spots⟩ := ok_l_spots (P := P) (w := w) (base := base) T
  obtain ⟨fd, F⟩ := T.d_l_loose
  refine ⟨fd, FunD.ok F sc_l_loose (fun vs H Q E h => len_l_loose h) (fun cdv A outer s H vs Q E hr h => ⟨t_l_loose K, PSs.nox ?_, pure_l_loose h⟩), F.bindsN fun _ _ _ _ _ _ us hl => match us, hl with | [_, _, _, _, _], _ => rfl⟩
  exact pss_cons (ps_par (i := 5) (j := 6) rfl nd rfl rfl (by decide) rfl rfl (pa_cons (pe_lst (pa_nil)) (pa_cons (pe_lst (pa_nil)) (pa_nil))) (by rfl)) (pss_cons (ps_for PassesOwn.never rfl (pi_list (pe_call G_l_spots (hr.mono (by omega)) rfl T.g_l_spots T.k_l_spots b_l_spots .nil pass0 (pa_cons (pv 0) (pa_cons (pv 1) (pa_cons (pv 2) (pa_cons (pv 3) (pa_cons (pv 4) (pa_nil)))))))) (pg_tup rfl (pgs_cons (pg_name (i := 7) nd rfl (Or.inl rfl)) (pgs_cons (pg_name (i := 8) nd rfl (Or.inl rfl)) (pgs_nil)))) (pss_one (ps_if (pt_cmpR op_eq (pv 7) (pe_str) (nomark _)) (pss_one (ps_expr (pe_bm PySem.F.plainAttrs_list PySem.F.slot_list_append PySem.F.type_list_append mt_append (pv 6) (pa_cons (pv 8) (pa_nil))))) (pss_one (ps_if (pt_cmpR (op_neD hr.units) (pv 6) (pe_lst (pa_nil)) (nomark _)) (pss_one (ps_expr (pe_bm0 PySem.F.plainAttrs_list PySem.F.slot_list_pop PySem.F.type_list_pop mt_pop (pv 6)))) (pss_one (ps_expr (pe_bm PySem.F.plainAttrs_list PySem.F.slot_list_append PySem.F.type_list_append mt_append (pv 5) (pa_cons (pv 8) (pa_nil)))))))))) (pss_one (ps_ret (pe_tup (pa_cons (pv 5) (pa_cons (pv 6) (pa_nil)))))))
end
/-! ### lists of lists, written -/
def setN (T : NT) (x y v : Nat) : NT := T.set x ((T.getD x []).set y v)
def rowV (r : List Nat) : List V := r.map fun n : Nat => V.int (n : Int)
theorem rowV_at {r : List Nat} {y : Nat} (h : y < r.length) : (rowV r)[y]? = some (.int (r.getD y 0 : Nat)) := by
  unfold rowV
  simp [List.getD, h]
structure RowsAt (H : Hp) (p : Addr) (qs : List Addr) (T : NT) : Prop where
  top : H p = some (.lst (qs.map V.ref))
  len : qs.length = T.length
  nd : qs.Nodup
  np : p ∉ qs
  at_ : ∀ (i : Nat) (q : Addr) (r : List Nat), qs[i]? = some q → T[i]? = some r → H q = some (.lst (rowV r))
theorem setN_len {T : NT} {x y v : Nat} : (setN T x y v).length = T.length := by simp [setN]
theorem setN_rect {T : NT} {a b x y v : Nat} (h : Rect T a b) (hx : x < a) : Rect (setN T x y v) a b := by
  refine ⟨by rw [setN_len]; exact h.len, fun r hr => ?_, h.r1, h.r5, h.c1, h.c5⟩
  unfold setN at hr
  rcases List.mem_or_eq_of_mem_set hr with e | e
  · exact h.row r e
  · rw [e, List.length_set]
    exact row_len h hx
theorem fnT_setN {T : NT} {a b x y v i j : Nat} (h : Rect T a b) (hx : x < a) (hy : y < b) : fnT (setN T x y v) i j = if i = x ∧ j = y then v else fnT T i j := by
  have hl := h.len
  have hr := row_len h hx
  unfold fnT setN
  by_cases c : i = x
  · subst c
    have e : (T.set i ((T.getD i []).set y v)).getD i [] = (T.getD i []).set y v := by
      rw [List.getD_eq_getElem?_getD, List.getElem?_set_self (by omega)]
      rfl
    rw [e]
    by_cases d : j = y
    · subst d
      rw [if_pos ⟨rfl, rfl⟩, List.getD_eq_getElem?_getD, List.getElem?_set_self (by omega)]
      rfl
    · rw [if_neg fun z => d z.2, List.getD_eq_getElem?_getD, List.getElem?_set_ne (Ne.symm d), ← List.getD_eq_getElem?_getD]
  · rw [if_neg fun z => c z.1, List.getD_eq_getElem?_getD (l := T.set x _), List.getElem?_set_ne (Ne.symm c), ← List.getD_eq_getElem?_getD]
theorem RowsAt.set {H : Hp} {p : Addr} {qs : List Addr} {T : NT} {x y v : Nat} {q : Addr} (h : RowsAt H p qs T) (hx : x < T.length) (hq : qs[x]? = some q) : RowsAt (upd H q (.lst (rowV ((T.getD x []).set y v)))) p qs (setN T x y v) := by
  have hm : q ∈ qs := List.mem_of_getElem? hq
  refine ⟨?_, by rw [setN_len]; exact h.len, h.nd, h.np, fun i q' r h1 h2 => ?_⟩
  · rw [upd_ne fun e => h.np (by rw [e]; exact hm)]
    exact h.top
  · unfold setN at h2
    by_cases c : i = x
    · subst c
      rw [hq] at h1
      cases h1
      rw [List.getElem?_set_self hx] at h2
      cases h2
      exact upd_same
    · have ne : q' ≠ q := fun e => by
        subst e
        obtain ⟨l1, e1⟩ := List.getElem?_eq_some_iff.mp h1
        obtain ⟨l2, e2⟩ := List.getElem?_eq_some_iff.mp hq
        exact c ((List.getElem_inj h.nd).mp (e1.trans e2.symm))
      rw [upd_ne ne]
      rw [List.getElem?_set_ne (Ne.symm c)] at h2
      exact h.at_ i q' r h1 h2
/-- one entry of a list of lists is changed -/
theorem mutR {K : PySem.W.Frag} {D : Ends} {σ : L2.St} {H : Hp} {p : Addr} {qs : List Addr} {T : NT} {a b i j x y v : Nat} {op : Int → Int → Int} (hT : Rect T a b) (R : RowsAt H p qs T) (h5 : σ[5]? = some (some (.ref p))) (hi : σ[i]? = some (some (.int (x : Nat)))) (hj : σ[j]? = some (some (.int (y : Nat)))) (hx : x < a) (hy : y < b)
    (ev : op (fnT T x y : Nat) 1 = (v : Nat)) (k : ∀ q, qs[x]? = some q → RowsAt (upd H q (.lst (rowV ((T.getD x []).set y v)))) p qs (setN T x y v) → D.nx σ (upd H q (.lst (rowV ((T.getD x []).set y v))))) :
    (tAsg (tOp (rI0 fun i j => .int (op i j)) (tOp (rIxL K) (tOp (rIxL K) (tVar 5) (tVar i)) (tVar j)) (tC (.int 1))) (gSub (tOp (rIxL K) (tVar 5) (tVar i)) (tVar j) rSetL)) D σ H := by
  have hl := hT.len
  have hxl : x < qs.length := by have := R.len; omega
  obtain ⟨q, hq⟩ : ∃ q, qs[x]? = some q := ⟨qs[x], by simp [hxl]⟩
  have hr : T[x]? = some (T.getD x []) := by simp [List.getD, show x < T.length by omega]
  have hrow := R.at_ x q _ hq hr
  have hrl := row_len hT hx
  have hat : atI (qs.map V.ref) (x : Int) = some (.ref q) := L2.atI_nat (by rw [List.getElem?_map, hq]; rfl)
  have hat2 : atI (rowV (T.getD x [])) (y : Int) = some (.int (fnT T x y : Nat)) := L2.atI_nat (rowV_at (by omega))
  refine ⟨_, h5, _, hi, p, _, (x : Int), _, rfl, rfl, SqL.of R.top, hat, ?_⟩
  refine ⟨_, hj, q, _, (y : Int), _, rfl, rfl, SqL.of hrow, hat2, ?_⟩
  refine ⟨(fnT T x y : Nat), 1, rfl, rfl, ?_⟩
  refine ⟨_, h5, _, hi, p, _, (x : Int), _, rfl, rfl, SqL.of R.top, hat, ?_⟩
  refine ⟨_, hj, q, _, (y : Int), y, rfl, rfl, hrow, Evl.ixN_nat (by unfold rowV; rw [List.length_map]; omega), ?_⟩
  show D.nx σ (upd H q (HO.lst ((rowV (T.getD x [])).set y (V.int (op (fnT T x y : Nat) 1)))))
  rw [ev]
  have es : (rowV (T.getD x [])).set y (.int (v : Nat)) = rowV ((T.getD x []).set y v) := by
    unfold rowV
    rw [List.map_set]
  rw [es]
  exact k q hq (R.set (by omega) hq)
/-- a list of new lists, a row each -/
theorem lc_rows {K : PySem.W.Frag} {av : Addr → Prop} {H : Hp} {σ : L2.St} {ss : List Slot} {T : NT} {i0 j : Nat} (h0 : ss[i0]? = some (.d (tabN T))) (hj : j < ss.length) (hz : T.length ≤ 1000) (l : Live av H) (f0 : Fits av H σ ss) {Q : VK}
    (q : ∀ p H2 qs, Ex H H2 → H p = none → (∀ x ∈ qs, H x = none) → RowsAt H2 p qs T → Q (.ref p) H2) :
    (tLc (iTup K (tVar i0)) (gName j) tYes (tCB (rListOf K) (tCons (tVar j) tNil)) [j]) σ H Q := by
  refine wk_tup (K := K) (tl := tVar i0) (ss := ss) (ds := T.map rowN) (ep_var h0) av H σ l f0 _ fun J H1 e1 ok => fun D hD => ?_
  have hD0 : H D = none := Evl.fresh_back e1 hD
  refine ⟨fun i m H' => m = T.length - i ∧ i ≤ T.length ∧ Ex H1 H' ∧ ∃ qs, (∀ x ∈ qs, H1 x = none) ∧ RowsAt H' D qs (T.take i), ⟨T.length, by simp, Nat.zero_le _, Ex.new hD, [], by simp, ⟨upd_same, by simp, by simp, by simp, fun i q r h1 h2 => by simp at h1⟩⟩, ?_⟩
  rintro i m H' ⟨rfl, hi, e', qs, fr, R⟩
  have hacc := R.top
  have mv : Mv av H1 (fun a => av a ∨ a = D) H' := .avoid e' hD
  have lv : Live (fun a => av a ∨ a = D) H' := fun a z => by
    rcases z with z | z
    · exact ((l.ex e1).ex e') a z
    · exact ⟨_, by rw [z]; exact hacc⟩
  have fv : Fits (fun a => av a ∨ a = D) H' σ ss := (f0.ex e1).avoid e' hD
  by_cases hlt : i < T.length
  · refine .inr ⟨ok.go i H' _ mv (by simpa using hlt), fun H2 => i + 1 ≤ T.length ∧ Ex H1 H2 ∧ ∃ qs, (∀ x ∈ qs, H1 x = none) ∧ RowsAt H2 D qs (T.take (i + 1)), fun H2 z => ⟨T.length - (i + 1), by omega, rfl, z⟩, fun x H'' y => ?_⟩
    have hget : T[i]? = some T[i] := by simp [hlt]
    have hget' : (T.map rowN)[i]? = some (rowN T[i]) := by simp [hlt]
    obtain ⟨e2, r⟩ := ok.yld i H' x H'' _ _ mv lv hget' y
    have tk : T.take (i + 1) = T.take i ++ [T[i]] := by rw [List.take_succ, hget]; rfl
    refine (tc_name (j := j) (d := rowN T[i])) _ H'' σ ss x ((fv.ex e2).wipe [j]) r _ fun σ3 f3 hw3 => ⟨hw3, ?_⟩
    show (tCB (rListOf K) (tCons (tVar j) tNil)) σ3 H'' _
    have hjj : ((wipeS ss [j]).set j (.d (rowN T[i])))[j]? = some (.d (rowN T[i])) := by
      rw [List.getElem?_set_self]
      show j < (ss.set j .non).length
      rw [List.length_set]
      exact hj
    obtain ⟨v, ev, rv⟩ := f3.data hjj
    refine ⟨v, ev, ?_⟩
    have rv' : Da (fun a => av a ∨ a = D) H'' (.tuple (T[i].map natD)) v := rv
    simp only [Da] at rv'
    obtain ⟨ar, us, rfl, hu, du⟩ := rv'
    have eu : us = rowV T[i] := by
      have e3 : T[i].map natD = (T[i].map fun n : Nat => (n : Int)).map PyData.int := by rw [List.map_map]; rfl
      rw [e3] at du
      rw [du.ints_eq, List.map_map]
      rfl
    subst eu
    refine ⟨ar, _, rfl, .inr hu.sq, fun nl hnl => ?_⟩
    have hnD : nl ≠ D := fun z => by rw [z, e2 D _ hacc] at hnl; cases hnl
    have e04 : Ex H' (upd H'' nl (.lst (rowV T[i]))) := e2.trans (Ex.new hnl)
    have hn1 : H1 nl = none := Evl.fresh_back (e'.trans e2) hnl
    have hnq : nl ∉ qs := fun z => by
      obtain ⟨ix, hix⟩ := List.mem_iff_getElem?.mp z
      have hl1 := (List.getElem?_eq_some_iff.mp hix).1
      have hl2 : ix < (T.take i).length := by have := R.len; omega
      have := R.at_ ix nl _ hix (List.getElem?_eq_getElem hl2)
      rw [e2 nl _ this] at hnl
      cases hnl
    refine ⟨qs.map V.ref, e04 D _ hacc, Evl.sz_lt (by rw [List.length_map, R.len, List.length_take]; omega), hlt, ?_, qs ++ [nl], ?_, ?_⟩
    · exact (e'.trans e04).mut hD
    · intro z hz
      rcases List.mem_append.mp hz with w | w
      · exact fr z w
      · rw [List.mem_singleton.mp w]
        exact hn1
    · refine ⟨by rw [upd_same, List.map_append]; rfl, by rw [tk, List.length_append, List.length_append, R.len]; rfl, List.nodup_append.mpr ⟨R.nd, by simp, fun z hz w hw => by rw [List.mem_singleton.mp hw]; exact fun e => hnq (e ▸ hz)⟩, fun z => ?_, fun ix q' r' h1 h2 => ?_⟩
      · rcases List.mem_append.mp z with w | w
        · exact R.np w
        · exact hnD (List.mem_singleton.mp w).symm
      · have hq' : q' ≠ D := fun e => by
          subst e
          rcases List.mem_append.mp (List.mem_of_getElem? h1) with w | w
          · exact R.np w
          · exact hnD (List.mem_singleton.mp w).symm
        rw [upd_ne hq']
        by_cases c : ix < qs.length
        · rw [List.getElem?_append_left c] at h1
          rw [tk, List.getElem?_append_left (by rw [← R.len]; exact c)] at h2
          exact e04 q' _ (R.at_ ix q' r' h1 h2)
        · have hix : ix = qs.length := by
            have := (List.getElem?_eq_some_iff.mp h1).1
            rw [List.length_append, List.length_singleton] at this
            omega
          subst hix
          rw [List.getElem?_append_right (Nat.le_refl _), Nat.sub_self] at h1
          rw [tk, R.len, List.getElem?_append_right (Nat.le_refl _), Nat.sub_self] at h2
          cases h1
          cases h2
          exact upd_same
  · have e : i = T.length := by omega
    subst e
    refine .inl ⟨ok.stop _ H' _ mv (by simp), ?_⟩
    rw [List.take_length] at R
    exact q D H' qs (e1.trans e') hD0 (fun x hx => Evl.fresh_back e1 (fr x hx)) R
/-! l_moved -/
def R_l_moved (ds : List PyData) (r : PyData) : Prop := ∃ (T : NT) (ac : Bool) (a b lo k : Nat) (g : Int), ds = [tabN T, .int g, .int (lo : Nat), .int (k : Nat), .bool ac] ∧ g = lo + 1 ∧ Rect T a b ∧ (lo + 1 < if ac then b else a) ∧ (k < if ac then a else b) ∧ 1 ≤ loE ac T (lo + 1) k ∧
  r = tabN (tab a b (if ac then mvB lo k (fnT T) else mvF lo k (fnT T)))
def sp_l_moved (K : PySem.W.Frag) : Sp := SpP R_l_moved
def t_l_moved (K : PySem.W.Frag) : TS := tSeq (tAsg (tLc (iTup K (tVar 0)) (gName 6) (tYes) (tCB (rListOf K) (tCons (tVar 6) (tNil))) [6]) (gName 5)) (tSeq (tIfS (tB (tVar 4)) (tSeq (tAsg (tOp (rI0 fun i j => .int (i - j)) (tOp (rIxL K) (tOp (rIxL K) (tVar 5) (tVar 3)) (tVar 1)) (tC (.int 1))) (gSub (tOp (rIxL K) (tVar 5) (tVar 3)) (tVar 1) rSetL)) (tAsg (tOp (rI0 fun i j => .int (i + j)) (tOp (rIxL K) (tOp (rIxL K) (tVar 5) (tVar 3)) (tVar 2)) (tC (.int 1))) (gSub (tOp (rIxL K) (tVar 5) (tVar 3)) (tVar 2) rSetL))) (tSeq (tAsg (tOp (rI0 fun i j => .int (i - j)) (tOp (rIxL K) (tOp (rIxL K) (tVar 5) (tVar 1)) (tVar 3)) (tC (.int 1))) (gSub (tOp (rIxL K) (tVar 5) (tVar 1)) (tVar 3) rSetL)) (tAsg (tOp (rI0 fun i j => .int (i + j)) (tOp (rIxL K) (tOp (rIxL K) (tVar 5) (tVar 2)) (tVar 3)) (tC (.int 1))) (gSub (tOp (rIxL K) (tVar 5) (tVar 2)) (tVar 3) rSetL)))) (tRet (tCB (rTupleOf K) (tCons (tLc (iList K (tVar 5)) (gName 6) (tYes) (tCB (rTupleOf K) (tCons (tVar 6) (tNil))) [6]) (tNil)))))
theorem len_l_moved {K : PySem.W.Frag} {vs : List V} {H : Hp} {Q : VK} {E : XK} (h : sp_l_moved K vs H Q E) : vs.length = 5 := spP_len h fun ds r ⟨_, _, _, _, _, _, _, e, _⟩ => by rw [e]; rfl
theorem run_l_moved (K : PySem.W.Frag) (W : Wd) (n : Nat) (ds : List PyData) (r : PyData) (h : R_l_moved ds r) : RunS W (t_l_moved K) n (ds.map Slot.d ++ List.replicate (7 - ds.length) .non) (fun o => o = .rt n r) := by
  obtain ⟨TT, ac, a, b, lo, k, gg, rfl, rfl, hT, hlo, hk, hp, rfl⟩ := h
  have hr5 := hT.r5
  have hl := hT.len
  intro D H σ s G
  show (tLc (iTup K (tVar 0)) (gName 6) tYes (tCB (rListOf K) (tCons (tVar 6) tNil)) [6]) σ H fun x H1 => gName 5 x σ H1 _
  refine lc_rows (T := TT) (i0 := 0) (j := 6) (ss := [.d (tabN TT), .d (.int ((lo : Int) + 1)), .d (.int (lo : Nat)), .d (.int (k : Nat)), .d (.bool ac), .non, .non]) rfl (by simp) (by omega) s.live s.fits fun p H2 qs e hp0 fr R => ?_
  have s2 := s.ext e
  obtain ⟨o0, f0⟩ := s.fits.data (i := 0) rfl
  have hg : ∀ {i : Nat} {z : Int}, ([Slot.d (tabN TT), .d (.int ((lo : Int) + 1)), .d (.int (lo : Nat)), .d (.int (k : Nat)), .d (.bool ac), .non, .non] : List Slot)[i]? = some (.d (.int z)) → σ[i]? = some (some (.int z)) := fun {i z} h => by
    obtain ⟨v, e1, e2⟩ := s.fits.data h
    have : v = .int z := by simpa [Da] using e2
    rw [e1, this]
  have hlen : 5 < σ.length := by
    rw [s.fits.len]
    simp
  have h5 : (σ.set 5 (some (.ref p)))[5]? = some (some (.ref p)) := by simp [hlen]
  have hk3 : (σ.set 5 (some (.ref p)))[3]? = some (some (.int (k : Nat))) := by
    rw [List.getElem?_set_ne (by decide)]
    exact hg rfl
  have hk1 : (σ.set 5 (some (.ref p)))[1]? = some (some (.int ((lo + 1 : Nat) : Int))) := by
    rw [List.getElem?_set_ne (by decide)]
    exact hg rfl
  have hk2 : (σ.set 5 (some (.ref p)))[2]? = some (some (.int (lo : Nat))) := by
    rw [List.getElem?_set_ne (by decide)]
    exact hg rfl
  -- the end: the lists of lists are a value
  have fin : ∀ (U : NT) (H4 : Hp), Rect U a b → Ex H H4 → RowsAt H4 p qs U → U = tab a b (if ac then mvB lo k (fnT TT) else mvF lo k (fnT TT)) →
      (tRet (tCB (rTupleOf K) (tCons (tLc (iList K (tVar 5)) (gName 6) (tYes) (tCB (rTupleOf K) (tCons (tVar 6) (tNil))) [6]) (tNil)))) D (σ.set 5 (some (.ref p))) H4 := fun U H4 hU e4 R4 eU => by
    have s4 := s.ext e4
    have dR : Da (avd W (owns ([Slot.d (tabN TT), .d (.int ((lo : Int) + 1)), .d (.int (lo : Nat)), .d (.int (k : Nat)), .d (.bool ac), .non, .non] : List Slot))) H4 (.list (U.map fun r => .list (r.map natD))) (.ref p) := by
      have nav : ∀ x, H x = none → ¬ avd W (owns ([Slot.d (tabN TT), .d (.int ((lo : Int) + 1)), .d (.int (lo : Nat)), .d (.int (k : Nat)), .d (.bool ac), .non, .non] : List Slot)) x := fun x hx z => s.live.no hx z
      simp only [Da]
      refine ⟨p, qs.map V.ref, rfl, nav p hp0, R4.top, ?_⟩
      have recD : ∀ (qs' : List Addr) (U' : NT), qs'.length = U'.length → (∀ x ∈ qs', H x = none) → (∀ (i : Nat) (q : Addr) (r : List Nat), qs'[i]? = some q → U'[i]? = some r → H4 q = some (.lst (rowV r))) →
          DaL (avd W (owns ([Slot.d (tabN TT), .d (.int ((lo : Int) + 1)), .d (.int (lo : Nat)), .d (.int (k : Nat)), .d (.bool ac), .non, .non] : List Slot))) H4 (U'.map fun r => .list (r.map natD)) (qs'.map V.ref) := by
        intro qs'
        induction qs' with
        | nil =>
          intro U' hl' _ _
          cases U' with
          | nil => simp [DaL]
          | cons _ _ => simp at hl'
        | cons q qs' ih =>
          intro U' hl' hf ha
          cases U' with
          | nil => simp at hl'
          | cons r U' =>
            show DaL _ H4 (.list (r.map natD) :: _) (V.ref q :: _)
            simp only [DaL]
            refine ⟨?_, ih U' (by simpa using hl') (fun x hx => hf x (List.mem_cons_of_mem _ hx)) fun i q' r' h1 h2 => ha (i + 1) q' r' (by simpa using h1) (by simpa using h2)⟩
            simp only [Da]
            refine ⟨q, rowV r, rfl, nav q (hf q (by simp)), ha 0 q r rfl rfl, ?_⟩
            have e3 : r.map natD = (r.map fun n : Nat => (n : Int)).map PyData.int := by rw [List.map_map]; rfl
            have e4 : rowV r = (r.map fun n : Nat => (n : Int)).map V.int := by unfold rowV; rw [List.map_map]; rfl
            rw [e3, e4]
            exact DaL.ints
      exact recD qs U R4.len fr R4.at_
    have s5 := s4.set (i := 5) dR
    have hU5 : U.length ≤ 5 := by have := hU.len; omega
    refine (rs_ret (W := W) (n := n) (P := fun o => o = .rt n (tabN (tab a b (if ac then mvB lo k (fnT TT) else mvF lo k (fnT TT))))) (d := tabN U) (ep_cb (ea_cons (EvF.p (ef_map (xs := U) (enc := fun r => .list (r.map natD)) (f := fun r ss => ss.set 6 (.d (.list (r.map natD)))) rowN (wk_list (ep_var rfl)) (by omega) (fun _ _ => tc_name)
      fun r _ => ep_cb (ea_cons (ep_var rfl) ea_nil) ca_tuple)) ea_nil) ca_tuple) (by rw [eU])) D H4 _ s5 (G.later (.of_ex e4) fun q hq => ?_)
    have hq' : q ∈ ([] : List Addr) := hq
    cases hq'
  have R2 := R
  have keepE : ∀ {H3 : Hp} {q : Addr} {o : HO}, Ex H H3 → q ∈ qs → Ex H (upd H3 q o) := fun {H3 q o} e3 hq a oo ha => by
    rw [upd_ne fun z => by rw [z, fr q hq] at ha; cases ha]
    exact e3 a oo ha
  show (tIfS (tB (tVar 4)) _ _) { D with nx := _ } (σ.set 5 (some (.ref p))) H2
  have hac : (σ.set 5 (some (.ref p)))[4]? = some (some (.bl ac)) := by
    rw [List.getElem?_set_ne (by decide)]
    obtain ⟨v, e1, e2⟩ := s.fits.data (i := 4) (x := .bool ac) rfl
    have : v = .bl ac := by simpa [Da] using e2
    rw [e1, this]
  refine ⟨_, hac, ac, rfl, ?_⟩
  cases ac with
  | true =>
    have hp' : 1 ≤ fnT TT k (lo + 1) := hp
    have hlo' : lo + 1 < b := hlo
    have hk' : k < a := hk
    refine mutR (op := fun i j => i - j) (v := fnT TT k (lo + 1) - 1) hT R h5 hk3 hk1 hk' hlo' (by show _ - _ = _; omega) fun q hq R1 => ?_
    have hT1 := setN_rect (x := k) (y := lo + 1) (v := fnT TT k (lo + 1) - 1) hT hk'
    refine mutR (op := fun i j => i + j) (v := fnT (setN TT k (lo + 1) (fnT TT k (lo + 1) - 1)) k lo + 1) hT1 R1 h5 hk3 hk2 hk' (by omega) (by show _ + _ = _; omega) fun q2 hq2 R2 => ?_
    refine fin _ _ (setN_rect hT1 hk') (keepE (keepE e (List.mem_of_getElem? hq)) (List.mem_of_getElem? hq2)) R2 (fnT_congr (setN_rect hT1 hk') fun i j hi hj => ?_)
    rw [fnT_setN hT1 hk' (by omega), fnT_setN hT hk' hlo', fnT_setN hT hk' hlo']
    show _ = mvB lo k (fnT TT) i j
    unfold mvB
    by_cases c1 : i = k
    · subst c1
      by_cases c2 : j = lo
      · subst c2
        simp
      · by_cases c3 : j = lo + 1
        · subst c3
          simp
        · simp [c2, c3]
    · simp [c1]
  | false =>
    have hp' : 1 ≤ fnT TT (lo + 1) k := hp
    have hlo' : lo + 1 < a := hlo
    have hk' : k < b := hk
    refine mutR (op := fun i j => i - j) (v := fnT TT (lo + 1) k - 1) hT R h5 hk1 hk3 hlo' hk' (by show _ - _ = _; omega) fun q hq R1 => ?_
    have hT1 := setN_rect (x := lo + 1) (y := k) (v := fnT TT (lo + 1) k - 1) hT hlo'
    refine mutR (op := fun i j => i + j) (v := fnT (setN TT (lo + 1) k (fnT TT (lo + 1) k - 1)) lo k + 1) hT1 R1 h5 hk2 hk3 (by omega) hk' (by show _ + _ = _; omega) fun q2 hq2 R2 => ?_
    refine fin _ _ (setN_rect hT1 (by omega)) (keepE (keepE e (List.mem_of_getElem? hq)) (List.mem_of_getElem? hq2)) R2 (fnT_congr (setN_rect hT1 (by omega)) fun i j hi hj => ?_)
    rw [fnT_setN hT1 (by omega) hk', fnT_setN hT hlo' hk', fnT_setN hT hlo' hk']
    show _ = mvF lo k (fnT TT) i j
    unfold mvF
    by_cases c1 : j = k
    · subst c1
      by_cases c2 : i = lo
      · subst c2
        simp
      · by_cases c3 : i = lo + 1
        · subst c3
          simp
        · simp [c2, c3]
    · simp [c1]
theorem pure_l_moved {K : PySem.W.Frag} {vs : List V} {H : Hp} {Q : VK} {E : XK} (h : sp_l_moved K vs H Q E) : t_l_moved K { nx := fun _ H' => Q .non H', rt := Q } (L2.start ["_law_table_here", "_law_giver", "_law_taker", "_law_k", "_law_across", "_law_rows", "_law_row"] vs) H := pure_of h fun W n ds r hr => run_l_moved K W n ds r hr
section
variable {P : Program} {w : World} {K : PySem.W.Frag} {mg : Str → Option Value} {base : Heap}
abbrev N_l_moved : List Str := ["_law_table_here", "_law_giver", "_law_taker", "_law_k", "_law_across", "_law_rows", "_law_row"]
theorem sc_l_moved : FnScope N_l_moved ["_law_table_here", "_law_giver", "_law_taker", "_law_k", "_law_across"] (defScope s_l_moved) := ⟨rfl, rfl, rfl, by decide +kernel, rfl, by decide +kernel, by decide +kernel⟩
theorem ok_l_moved (T : Tx K mg) : ∃ fd, FnOk P w K mg base CX0 1 (He.ga K "_law_moved") fd ["_law_table_here", "_law_giver", "_law_taker", "_law_k", "_law_across"] (sp_l_moved K) ∧ Binds K fd ["_law_table_here", "_law_giver", "_law_taker", "_law_k", "_law_across"] [] := by
  have nd := sc_l_moved.nd
  obtain ⟨fd, F⟩ := T.d_l_moved
  refine ⟨fd, FunD.ok F sc_l_moved (fun vs H Q E h => len_l_moved h) (fun cdv A outer s H vs Q E hr h => ⟨t_l_moved K, PSs.nox ?_, pure_l_moved h⟩), F.bindsN fun _ _ _ _ _ _ us hl => match us, hl with | [_, _, _, _, _], _ => rfl⟩
  exact pss_cons (ps_setLc (i := 5) (own := [(("_law_row" : Str), 6)]) rfl nd rfl rfl (sw_true rfl rfl rfl (by decide +kernel)) (pi_tup (pv 0)) (blkOk_by (N := N_l_moved) (sc := defScope s_l_moved) (by decide +kernel)) (fun _ _ _ _ _ => pg_name (i := 6) nd rfl (Or.inl rfl)) (fun _ _ _ _ _ => pts_nil) (fun _ _ _ _ _ => pe_callTy call_list_of (by rfl) T.f_list (by decide +kernel) (pa_cons (pv 6) (pa_nil)))) (pss_cons (ps_if (pt_val (pv 4)) (pss_cons (ps_asg (pe_op op_sub (pe_ix ix_list (pe_ix ix_list (pv 5) (pv 3) (fun _ _ => rfl)) (pv 1) (fun _ _ => rfl)) (pe_int)) (pg_sub (pe_ix ix_list (pv 5) (pv 3) (fun _ _ => rfl)) (pv 1) set_list)) (pss_one (ps_asg (pe_op op_add (pe_ix ix_list (pe_ix ix_list (pv 5) (pv 3) (fun _ _ => rfl)) (pv 2) (fun _ _ => rfl)) (pe_int)) (pg_sub (pe_ix ix_list (pv 5) (pv 3) (fun _ _ => rfl)) (pv 2) set_list)))) (pss_cons (ps_asg (pe_op op_sub (pe_ix ix_list (pe_ix ix_list (pv 5) (pv 1) (fun _ _ => rfl)) (pv 3) (fun _ _ => rfl)) (pe_int)) (pg_sub (pe_ix ix_list (pv 5) (pv 1) (fun _ _ => rfl)) (pv 3) set_list)) (pss_one (ps_asg (pe_op op_add (pe_ix ix_list (pe_ix ix_list (pv 5) (pv 2) (fun _ _ => rfl)) (pv 3) (fun _ _ => rfl)) (pe_int)) (pg_sub (pe_ix ix_list (pv 5) (pv 2) (fun _ _ => rfl)) (pv 3) set_list))))) (pss_one (ps_ret (pe_callTy call_tuple_of (by rfl) T.f_tuple (by decide +kernel) (pa_cons (pe_lc (own := [(("_law_row" : Str), 6)]) rfl nd (pi_list (pv 5)) (blkOk_by (N := N_l_moved) (sc := defScope s_l_moved) (by decide +kernel)) (fun _ _ _ _ _ => pg_name (i := 6) nd rfl (Or.inl rfl)) (fun _ _ _ _ _ => pts_nil) (fun _ _ _ _ _ => pe_callTy call_tuple_of (by rfl) T.f_tuple (by decide +kernel) (pa_cons (pv 6) (pa_nil)))) (pa_nil))))))
end
end Uh

set_option Elab.async false
set_option linter.all false
set_option maxRecDepth 100000
set_option maxHeartbeats 400000
namespace Uh
open PySem PySem.Spec PyProof.Rows L2
open Evl (Ex)
local macro_rules | `(tactic| walk_at "ev") => `(tactic| repeat (first
  | with_reducible exact ep_var rfl | with_reducible exact ep_int | with_reducible exact ep_bl | with_reducible exact ep_non | with_reducible exact ep_str
  | with_reducible exact ea_nil | with_reducible apply ea_cons | with_reducible apply ep_tupG | with_reducible apply ef_lstG | with_reducible exact et_yes
  | with_reducible apply ca_isiG | with_reducible exact kit_tuple _ | with_reducible exact kit_int _ | with_reducible exact kit_bool _ | with_reducible exact kit_str _
  | with_reducible apply et_test | with_reducible apply et_b | with_reducible apply et_not | with_reducible apply et_orG | with_reducible apply et_andG
  | with_reducible apply ep_orG | with_reducible apply ep_andG | with_reducible apply ep_notV | with_reducible apply ep_chainG
  | with_reducible apply ep_inG | with_reducible apply ep_op | with_reducible apply ep_un | with_reducible apply ep_cb
  | with_reducible exact od_i | with_reducible exact od_b | with_reducible exact od_eqI | with_reducible exact od_neI | with_reducible exact od_eqS | with_reducible exact od_eqB | with_reducible exact od_isN | with_reducible exact od_notN | with_reducible exact ud_i
  | with_reducible exact od_ixT at3_0 | with_reducible exact od_ixT at3_1 | with_reducible exact od_ixT at3_2 | with_reducible exact od_ixT at2_0 | with_reducible exact od_ixT at2_1 | with_reducible exact od_ixT at1_0
  | with_reducible apply od_catA | (with_reducible show _ + _ ≤ 100000; first | omega | (simp; done) | (simp; omega))
  | with_reducible exact ca_lenT | with_reducible exact ca_lenL
  | exact (show allS _ = true from rfl) | exact (show Nat.ble _ 100000 = true from rfl)))
theorem at_last {α : Type} {xs : List α} {x : α} (h : xs.getLast? = some x) : atI xs (-1) = some x := by
  have hne : xs ≠ [] := fun z => by rw [z] at h; cases h
  have hl := List.length_pos_iff.mpr hne
  unfold atI
  have e : ixN xs.length (-1) = some (xs.length - 1) := by
    unfold ixN
    have : ¬ ((0 : Int) ≤ -1) := by decide
    simp
    omega
  rw [e]
  rw [List.getLast?_eq_getElem?] at h
  exact h
/-- a step of the names, or of the columns -/
def stepT (sg ac : Bool) (a b lo : Nat) (T : NT) : Option NT := if ac then stB sg a b lo T else stA sg a b lo T
theorem stepT_eq {sg ac : Bool} {a b lo : Nat} {T : NT} (hlo : lo + 1 < if ac then b else a) : stepT sg ac a b lo T = (lf (gS sg ac T lo) (kS sg ac a b) 0).map fun k => tab a b (if ac then mvB lo k (fnT T) else mvF lo k (fnT T)) := by
  unfold stepT stA stB gS kS
  cases ac with
  | true =>
    have h : lo + 1 < b := hlo
    simp [h]
  | false =>
    have h : lo + 1 < a := hlo
    simp [h]
/-! l_step -/
def R_l_step (ds : List PyData) (r : PyData) : Prop := ∃ (T : NT) (sg ac : Bool) (a b lo : Nat), ds = [tabN T, .int ((lo : Int) + 1), .int (lo : Nat), .bool ac, .bool sg] ∧ Good sg T a b ∧ (lo + 1 < if ac then b else a) ∧ r = optN (stepT sg ac a b lo T)
def sp_l_step (K : PySem.W.Frag) : Sp := SpP R_l_step
def t_l_step (K : PySem.W.Frag) : TS := tSeq (tAsg (tCall (sp_l_loose K) [] E0 (tCons (tVar 0) (tCons (tCB (rMin) (tCons (tVar 1) (tCons (tVar 2) (tNil)))) (tCons (tCB (rMax) (tCons (tVar 1) (tCons (tVar 2) (tNil)))) (tCons (tVar 3) (tCons (tVar 4) (tNil))))))) (gTup K 2 (gCons (gName 5) (gCons (gName 6) (gNil))))) (tSeq (tIfS (tTest (tOp (rI0 fun i j => .bl (decide (i < j))) (tVar 1) (tVar 2))) (tRet (tIf (tTest (tOp (rNeD K) (tVar 6) (tLst (tNil)))) (tCall (sp_l_moved K) [] E0 (tCons (tVar 0) (tCons (tVar 1) (tCons (tVar 2) (tCons (tOp (rIxL K) (tVar 6) (tC (.int 0))) (tCons (tVar 3) (tNil))))))) (tC .non))) (tNext)) (tRet (tIf (tTest (tOp (rNeD K) (tVar 5) (tLst (tNil)))) (tCall (sp_l_moved K) [] E0 (tCons (tVar 0) (tCons (tVar 1) (tCons (tVar 2) (tCons (tOp (rIxL K) (tVar 5) (tUn (rU fun i => .int (-i)) (tC (.int 1)))) (tCons (tVar 3) (tNil))))))) (tC .non))))
theorem len_l_step {K : PySem.W.Frag} {vs : List V} {H : Hp} {Q : VK} {E : XK} (h : sp_l_step K vs H Q E) : vs.length = 5 := spP_len h fun ds r ⟨_, _, _, _, _, _, e, _⟩ => by rw [e]; rfl
theorem run_l_step (K : PySem.W.Frag) (W : Wd) (n : Nat) (ds : List PyData) (r : PyData) (h : R_l_step ds r) : RunS W (t_l_step K) n (ds.map Slot.d ++ List.replicate (7 - ds.length) .non) (fun o => o = .rt n r) := by
  obtain ⟨TT, sg, ac, a, b, lo, rfl, g, hlo, rfl⟩ := h
  have hloose := scan_lf (g := gS sg ac TT lo) (ks := kS sg ac a b)
  rw [stepT_eq hlo]
  have hcall : EvP (tCall (sp_l_loose K) [] E0 (tCons (tVar 0) (tCons (tCB (rMin) (tCons (tVar 1) (tCons (tVar 2) (tNil)))) (tCons (tCB (rMax) (tCons (tVar 1) (tCons (tVar 2) (tNil)))) (tCons (tVar 3) (tCons (tVar 4) (tNil))))))) [.d (tabN TT), .d (.int ((lo : Int) + 1)), .d (.int (lo : Nat)), .d (.bool ac), .d (.bool sg), .non, .non]
      (.tuple [.list ((scanB (spotsL (gS sg ac TT lo) (kS sg ac a b))).1.map natD), .list ((scanB (spotsL (gS sg ac TT lo) (kS sg ac a b))).2.map natD)]) :=
    ep_call (ea_cons (ep_var rfl) (ea_cons (ep_is (y := .int (lo : Nat)) (ep_cb (by walk_at "ev") ca_min) (by rw [Int.min_eq_right (by omega)])) (ea_cons (ep_is (y := .int ((lo : Int) + 1)) (ep_cb (by walk_at "ev") ca_max) (by rw [Int.max_eq_left (by omega)])) (by walk_at "ev")))) ⟨TT, sg, ac, a, b, lo, rfl, g, hlo, rfl⟩
  refine rs_seq (rs_asgT hcall tg_two ?_)
  generalize hsh : (scanB (spotsL (gS sg ac TT lo) (kS sg ac a b))).1 = sh at *
  generalize (scanB (spotsL (gS sg ac TT lo) (kS sg ac a b))).2 = lft at *
  refine sf (et_is (et_test (ep_op (ep_var rfl) (ep_var rfl) od_b)) (decide_eq_false (by omega))) ?_
  cases hz : lf (gS sg ac TT lo) (kS sg ac a b) 0 with
  | none =>
    rw [hz] at hloose
    have hn : sh = [] := List.getLast?_eq_none_iff.mp hloose
    subst hn
    exact rs_ret (ep_ifF (et_is (ne_nilN (ep_var rfl)) rfl) ep_non) rfl
  | some k =>
    rw [hz] at hloose
    obtain ⟨hk, hp⟩ := lf_some hz
    have hne : sh ≠ [] := fun z => by rw [z] at hloose; cases hloose
    have hp1 : 1 ≤ loE ac TT (lo + 1) k := by
      rw [gS_eq] at hp
      unfold bet at hp
      cases sg with
      | false => exact hp
      | true =>
        have : 0 < loE ac TT (lo + 1) k - loE ac TT lo k := hp
        omega
    refine rs_ret (ep_ifT (et_is (ne_nilN (ep_var rfl)) (by cases sh with | nil => exact absurd rfl hne | cons _ _ => rfl)) (ep_call (ea_cons (ep_var rfl) (ea_cons (ep_var rfl) (ea_cons (ep_var rfl) (ea_cons (ep_op (ep_var rfl) (ep_un ep_int ud_i) (od_ixL (z := natD k) (at_last ?_))) (ea_cons (ep_var rfl) ea_nil)))))
      ⟨TT, ac, a, b, lo, k, _, rfl, rfl, g.rect, hlo, kS_lt hk, hp1, rfl⟩)) rfl
    rw [List.getLast?_map, hloose]
    rfl
theorem pure_l_step {K : PySem.W.Frag} {vs : List V} {H : Hp} {Q : VK} {E : XK} (h : sp_l_step K vs H Q E) : t_l_step K { nx := fun _ H' => Q .non H', rt := Q } (L2.start ["_law_table_here", "_law_giver", "_law_taker", "_law_across", "_law_signed", "_law_shut", "_law_left"] vs) H := pure_of h fun W n ds r hr => run_l_step K W n ds r hr
section
variable {P : Program} {w : World} {K : PySem.W.Frag} {mg : Str → Option Value} {base : Heap}
abbrev N_l_step : List Str := ["_law_table_here", "_law_giver", "_law_taker", "_law_across", "_law_signed", "_law_shut", "_law_left"]
theorem sc_l_step : FnScope N_l_step ["_law_table_here", "_law_giver", "_law_taker", "_law_across", "_law_signed"] (defScope s_l_step) := ⟨rfl, rfl, rfl, by decide +kernel, rfl, by decide +kernel, by decide +kernel⟩
theorem ok_l_step (T : Tx K mg) : ∃ fd, FnOk P w K mg base CX0 3 (He.ga K "_law_step") fd ["_law_table_here", "_law_giver", "_law_taker", "_law_across", "_law_signed"] (sp_l_step K) ∧ Binds K fd ["_law_table_here", "_law_giver", "_law_taker", "_law_across", "_law_signed"] [] := by
  have nd := sc_l_step.nd
  obtain ⟨_, G_l_moved, b_l_moved⟩ := ok_l_moved (P := P) (w := w) (base := base) T
  obtain ⟨_, G_l_loose, b_l_loose⟩ := ok_l_loose (P := P) (w := w) (base := base) T
  obtain ⟨fd, F⟩ := T.d_l_step
  refine ⟨fd, FunD.ok F sc_l_step (fun vs H Q E h => len_l_step h) (fun cdv A outer s H vs Q E hr h => ⟨t_l_step K, PSs.nox ?_, pure_l_step h⟩), F.bindsN fun _ _ _ _ _ _ us hl => match us, hl with | [_, _, _, _, _], _ => rfl⟩
  exact pss_cons (ps_asg (pe_call G_l_loose (hr.mono (by omega)) rfl T.g_l_loose T.k_l_loose b_l_loose .nil pass0 (pa_cons (pv 0) (pa_cons (pe_callB (call_min2 rfl) (by rfl) T.f_min (by decide +kernel) (pa_cons (pv 1) (pa_cons (pv 2) (pa_nil)))) (pa_cons (pe_callB (call_max2 rfl) (by rfl) T.f_max (by decide +kernel) (pa_cons (pv 1) (pa_cons (pv 2) (pa_nil)))) (pa_cons (pv 3) (pa_cons (pv 4) (pa_nil))))))) (pg_tup rfl (pgs_cons (pg_name (i := 5) nd rfl (Or.inl rfl)) (pgs_cons (pg_name (i := 6) nd rfl (Or.inl rfl)) (pgs_nil))))) (pss_cons (ps_if (pt_cmpR op_lt (pv 1) (pv 2) (nomark _)) (pss_one (ps_ret (pe_ifExp (pt_cmpR (op_neD hr.units) (pv 6) (pe_lst (pa_nil)) (nomark _)) (pe_call G_l_moved (hr.mono (by omega)) rfl T.g_l_moved T.k_l_moved b_l_moved .nil pass0 (pa_cons (pv 0) (pa_cons (pv 1) (pa_cons (pv 2) (pa_cons (pe_ix ix_list (pv 6) (pe_int) (fun _ _ => rfl)) (pa_cons (pv 3) (pa_nil))))))) (pe_non)))) (pss_nil)) (pss_one (ps_ret (pe_ifExp (pt_cmpR (op_neD hr.units) (pv 5) (pe_lst (pa_nil)) (nomark _)) (pe_call G_l_moved (hr.mono (by omega)) rfl T.g_l_moved T.k_l_moved b_l_moved .nil pass0 (pa_cons (pv 0) (pa_cons (pv 1) (pa_cons (pv 2) (pa_cons (pe_ix ix_list (pv 5) (pe_un un_neg (pe_int)) (fun _ _ => rfl)) (pa_cons (pv 3) (pa_nil))))))) (pe_non)))))
end
def backO (sg : Bool) (a b : Nat) (al ac : Bool) (T : NT) : List (Option NT) := (if al then (List.range (a - 1)).map fun lo => stA sg a b lo T else []) ++ (if ac then (List.range (b - 1)).map fun lo => stB sg a b lo T else [])
def backL (sg : Bool) (a b : Nat) (al ac : Bool) (T : NT) : List NT := (backO sg a b al ac T).filterMap id
theorem optN_filter : ∀ {l : List (Option NT)}, (l.filter Option.isSome).map optN = (l.filterMap id).map tabN
  | [] => rfl
  | none :: l => by
    rw [List.filter_cons_of_neg (by simp), List.filterMap_cons_none rfl]
    exact optN_filter
  | some T :: l => by
    rw [List.filter_cons_of_pos (by simp), List.filterMap_cons_some (f := id) (a := some T) (b := T) rfl, List.map_cons, List.map_cons, optN_filter]
    rfl
theorem isNone_optN {o : Option NT} : isNone (optN o) = !o.isSome := by cases o <;> rfl
/-! l_backs -/
def R_l_backs (ds : List PyData) (r : PyData) : Prop := ∃ (T : NT) (sg al ac : Bool) (a b : Nat), ds = [tabN T, .bool al, .bool ac, .bool sg] ∧ Good sg T a b ∧ r = .list ((backL sg a b al ac T).map tabN)
def sp_l_backs (K : PySem.W.Frag) : Sp := SpP R_l_backs
def t_l_backs (K : PySem.W.Frag) : TS := tSeq (tAsg (tLst (tNil)) (gName 4)) (tSeq (tIfS (tB (tVar 1)) (tAsg (tOp (rCat) (tVar 4) (tLc (iRng1 (tCons (tOp (rI0 fun i j => .int (i - j)) (tCB (rLen K) (tCons (tVar 0) (tNil))) (tC (.int 1))) (tNil))) (gName 5) (tYes) (tCall (sp_l_step K) [] E0 (tCons (tVar 0) (tCons (tOp (rI0 fun i j => .int (i + j)) (tVar 5) (tC (.int 1))) (tCons (tVar 5) (tCons (tC (.bl false)) (tCons (tVar 3) (tNil))))))) [5])) (gName 4)) (tNext)) (tSeq (tIfS (tB (tVar 2)) (tAsg (tOp (rCat) (tVar 4) (tLc (iRng1 (tCons (tOp (rI0 fun i j => .int (i - j)) (tCB (rLen K) (tCons (tOp (rIxT K) (tVar 0) (tC (.int 0))) (tNil))) (tC (.int 1))) (tNil))) (gName 5) (tYes) (tCall (sp_l_step K) [] E0 (tCons (tVar 0) (tCons (tOp (rI0 fun i j => .int (i + j)) (tVar 5) (tC (.int 1))) (tCons (tVar 5) (tCons (tC (.bl true)) (tCons (tVar 3) (tNil))))))) [5])) (gName 4)) (tNext)) (tRet (tLc (iList K (tVar 4)) (gName 6) (tTest (tOp (rNotNo) (tVar 6) (tC .non))) (tVar 6) [6]))))
theorem len_l_backs {K : PySem.W.Frag} {vs : List V} {H : Hp} {Q : VK} {E : XK} (h : sp_l_backs K vs H Q E) : vs.length = 4 := spP_len h fun ds r ⟨_, _, _, _, _, _, e, _⟩ => by rw [e]; rfl
theorem run_l_backs (K : PySem.W.Frag) (W : Wd) (n : Nat) (ds : List PyData) (r : PyData) (h : R_l_backs ds r) : RunS W (t_l_backs K) n (ds.map Slot.d ++ List.replicate (7 - ds.length) .non) (fun o => o = .rt n r) := by
  obtain ⟨TT, sg, al, ac, a, b, rfl, g, rfl⟩ := h
  have hR := g.rect
  have hr5 := hR.r5
  have hc5 := hR.c5
  have hr2 := g.a2
  have hc2 := g.b2
  refine sa (EvF.p (ef_lst ea_nil (by simp))) ?_
  have hA : ∀ {ss : List Slot}, ss.length = 7 → ss[0]? = some (.d (tabN TT)) → ss[3]? = some (.d (.bool sg)) → EvF (tLc (iRng1 (tCons (tOp (rI0 fun i j => .int (i - j)) (tCB (rLen K) (tCons (tVar 0) (tNil))) (tC (.int 1))) (tNil))) (gName 5) (tYes) (tCall (sp_l_step K) [] E0 (tCons (tVar 0) (tCons (tOp (rI0 fun i j => .int (i + j)) (tVar 5) (tC (.int 1))) (tCons (tVar 5) (tCons (tC (.bl false)) (tCons (tVar 3) (tNil))))))) [5]) ss
      ((((List.range (a - 1)).map fun lo => stA sg a b lo TT)).map optN) := fun {ss} hl h0 h3 => by
    rw [List.map_map]
    refine ef_map (xs := List.range (a - 1)) (enc := natD) (f := fun k ss => ss.set 5 (.d (natD k))) (fun lo => optN (stA sg a b lo TT)) (wk_rn (m := a - 1) (ea_cons (ep_is (ep_op (ep_hgt hR (ep_var h0)) ep_int od_i) (by congr 1; omega)) ea_nil) (by omega)) (by rw [List.length_range]; omega) (fun _ _ => tc_name) fun lo hlo => ?_
    have hlo := List.mem_range.mp hlo
    have q : ∀ i : Nat, i ≠ 5 → ∀ s : Slot, ss[i]? = some s → ((wipeS ss [5]).set 5 (.d (natD lo)))[i]? = some s := fun i hi s hs => by
      show ((ss.set 5 .non).set 5 _)[i]? = _
      rw [List.getElem?_set_ne (Ne.symm hi), List.getElem?_set_ne (Ne.symm hi)]
      exact hs
    have q5 : ((wipeS ss [5]).set 5 (.d (natD lo)))[5]? = some (.d (natD lo)) := by
      show ((ss.set 5 .non).set 5 _)[5]? = _
      rw [List.getElem?_set_self (by rw [List.length_set]; omega)]
    exact ep_call (ea_cons (ep_var (q 0 (by decide) _ h0)) (ea_cons (ep_op (ep_var q5) ep_int od_i) (ea_cons (ep_var q5) (ea_cons ep_bl (ea_cons (ep_var (q 3 (by decide) _ h3)) ea_nil))))) ⟨TT, sg, false, a, b, lo, rfl, g, by show lo + 1 < a; omega, rfl⟩
  have hB : ∀ {ss : List Slot}, ss.length = 7 → ss[0]? = some (.d (tabN TT)) → ss[3]? = some (.d (.bool sg)) → EvF (tLc (iRng1 (tCons (tOp (rI0 fun i j => .int (i - j)) (tCB (rLen K) (tCons (tOp (rIxT K) (tVar 0) (tC (.int 0))) (tNil))) (tC (.int 1))) (tNil))) (gName 5) (tYes) (tCall (sp_l_step K) [] E0 (tCons (tVar 0) (tCons (tOp (rI0 fun i j => .int (i + j)) (tVar 5) (tC (.int 1))) (tCons (tVar 5) (tCons (tC (.bl true)) (tCons (tVar 3) (tNil))))))) [5]) ss
      ((((List.range (b - 1)).map fun lo => stB sg a b lo TT)).map optN) := fun {ss} hl h0 h3 => by
    rw [List.map_map]
    refine ef_map (xs := List.range (b - 1)) (enc := natD) (f := fun k ss => ss.set 5 (.d (natD k))) (fun lo => optN (stB sg a b lo TT)) (wk_rn (m := b - 1) (ea_cons (ep_is (ep_op (ep_wdt hR (ep_var h0)) ep_int od_i) (by congr 1; omega)) ea_nil) (by omega)) (by rw [List.length_range]; omega) (fun _ _ => tc_name) fun lo hlo => ?_
    have hlo := List.mem_range.mp hlo
    have q : ∀ i : Nat, i ≠ 5 → ∀ s : Slot, ss[i]? = some s → ((wipeS ss [5]).set 5 (.d (natD lo)))[i]? = some s := fun i hi s hs => by
      show ((ss.set 5 .non).set 5 _)[i]? = _
      rw [List.getElem?_set_ne (Ne.symm hi), List.getElem?_set_ne (Ne.symm hi)]
      exact hs
    have q5 : ((wipeS ss [5]).set 5 (.d (natD lo)))[5]? = some (.d (natD lo)) := by
      show ((ss.set 5 .non).set 5 _)[5]? = _
      rw [List.getElem?_set_self (by rw [List.length_set]; omega)]
    exact ep_call (ea_cons (ep_var (q 0 (by decide) _ h0)) (ea_cons (ep_op (ep_var q5) ep_int od_i) (ea_cons (ep_var q5) (ea_cons ep_bl (ea_cons (ep_var (q 3 (by decide) _ h3)) ea_nil))))) ⟨TT, sg, true, a, b, lo, rfl, g, by show lo + 1 < b; omega, rfl⟩
  have fin : ∀ l : List (Option NT), l.length ≤ 100 → l = backO sg a b al ac TT → RunS W (tRet (tLc (iList K (tVar 4)) (gName 6) (tTest (tOp (rNotNo) (tVar 6) (tC .non))) (tVar 6) [6])) n [.d (tabN TT), .d (.bool al), .d (.bool ac), .d (.bool sg), .d (.list (l.map optN)), .non, .non] (fun o => o = .rt n (.list ((backL sg a b al ac TT).map tabN))) := fun l hl e => by
    subst e
    have h := ef_lc (wi := iList K (tVar 4)) (g := gName 6) (tt := tTest (tOp (rNotNo) (tVar 6) (tC .non))) (te := tVar 6) (vs := [6]) (ss := [.d (tabN TT), .d (.bool al), .d (.bool ac), .d (.bool sg), .d (.list ((backO sg a b al ac TT).map optN)), .non, .non])
      (xs := backO sg a b al ac TT) (enc := optN) (f := fun o ss => ss.set 6 (.d (optN o))) Option.isSome optN (wk_list (ep_var rfl)) (by omega) (fun _ _ => tc_name) (fun o _ => et_is (et_test (ep_op (ep_var rfl) ep_non od_notN)) (by rw [isNone_optN]; cases o <;> rfl)) (fun o _ _ => ep_var rfl)
    rw [optN_filter] at h
    exact rs_ret h.p rfl
  have hlen : (backO sg a b al ac TT).length ≤ 10 := by
    unfold backO
    rw [List.length_append]
    cases al <;> cases ac <;> simp <;> omega
  cases al with
  | false =>
    refine sf (et_b (ep_var rfl)) ?_
    cases ac with
    | false =>
      refine sf (et_b (ep_var rfl)) ?_
      exact fin [] (by simp) rfl
    | true =>
      refine st (et_b (ep_var rfl)) (rs_asg (d := .list ((backO sg a b false true TT).map optN)) (ep_is (ep_op (ep_var rfl) (hB rfl rfl rfl).p (od_cat (by simp; omega))) rfl) (fin _ (by omega) rfl))
  | true =>
    refine st (et_b (ep_var rfl)) (rs_asg (d := .list (((List.range (a - 1)).map fun lo => stA sg a b lo TT).map optN)) (ep_is (ep_op (ep_var rfl) (hA rfl rfl rfl).p (od_cat (by simp; omega))) rfl) ?_)
    cases ac with
    | false =>
      refine sf (et_b (ep_var rfl)) ?_
      exact fin _ (by simp; omega) (by unfold backO; simp)
    | true =>
      refine st (et_b (ep_var rfl)) (rs_asg (d := .list ((backO sg a b true true TT).map optN)) (ep_is (ep_op (ep_var rfl) (hB rfl rfl rfl).p (od_cat (by simp; omega))) ?_) (fin _ (by omega) rfl))
      unfold backO
      rw [List.map_append]
      rfl
theorem pure_l_backs {K : PySem.W.Frag} {vs : List V} {H : Hp} {Q : VK} {E : XK} (h : sp_l_backs K vs H Q E) : t_l_backs K { nx := fun _ H' => Q .non H', rt := Q } (L2.start ["_law_table_here", "_law_along", "_law_across", "_law_signed", "_law_found", "_law_low", "_law_one"] vs) H := pure_of h fun W n ds r hr => run_l_backs K W n ds r hr
section
variable {P : Program} {w : World} {K : PySem.W.Frag} {mg : Str → Option Value} {base : Heap}
abbrev N_l_backs : List Str := ["_law_table_here", "_law_along", "_law_across", "_law_signed", "_law_found", "_law_low", "_law_one"]
theorem sc_l_backs : FnScope N_l_backs ["_law_table_here", "_law_along", "_law_across", "_law_signed"] (defScope s_l_backs) := ⟨rfl, rfl, rfl, by decide +kernel, rfl, by decide +kernel, by decide +kernel⟩
theorem ok_l_backs (T : Tx K mg) : ∃ fd, FnOk P w K mg base CX0 4 (He.ga K "_law_backs") fd ["_law_table_here", "_law_along", "_law_across", "_law_signed"] (sp_l_backs K) ∧ Binds K fd ["_law_table_here", "_law_along", "_law_across", "_law_signed"] [] := by
  have nd := sc_l_backs.nd
  obtain ⟨_, G_l_step, b_l_step⟩ := ok_l_step (P := P) (w := w) (base := base) T
  obtain ⟨fd, F⟩ := T.d_l_backs
  refine ⟨fd, FunD.ok F sc_l_backs (fun vs H Q E h => len_l_backs h) (fun cdv A outer s H vs Q E hr h => ⟨t_l_backs K, PSs.nox ?_, pure_l_backs h⟩), F.bindsN fun _ _ _ _ _ _ us hl => match us, hl with | [_, _, _, _], _ => rfl⟩
  exact pss_cons (ps_set (i := 4) nd rfl (Or.inl rfl) (pe_lst (pa_nil))) (pss_cons (ps_if (pt_val (pv 1)) (pss_one (ps_set (i := 4) nd rfl (Or.inl rfl) (pe_op op_cat (pv 4) (pe_lc (own := [(("_law_low" : Str), 5)]) rfl nd (pi_range1 rfl T.f_range (pa_cons (pe_op op_sub (pe_callB call_len_seq (by rfl) T.f_len (by decide +kernel) (pa_cons (pv 0) (pa_nil))) (pe_int)) (pa_nil))) (blkOk_by (N := N_l_backs) (sc := defScope s_l_backs) (by decide +kernel)) (fun _ _ _ _ _ => pg_name (i := 5) nd rfl (Or.inl rfl)) (fun _ _ _ _ _ => pts_nil) (fun _ _ _ _ _ => pe_call G_l_step (hr.mono (by omega)) rfl T.g_l_step T.k_l_step b_l_step .nil pass0 (pa_cons (pv 0) (pa_cons (pe_op op_add (pv 5) (pe_int)) (pa_cons (pv 5) (pa_cons (pe_bl) (pa_cons (pv 3) (pa_nil))))))))))) (pss_nil)) (pss_cons (ps_if (pt_val (pv 2)) (pss_one (ps_set (i := 4) nd rfl (Or.inl rfl) (pe_op op_cat (pv 4) (pe_lc (own := [(("_law_low" : Str), 5)]) rfl nd (pi_range1 rfl T.f_range (pa_cons (pe_op op_sub (pe_callB call_len_seq (by rfl) T.f_len (by decide +kernel) (pa_cons (pe_ix ix_tup (pv 0) (pe_int) (fun _ _ => rfl)) (pa_nil))) (pe_int)) (pa_nil))) (blkOk_by (N := N_l_backs) (sc := defScope s_l_backs) (by decide +kernel)) (fun _ _ _ _ _ => pg_name (i := 5) nd rfl (Or.inl rfl)) (fun _ _ _ _ _ => pts_nil) (fun _ _ _ _ _ => pe_call G_l_step (hr.mono (by omega)) rfl T.g_l_step T.k_l_step b_l_step .nil pass0 (pa_cons (pv 0) (pa_cons (pe_op op_add (pv 5) (pe_int)) (pa_cons (pv 5) (pa_cons (pe_bl) (pa_cons (pv 3) (pa_nil))))))))))) (pss_nil)) (pss_one (ps_ret (pe_lc (own := [(("_law_one" : Str), 6)]) rfl nd (pi_list (pv 4)) (blkOk_by (N := N_l_backs) (sc := defScope s_l_backs) (by decide +kernel)) (fun _ _ _ _ _ => pg_name (i := 6) nd rfl (Or.inl rfl)) (fun _ _ _ _ _ => pts_one (pt_cmpR op_notN (pv 6) (pe_non) (nomark _))) (fun _ _ _ _ _ => pv 6))))))
end
end Uh

set_option Elab.async false
set_option linter.all false
set_option maxRecDepth 100000
set_option maxHeartbeats 400000
namespace Uh
open PySem PySem.Spec PyProof.Rows L2
open Evl (Ex)
local macro_rules | `(tactic| walk_at "ev") => `(tactic| repeat (first
  | with_reducible exact ep_var rfl | with_reducible exact ep_int | with_reducible exact ep_bl | with_reducible exact ep_non | with_reducible exact ep_str
  | with_reducible exact ea_nil | with_reducible apply ea_cons | with_reducible apply ep_tupG | with_reducible apply ef_lstG | with_reducible exact et_yes
  | with_reducible apply ca_isiG | with_reducible exact kit_tuple _ | with_reducible exact kit_int _ | with_reducible exact kit_bool _ | with_reducible exact kit_str _
  | with_reducible apply et_test | with_reducible apply et_b | with_reducible apply et_not | with_reducible apply et_orG | with_reducible apply et_andG
  | with_reducible apply ep_orG | with_reducible apply ep_andG | with_reducible apply ep_notV | with_reducible apply ep_chainG
  | with_reducible apply ep_inG | with_reducible apply ep_op | with_reducible apply ep_un | with_reducible apply ep_cb
  | with_reducible exact od_i | with_reducible exact od_b | with_reducible exact od_eqI | with_reducible exact od_neI | with_reducible exact od_eqS | with_reducible exact od_eqB | with_reducible exact od_isN | with_reducible exact od_notN | with_reducible exact ud_i
  | with_reducible exact od_ixT at3_0 | with_reducible exact od_ixT at3_1 | with_reducible exact od_ixT at3_2 | with_reducible exact od_ixT at2_0 | with_reducible exact od_ixT at2_1 | with_reducible exact od_ixT at1_0
  | with_reducible apply od_catA | (with_reducible show _ + _ ≤ 100000; first | omega | (simp; done) | (simp; omega))
  | with_reducible exact ca_lenT | with_reducible exact ca_lenL
  | exact (show allS _ = true from rfl) | exact (show Nat.ble _ 100000 = true from rfl)))
/-! ### where drawn steps end -/
def endT (sg : Bool) (a b : Nat) (al ac : Bool) (T : NT) : NT := if al then (if ac then corn sg a b T else upA sg a b T) else (if ac then upB sg a b T else T)
theorem mem_backL {sg al ac : Bool} {a b : Nat} {T V : NT} (h : V ∈ backL sg a b al ac T) : (al = true ∧ ∃ lo, stA sg a b lo T = some V) ∨ (ac = true ∧ ∃ lo, stB sg a b lo T = some V) := by
  unfold backL backO at h
  obtain ⟨o, ho, e⟩ := List.mem_filterMap.mp h
  have e : o = some V := e
  subst e
  rcases List.mem_append.mp ho with z | z
  · cases al with
    | true =>
      obtain ⟨lo, _, e⟩ := List.mem_map.mp (show some V ∈ (List.range (a - 1)).map fun lo => stA sg a b lo T from z)
      exact .inl ⟨rfl, lo, e⟩
    | false => cases z
  · cases ac with
    | true =>
      obtain ⟨lo, _, e⟩ := List.mem_map.mp (show some V ∈ (List.range (b - 1)).map fun lo => stB sg a b lo T from z)
      exact .inr ⟨rfl, lo, e⟩
    | false => cases z
theorem backL_nil {sg al ac : Bool} {a b : Nat} {T : NT} : backL sg a b al ac T = [] ↔ (al = true → No (stA sg a b) T) ∧ (ac = true → No (stB sg a b) T) := by
  constructor
  · intro h
    have key : ∀ o ∈ backO sg a b al ac T, o = none := fun o ho => by
      cases o with
      | none => rfl
      | some V =>
        have : V ∈ backL sg a b al ac T := List.mem_filterMap.mpr ⟨_, ho, rfl⟩
        rw [h] at this
        cases this
    refine ⟨fun hal lo => ?_, fun hac lo => ?_⟩
    · by_cases hl : lo + 1 < a
      · refine key _ (List.mem_append_left _ ?_)
        rw [if_pos hal]
        exact List.mem_map.mpr ⟨lo, List.mem_range.mpr (by omega), rfl⟩
      · unfold stA
        rw [if_neg hl]
    · by_cases hl : lo + 1 < b
      · refine key _ (List.mem_append_right _ ?_)
        rw [if_pos hac]
        exact List.mem_map.mpr ⟨lo, List.mem_range.mpr (by omega), rfl⟩
      · unfold stB
        rw [if_neg hl]
  · rintro ⟨h1, h2⟩
    apply List.eq_nil_iff_forall_not_mem.mpr
    intro V hV
    rcases mem_backL hV with ⟨e, lo, z⟩ | ⟨e, lo, z⟩
    · rw [h1 e lo] at z
      cases z
    · rw [h2 e lo] at z
      cases z
theorem upA_step {sg : Bool} {a b lo : Nat} {T V : NT} (g : Good sg T a b) (h : stA sg a b lo T = some V) : upA sg a b V = upA sg a b T :=
  endA g (.step h (upA_end g.rect.r5).1) (upA_end g.rect.r5).2
theorem upB_step {sg : Bool} {a b lo : Nat} {T V : NT} (g : Good sg T a b) (h : stB sg a b lo T = some V) : upB sg a b V = upB sg a b T :=
  endB g (.step h (upB_end (okB g h)).1) (upB_end (okB g h)).2
theorem corn_rm {sg : Bool} {a b : Nat} {T : NT} (g : Good sg T a b) : Rm (stA sg a b) (stB sg a b) T (corn sg a b T) :=
  rm_trans (dbl sg a b) (rm_f (dbl sg a b) (upA_end g.rect.r5).1) (rm_g (dbl sg a b) (upB_end (upA_good g)).1)
theorem corn_stepA {sg : Bool} {a b lo : Nat} {T V : NT} (g : Good sg T a b) (h : stA sg a b lo T = some V) : corn sg a b V = corn sg a b T :=
  endAB g (.stepf h (corn_rm (okA g h))) (corn_no (okA g h)).1 (corn_no (okA g h)).2
theorem corn_stepB {sg : Bool} {a b lo : Nat} {T V : NT} (g : Good sg T a b) (h : stB sg a b lo T = some V) : corn sg a b V = corn sg a b T :=
  endAB g (.stepg h (corn_rm (okB g h))) (corn_no (okB g h)).1 (corn_no (okB g h)).2
theorem end_step {sg al ac : Bool} {a b : Nat} {T V : NT} (g : Good sg T a b) (h : V ∈ backL sg a b al ac T) : Good sg V a b ∧ endT sg a b al ac V = endT sg a b al ac T ∧ potA a b (fnT V) + potB a b (fnT V) < potA a b (fnT T) + potB a b (fnT T) := by
  have keepB : ∀ {lo}, stA sg a b lo T = some V → potB a b (fnT V) = potB a b (fnT T) := fun {lo} z => by
    have := wA_get (d_wA z)
    exact su_congr fun j hj => by
      show j * cs a (fnT V) j = j * cs a (fnT T) j
      rw [this j hj]
  have keepA : ∀ {lo}, stB sg a b lo T = some V → potA a b (fnT V) = potA a b (fnT T) := fun {lo} z => by
    have := wB_get (d_wB z)
    exact su_congr fun i hi => by rw [this i hi]
  unfold endT
  rcases mem_backL h with ⟨e, lo, z⟩ | ⟨e, lo, z⟩
  · subst e
    have hd := d_potA z
    have := keepB z
    refine ⟨okA g z, ?_, by omega⟩
    cases ac with
    | true => exact corn_stepA g z
    | false => exact upA_step g z
  · subst e
    have hd := d_potB z
    have := keepA z
    refine ⟨okB g z, ?_, by omega⟩
    cases al with
    | true => exact corn_stepB g z
    | false => exact upB_step g z
theorem end_of {sg al ac : Bool} {a b : Nat} {T : NT} (g : Good sg T a b) (h : backL sg a b al ac T = []) : endT sg a b al ac T = T := by
  obtain ⟨h1, h2⟩ := backL_nil.mp h
  unfold endT
  cases al with
  | true =>
    have e1 := (upA_eq g.rect.r5).mpr (h1 rfl)
    cases ac with
    | true =>
      show upB sg a b (upA sg a b T) = T
      rw [e1]
      exact (upB_eq g).mpr (h2 rfl)
    | false => exact e1
  | false =>
    cases ac with
    | true => exact (upB_eq g).mpr (h2 rfl)
    | false => rfl
theorem tabN_inj {T U : NT} (h : tabN T = tabN U) : T = U := by
  have h1 : PyData.eqv (tabN T) (tabN T) = true := by rw [eqv_tabN]; simp
  have h2 : PyData.eqv (tabN T) (tabN U) = true := by rw [← h]; exact h1
  rw [eqv_tabN] at h2
  exact of_decide_eq_true h2
theorem good_dims {sg sg' : Bool} {T : NT} {a b a' b' : Nat} (g : Good sg T a b) (g' : Good sg' T a' b') : a = a' ∧ b = b' := by
  have e : a = a' := g.rect.len.symm.trans g'.rect.len
  refine ⟨e, ?_⟩
  have h1 := row_len (i := 0) g.rect (by have := g.a2; omega)
  have h2 := row_len (i := 0) g'.rect (by have := g'.a2; omega)
  exact h1.symm.trans h2
theorem can_tabN {T : NT} : PyData.canLay0 (tabN T) = true := canAll fun d hd => by
  obtain ⟨k, _, rfl⟩ := List.mem_map.mp hd
  exact can_row
theorem depth_tabN {T : NT} : PyData.depth (tabN T) ≤ 60 := by
  have : PyData.depthAll (T.map rowN) ≤ 3 := depthAll_le fun d hd => by
    obtain ⟨r, _, rfl⟩ := List.mem_map.mp hd
    have : PyData.depthAll (r.map natD) ≤ 1 := depthAll_le fun d hd => by
      obtain ⟨k, _, rfl⟩ := List.mem_map.mp hd
      simp [PyData.depth]
    show PyData.depthAll (r.map natD) + 1 ≤ 3
    omega
  show PyData.depthAll (T.map rowN) + 1 ≤ 60
  omega
theorem op_nilT {K : PySem.W.Frag} {ss : List Slot} {te : TE} {l : List NT} (h : EvP te ss (.list (l.map tabN))) : EvP (tOp (rEqD K) te (tLst tNil)) ss (.bool l.isEmpty) := by
  have := ep_op (r := rEqD K) h (EvF.p (ef_lstG ea_nil rfl)) (od_eqD (plainL_all fun d hd => by
    obtain ⟨k, _, rfl⟩ := List.mem_map.mp hd
    exact plain_tabN) rfl (shaped_list (fun d hd => by
    obtain ⟨k, _, rfl⟩ := List.mem_map.mp hd
    exact can_tabN) fun d hd => by
    obtain ⟨k, _, rfl⟩ := List.mem_map.mp hd
    exact depth_tabN) (by decide))
  rw [eqv_nil, List.isEmpty_map] at this
  exact this
/-! l_end -/
def pre_l_end (n : Nat) (ds : List PyData) : Prop := ∃ (T : NT) (sg al ac : Bool) (a b : Nat), ds = [tabN T, .bool al, .bool ac, .bool sg] ∧ Good sg T a b ∧ a ≤ 4 ∧ b ≤ 4 ∧ n < 2 ^ 40
def post_l_end (n : Nat) (ds : List PyData) (n' : Nat) (d : PyData) : Prop := ∀ (T : NT) (sg al ac : Bool) (a b : Nat), ds = [tabN T, .bool al, .bool ac, .bool sg] → Good sg T a b → n ≤ n' ∧ n' ≤ n + 120 ∧ d = tabN (endT sg a b al ac T)
def sp_l_end (K : PySem.W.Frag) : Sp := SpSt pre_l_end post_l_end
def t_l_end (K : PySem.W.Frag) : TS := tSeq (tFor (iRng1 (tCons (tC (.int 120)) (tNil))) (gName 5) (tSeq (tAsg (tCall (sp_l_backs K) [] E0 (tCons (tVar 1) (tCons (tVar 2) (tCons (tVar 3) (tCons (tVar 4) (tNil)))))) (gName 6)) (tSeq (tIfS (tTest (tOp (rEqD K) (tVar 6) (tLst (tNil)))) (tBreak) (tNext)) (tAsg (tCall (sp_l_of K) [] E0 (tCons (tVar 0) (tCons (tVar 6) (tNil)))) (gName 1))))) (tRet (tVar 1))
theorem len_l_end {K : PySem.W.Frag} {vs : List V} {H : Hp} {Q : VK} {E : XK} (h : sp_l_end K vs H Q E) : vs.length = 5 := spSt_len h fun n ds ⟨_, _, _, _, _, _, e, _⟩ => by rw [e]; rfl
theorem run_l_end (K : PySem.W.Frag) (S : StA) (A0 : Addr → Prop) (n : Nat) (ds : List PyData) (h : pre_l_end n ds) : RunS (stW S A0) (t_l_end K) n (.st S.st :: (ds.map Slot.d ++ List.replicate (7 - (ds.length + 1)) .non)) fun o => ∃ n' d, o = .rt n' d ∧ post_l_end n ds n' d := by
  obtain ⟨TT, sg, al, ac, a, b, rfl, g, ha, hb, hn⟩ := h
  have hpot : potA a b (fnT TT) + potB a b (fnT TT) ≤ 72 := by
    have := potA_le g ha
    have := potB_le g hb
    omega
  have hpost : ∀ n', n ≤ n' → n' ≤ n + 120 → post_l_end n [tabN TT, .bool al, .bool ac, .bool sg] n' (tabN (endT sg a b al ac TT)) := fun n' h1 h2 T' sg' al' ac' a' b' e g' => by
    injection e with e1 e
    injection e with e2 e
    injection e with e3 e
    injection e with e4 e
    injection e2 with e2
    injection e3 with e3
    injection e4 with e4
    have e1 := tabN_inj e1
    subst e1 e2 e3 e4
    obtain ⟨rfl, rfl⟩ := good_dims g g'
    exact ⟨h1, h2, rfl⟩
  refine sfor (xs := List.range 120) (enc := natD) (f := fun k ss => ss.set 5 (.d (natD k)))
    (fun i n' ss' => n ≤ n' ∧ n' ≤ n + i ∧ ∃ (U : NT) (s t : Slot), ss' = [.st S.st, .d (tabN U), .d (.bool al), .d (.bool ac), .d (.bool sg), s, t] ∧ Good sg U a b ∧ endT sg a b al ac U = endT sg a b al ac TT ∧ potA a b (fnT U) + potB a b (fnT U) + i ≤ potA a b (fnT TT) + potB a b (fnT TT))
    (wk_rn (m := 120) (ea_cons ep_int ea_nil) (by decide)) (fun _ _ => tg_name) ⟨Nat.le_refl _, Nat.le_refl _, TT, _, _, rfl, g, rfl, Nat.le_refl _⟩ ?_ ?_
  · rintro i k n1 _ hi ⟨hn1, hn2, U, s, t, rfl, gU, hend, hp⟩
    have hi' : i < 120 := by
      have := (List.getElem?_eq_some_iff.mp hi).1
      simpa using this
    refine sa (ep_call (by walk_at "ev") ⟨U, sg, al, ac, a, b, rfl, gU, rfl⟩) ?_
    by_cases hbk : backL sg a b al ac U = []
    · refine rs_seq (rs_ifT (et_is (et_test (op_nilT (ep_var rfl))) (by rw [hbk]; rfl)) (rs_brk ?_))
      refine rs_ret (ep_var rfl) ⟨n1, _, rfl, ?_⟩
      rw [← end_of gU hbk, hend]
      exact hpost n1 hn1 (by omega)
    · refine sf (et_is (et_test (op_nilT (ep_var rfl))) (by cases hq : backL sg a b al ac U with | nil => exact absurd hq hbk | cons _ _ => rfl)) ?_
      have hlen : (backL sg a b al ac U).length ≤ 1000 := by
        unfold backL
        refine Nat.le_trans (List.length_filterMap_le _ _) ?_
        have := g.rect.r5
        have := g.rect.c5
        unfold backO
        rw [List.length_append]
        cases al <;> cases ac <;> simp <;> omega
      refine rs_asgS (P0 := fun n' d => n' = n1 + 1 ∧ ∃ V ∈ backL sg a b al ac U, d = tabN V) (es_callS (S := S) (A0 := A0) rfl (esa_of (PA0 := fun n' ds => n' = n1 ∧ ds = [.list ((backL sg a b al ac U).map tabN)]) (by walk_at "ev") ⟨rfl, rfl⟩) ?_ ?_) ?_
      · rintro n2 _ ⟨rfl, rfl⟩
        exact ⟨_, rfl, by simpa using hbk, by rw [List.length_map]; exact hlen, by omega⟩
      · rintro n2 _ n3 d ⟨rfl, rfl⟩ ⟨rfl, xs, e, hd⟩
        injection e with e _
        injection e with e
        subst e
        obtain ⟨V, hV, rfl⟩ := List.mem_map.mp hd
        exact ⟨rfl, V, hV, rfl⟩
      · rintro n2 _ ⟨rfl, V, hV, rfl⟩
        obtain ⟨gV, eV, pV⟩ := end_step gU hV
        exact ⟨by omega, by omega, V, _, _, rfl, gV, eV.trans hend, by omega⟩
  · rintro n1 _ ⟨hn1, hn2, U, s, t, rfl, gU, hend, hp⟩
    rw [List.length_range] at hp
    omega
theorem pure_l_end {K : PySem.W.Frag} {vs : List V} {H : Hp} {Q : VK} {E : XK} (h : sp_l_end K vs H Q E) : t_l_end K { nx := fun _ H' => Q .non H', rt := Q } (L2.start ["_law_state", "_law_table_here", "_law_along", "_law_across", "_law_signed", "_law_turn", "_law_some"] vs) H := pureS_of h fun S A0 n ds hp => run_l_end K S A0 n ds hp
section
variable {P : Program} {w : World} {K : PySem.W.Frag} {mg : Str → Option Value} {base : Heap}
abbrev N_l_end : List Str := ["_law_state", "_law_table_here", "_law_along", "_law_across", "_law_signed", "_law_turn", "_law_some"]
theorem sc_l_end : FnScope N_l_end ["_law_state", "_law_table_here", "_law_along", "_law_across", "_law_signed"] (defScope s_l_end) := ⟨rfl, rfl, rfl, by decide +kernel, rfl, by decide +kernel, by decide +kernel⟩
theorem ok_l_end (T : Tx K mg) : ∃ fd, FnOk P w K mg base CX0 5 (He.ga K "_law_end") fd ["_law_state", "_law_table_here", "_law_along", "_law_across", "_law_signed"] (sp_l_end K) ∧ Binds K fd ["_law_state", "_law_table_here", "_law_along", "_law_across", "_law_signed"] [] := by
  have nd := sc_l_end.nd
  obtain ⟨_, G_l_of, b_l_of⟩ := ok_l_of (P := P) (w := w) (base := base) T
  obtain ⟨_, G_l_backs, b_l_backs⟩ := ok_l_backs (P := P) (w := w) (base := base) T
  obtain ⟨fd, F⟩ := T.d_l_end
  refine ⟨fd, FunD.ok F sc_l_end (fun vs H Q E h => len_l_end h) (fun cdv A outer s H vs Q E hr h => ⟨t_l_end K, PSs.nox ?_, pure_l_end h⟩), F.bindsN fun _ _ _ _ _ _ us hl => match us, hl with | [_, _, _, _, _], _ => rfl⟩
  exact pss_cons (ps_for PassesOwn.never rfl (pi_range1 rfl T.f_range (pa_cons (pe_int) (pa_nil))) (pg_name (i := 5) nd rfl (Or.inl rfl)) (pss_cons (ps_set (i := 6) nd rfl (Or.inl rfl) (pe_call G_l_backs (hr.mono (by omega)) rfl T.g_l_backs T.k_l_backs b_l_backs .nil pass0 (pa_cons (pv 1) (pa_cons (pv 2) (pa_cons (pv 3) (pa_cons (pv 4) (pa_nil))))))) (pss_cons (ps_if (pt_cmpR (op_eqD hr.units) (pv 6) (pe_lst (pa_nil)) (nomark _)) (pss_one (ps_break)) (pss_nil)) (pss_one (ps_set (i := 1) nd rfl (Or.inl rfl) (pe_call G_l_of (hr.mono (by omega)) rfl T.g_l_of T.k_l_of b_l_of .nil pass0 (pa_cons (pv 0) (pa_cons (pv 6) (pa_nil))))))))) (pss_one (ps_ret (pv 1)))
end
end Uh

set_option Elab.async false
set_option linter.all false
set_option maxRecDepth 100000
set_option maxHeartbeats 400000
namespace Uh
open PySem PySem.Spec PyProof.Rows L2
open Evl (Ex)
local macro_rules | `(tactic| walk_at "ev") => `(tactic| repeat (first
  | with_reducible exact ep_var rfl | with_reducible exact ep_int | with_reducible exact ep_bl | with_reducible exact ep_non | with_reducible exact ep_str
  | with_reducible exact ea_nil | with_reducible apply ea_cons | with_reducible apply ep_tupG | with_reducible apply ef_lstG | with_reducible exact et_yes
  | with_reducible apply ca_isiG | with_reducible exact kit_tuple _ | with_reducible exact kit_int _ | with_reducible exact kit_bool _ | with_reducible exact kit_str _
  | with_reducible apply et_test | with_reducible apply et_b | with_reducible apply et_not | with_reducible apply et_orG | with_reducible apply et_andG
  | with_reducible apply ep_orG | with_reducible apply ep_andG | with_reducible apply ep_notV | with_reducible apply ep_chainG
  | with_reducible apply ep_inG | with_reducible apply ep_op | with_reducible apply ep_un | with_reducible apply ep_cb
  | with_reducible exact od_i | with_reducible exact od_b | with_reducible exact od_eqI | with_reducible exact od_neI | with_reducible exact od_eqS | with_reducible exact od_eqB | with_reducible exact od_isN | with_reducible exact od_notN | with_reducible exact ud_i
  | with_reducible exact od_ixT at3_0 | with_reducible exact od_ixT at3_1 | with_reducible exact od_ixT at3_2 | with_reducible exact od_ixT at2_0 | with_reducible exact od_ixT at2_1 | with_reducible exact od_ixT at1_0
  | with_reducible apply od_catA | (with_reducible show _ + _ ≤ 100000; first | omega | (simp; done) | (simp; omega))
  | with_reducible exact ca_lenT | with_reducible exact ca_lenL
  | exact (show allS _ = true from rfl) | exact (show Nat.ble _ 100000 = true from rfl)))
section
variable {S : StA} {A0 : Addr → Prop} {K : PySem.W.Frag} {n : Nat} {ss : List Slot} {te : TE} {i : Nat} {xs : List PyData} {P : Out → Prop} {P0 : Nat → PyData → Prop}
theorem es_of (hi : ss[i]? = some (.st S.st)) (h : EvP te ss (.list xs)) (h0 : xs ≠ []) (h1 : xs.length ≤ 1000) (hn : n < 2 ^ 50) : EvS (stW S A0) (tCall (sp_l_of K) [] E0 (tCons (tVar i) (tCons te tNil))) n ss fun n' d => n' = n + 1 ∧ d ∈ xs :=
  es_callS (S := S) (A0 := A0) hi (esa_of (PA0 := fun n' ds => n' = n ∧ ds = [.list xs]) (ea_cons h ea_nil) ⟨rfl, rfl⟩) (fun n1 ds ⟨e1, e2⟩ => ⟨xs, e2, h0, h1, by omega⟩) fun n1 ds n2 d ⟨e1, e2⟩ ⟨e3, ys, e4, hd⟩ => by
    subst e1 e2 e3
    injection e4 with e4 _
    injection e4 with e4
    subst e4
    exact ⟨rfl, hd⟩
theorem es_drawS (hi : ss[i]? = some (.st S.st)) (h : EvS (stW S A0) te n ss fun n1 d => ∃ lim : Nat, d = natD lim ∧ 0 < lim ∧ lim ≤ 1000 ∧ n1 < 2 ^ 50 ∧ P0 n1 d) : EvS (stW S A0) (tCall (sp_l_draw K) [] E0 (tCons (tVar i) (tCons te tNil))) n ss fun n' d => ∃ n1 lim r : Nat, P0 n1 (natD lim) ∧ n' = n1 + 1 ∧ d = natD r ∧ r < lim :=
  es_callS (S := S) (A0 := A0) hi (esa_cons (PA0 := fun n1 ds => ∃ lim : Nat, ds = [natD lim] ∧ 0 < lim ∧ lim ≤ 1000 ∧ n1 < 2 ^ 50 ∧ P0 n1 (natD lim)) h fun n1 d ⟨lim, e, h1, h2, h3, h4⟩ => esa_of ea_nil ⟨lim, by rw [e], h1, h2, h3, e ▸ h4⟩) (fun n1 ds ⟨lim, e, h1, h2, h3, _⟩ => ⟨lim, e, h1, h2, h3⟩)
    fun n1 ds n2 d ⟨lim, e, h1, h2, h3, h4⟩ ⟨e3, lim2, r, e4, e5, hr⟩ => by
    subst e
    injection e4 with e4 _
    injection e4 with e4
    have : lim = lim2 := Int.ofNat.inj e4
    subst this
    exact ⟨n1, lim, r, h4, e3, e5, hr⟩
theorem es_draw (hi : ss[i]? = some (.st S.st)) {lim : Nat} (h : EvP te ss (natD lim)) (h0 : 0 < lim) (h1 : lim ≤ 1000) (hn : n < 2 ^ 50) : EvS (stW S A0) (tCall (sp_l_draw K) [] E0 (tCons (tVar i) (tCons te tNil))) n ss fun n' d => n' = n + 1 ∧ ∃ r : Nat, d = natD r ∧ r < lim :=
  (es_drawS (P0 := fun n1 d => n1 = n ∧ d = natD lim) hi (h.s ⟨lim, rfl, h0, h1, hn, rfl, rfl⟩)).mono fun n' d ⟨n1, lim2, r, ⟨e1, e2⟩, e3, e4, hr⟩ => by
    injection e2 with e2
    have : lim2 = lim := Int.ofNat.inj e2
    subst this e1
    exact ⟨e3, r, e4, hr⟩
/-- a, b = e, [] -/
theorem rs_parSO {W : Wd} {j : Nat} (h : EvS W te n ss fun n' d => ∀ a, P (.nx n' ((ss.set i (.d d)).set j (.own a [])))) : RunS W (tPar i j (tCons te (tCons (tLst tNil) tNil))) n ss P := fun D H σ s g => h H σ s _ fun v H1 n' d p t ok r => by
  have s1 := (s.stp t ok).set (i := i) r
  refine ⟨Evl.sz_of (Nat.zero_le _), fun a ha => ?_⟩
  refine ⟨v, .ref a, rfl, ?_⟩
  have s2 := s1.make (i := j) (p := a) (xs := []) (vs := []) (Ex.new ha) ha upd_same (by simp [DaL])
  exact g.nx n' _ _ _ (p a) ((t.then0 (.of_ex (Ex.new ha))).more (by simp)) (Fr.own (Fr.plain rfl .self) (t.none_back ha)) s2
end
/-! l_table -/
def pre_l_table (n : Nat) (ds : List PyData) : Prop := ∃ sg : Bool, ds = [.bool sg] ∧ n < 2 ^ 40
def post_l_table (n : Nat) (ds : List PyData) (n' : Nat) (d : PyData) : Prop := ∀ sg : Bool, ds = [.bool sg] → n ≤ n' ∧ n' ≤ n + 60 ∧ ∃ (T : NT) (a b : Nat), d = tabN T ∧ Good sg T a b ∧ a ≤ 4 ∧ b ≤ 4
def sp_l_table (K : PySem.W.Frag) : Sp := SpSt pre_l_table post_l_table
def t_l_table (K : PySem.W.Frag) : TS := tSeq (tPar 2 3 (tCons (tOp (rI0 fun i j => .int (i + j)) (tC (.int 2)) (tCall (sp_l_of K) [] E0 (tCons (tVar 0) (tCons (tLst (tCons (tC (.int 0)) (tCons (tC (.int 0)) (tCons (tC (.int 1)) (tCons (tC (.int 1)) (tCons (tC (.int 2)) (tNil))))))) (tNil))))) (tCons (tOp (rI0 fun i j => .int (i + j)) (tC (.int 2)) (tCall (sp_l_of K) [] E0 (tCons (tVar 0) (tCons (tLst (tCons (tC (.int 0)) (tCons (tC (.int 1)) (tCons (tC (.int 1)) (tCons (tC (.int 2)) (tNil)))))) (tNil))))) (tNil)))) (tSeq (tPar 4 5 (tCons (tCall (sp_l_of K) [] E0 (tCons (tVar 0) (tCons (tLst (tCons (tC (.int 3)) (tCons (tC (.int 5)) (tCons (tC (.int 7)) (tCons (tC (.int 12)) (tNil)))))) (tNil)))) (tCons (tLst (tNil)) (tNil)))) (tSeq (tFor (iRng1 (tCons (tVar 2) (tNil))) (gName 6) (tSeq (tAsg (tLst (tNil)) (gName 7)) (tSeq (tFor (iRng1 (tCons (tVar 3) (tNil))) (gName 8) (tSeq (tAsg (tCB (rMin) (tCons (tCall (sp_l_draw K) [] E0 (tCons (tVar 0) (tCons (tIf (tB (tVar 1)) (tC (.int 2)) (tCall (sp_l_of K) [] E0 (tCons (tVar 0) (tCons (tLst (tCons (tC (.int 2)) (tCons (tC (.int 3)) (tCons (tC (.int 13)) (tNil))))) (tNil))))) (tNil)))) (tCons (tVar 4) (tNil)))) (gName 9)) (tSeq (tAsg (tOp (rI0 fun i j => .int (i - j)) (tVar 4) (tVar 9)) (gName 4)) (tDrop (tBM K "list" rAppend (tVar 7) (tCons (tVar 9) (tNil))))))) (tDrop (tBM K "list" rAppend (tVar 5) (tCons (tCB (rTupleOf K) (tCons (tVar 7) (tNil))) (tNil))))))) (tRet (tCB (rTupleOf K) (tCons (tVar 5) (tNil))))))
theorem len_l_table {K : PySem.W.Frag} {vs : List V} {H : Hp} {Q : VK} {E : XK} (h : sp_l_table K vs H Q E) : vs.length = 2 := spSt_len h fun n ds ⟨_, e, _⟩ => by rw [e]; rfl
theorem run_l_table (K : PySem.W.Frag) (S : StA) (A0 : Addr → Prop) (n : Nat) (ds : List PyData) (h : pre_l_table n ds) : RunS (stW S A0) (t_l_table K) n (.st S.st :: (ds.map Slot.d ++ List.replicate (10 - (ds.length + 1)) .non)) fun o => ∃ n' d, o = .rt n' d ∧ post_l_table n ds n' d := by
  obtain ⟨sg, rfl, hn⟩ := h
  refine rs_seq (rs_parS (esa_cons (P0 := fun n' d => n' = n + 1 ∧ ∃ r : Nat, r ≤ 2 ∧ d = natD (2 + r)) (es_op (EvP.s (P := fun n' d => n' = n ∧ d = natD 2) ep_int ⟨rfl, rfl⟩) ?_) ?_))
  · rintro n1 _ ⟨rfl, rfl⟩
    refine (es_of (xs := [natD 0, natD 0, natD 1, natD 1, natD 2]) rfl (EvF.p (ef_lst (ea_cons ep_int (ea_cons ep_int (ea_cons ep_int (ea_cons ep_int (ea_cons ep_int ea_nil))))) (by simp))) (by simp) (by simp) (by omega)).mono ?_
    rintro n2 d ⟨rfl, hd⟩
    simp only [List.mem_cons, List.not_mem_nil, or_false] at hd
    rcases hd with rfl | rfl | rfl | rfl | rfl <;> exact ⟨_, od_i, rfl, _, by omega, rfl⟩
  rintro n1 _ ⟨rfl, r1, hr1, rfl⟩
  refine esa_cons (P0 := fun n' d => n' = n + 2 ∧ ∃ r : Nat, r ≤ 2 ∧ d = natD (2 + r)) (es_op (EvP.s (P := fun n' d => n' = n + 1 ∧ d = natD 2) ep_int ⟨rfl, rfl⟩) ?_) ?_
  · rintro n1 _ ⟨rfl, rfl⟩
    refine (es_of (xs := [natD 0, natD 1, natD 1, natD 2]) rfl (EvF.p (ef_lst (ea_cons ep_int (ea_cons ep_int (ea_cons ep_int (ea_cons ep_int ea_nil)))) (by simp))) (by simp) (by simp) (by omega)).mono ?_
    rintro n2 d ⟨rfl, hd⟩
    simp only [List.mem_cons, List.not_mem_nil, or_false] at hd
    rcases hd with rfl | rfl | rfl | rfl <;> exact ⟨_, od_i, rfl, _, by omega, rfl⟩
  rintro n1 _ ⟨rfl, r2, hr2, rfl⟩
  refine esa_of ea_nil ⟨_, _, rfl, ?_⟩
  refine rs_seq (rs_parSO ((es_of (xs := [natD 3, natD 5, natD 7, natD 12]) rfl (EvF.p (ef_lst (ea_cons ep_int (ea_cons ep_int (ea_cons ep_int (ea_cons ep_int ea_nil)))) (by simp))) (by simp) (by simp) (by omega)).mono ?_))
  rintro n1 d ⟨rfl, hd⟩ p
  obtain ⟨rm, hrm, rfl⟩ : ∃ rm : Nat, rm ≤ 12 ∧ d = natD rm := by
    simp only [List.mem_cons, List.not_mem_nil, or_false] at hd
    rcases hd with rfl | rfl | rfl | rfl <;> exact ⟨_, by omega, rfl⟩
  clear hd
  refine sfor (xs := List.range (2 + r1)) (enc := natD) (f := fun k ss => ss.set 6 (.d (natD k)))
    (fun i n' ss' => n ≤ n' ∧ n' ≤ n + 3 + 8 * i ∧ ∃ (R : NT) (room : Nat) (s7 s8 s9 s6 : Slot), ss' = [.st S.st, .d (.bool sg), .d (natD (2 + r1)), .d (natD (2 + r2)), .d (natD room), .own p (R.map rowN), s6, s7, s8, s9] ∧ R.length = i ∧ (∀ r ∈ R, r.length = 2 + r2 ∧ (sg = true → ∀ x ∈ r, x ≤ 1)) ∧ (R.map List.sum).sum + room ≤ 12)
    (wk_rn (m := 2 + r1) (by walk_at "ev") (by omega)) (fun _ _ => tg_name) ⟨by omega, by omega, [], rm, _, _, _, _, rfl, rfl, fun r hr => (by cases hr), by simpa using hrm⟩ ?_ ?_
  · rintro i k n1 _ hi ⟨hn1, hn2, R, room, s7, s8, s9, s6, rfl, hRl, hR, hsum⟩
    have hi' : i < 2 + r1 := by
      have := (List.getElem?_eq_some_iff.mp hi).1
      simpa using this
    refine snew (ef_lst ea_nil (by simp)) fun q => ?_
    refine sfor (xs := List.range (2 + r2)) (enc := natD) (f := fun k ss => ss.set 8 (.d (natD k)))
      (fun j n' ss' => n1 ≤ n' ∧ n' ≤ n1 + 2 * j ∧ ∃ (r : List Nat) (room : Nat) (s8 s9 : Slot), ss' = [.st S.st, .d (.bool sg), .d (natD (2 + r1)), .d (natD (2 + r2)), .d (natD room), .own p (R.map rowN), .d (natD k), .own q (r.map natD), s8, s9] ∧ r.length = j ∧ (sg = true → ∀ x ∈ r, x ≤ 1) ∧ (R.map List.sum).sum + r.sum + room ≤ 12)
      (wk_rn (m := 2 + r2) (by walk_at "ev") (by omega)) (fun _ _ => tg_name) ⟨by omega, by omega, [], room, _, _, rfl, rfl, fun _ x hx => (by cases hx), by simpa using hsum⟩ ?_ ?_
    · rintro j l n2 _ hj ⟨hn3, hn4, r, room, s8, s9, rfl, hrl, hr, hs⟩
      have hj' : j < 2 + r2 := by
        have := (List.getElem?_eq_some_iff.mp hj).1
        simpa using this
      refine saS (P0 := fun n' d => n2 ≤ n' ∧ n' ≤ n2 + 2 ∧ ∃ x : Nat, d = natD x ∧ x ≤ room ∧ (sg = true → x ≤ 1)) (es_cb (PA0 := fun n' ds => n2 ≤ n' ∧ n' ≤ n2 + 2 ∧ ∃ x : Nat, ds = [natD x, natD room] ∧ (sg = true → x ≤ 1)) (esa_cons
        (es_drawS (P0 := fun n' d => n2 ≤ n' ∧ n' ≤ n2 + 1 ∧ (sg = true → d = natD 2)) rfl (es_if (et_b (ep_var rfl)) (fun e => EvP.s (d := natD 2) ep_int ⟨2, rfl, by decide, by decide, by omega, Nat.le_refl _, by omega, fun _ => rfl⟩) fun e => ?_)) ?_) ?_) ?_
      · refine (es_of (xs := [natD 2, natD 3, natD 13]) rfl (EvF.p (ef_lst (ea_cons ep_int (ea_cons ep_int (ea_cons ep_int ea_nil))) (by simp))) (by simp) (by simp) (by omega)).mono ?_
        rintro n3 d ⟨rfl, hd⟩
        simp only [List.mem_cons, List.not_mem_nil, or_false] at hd
        rcases hd with rfl | rfl | rfl <;> exact ⟨_, rfl, by decide, by decide, by omega, by omega, by omega, fun z => absurd (e.symm.trans z) (by decide)⟩
      · rintro n3 _ ⟨n4, lim, x, ⟨h1, h2, h3⟩, rfl, rfl, hx⟩
        refine esa_of (ea_cons (ep_var (d := natD room) rfl) ea_nil) ⟨by omega, by omega, x, rfl, fun z => ?_⟩
        have h4 := h3 z
        injection h4 with h4
        have : lim = 2 := Int.ofNat.inj h4
        omega
      · rintro n3 _ ⟨h1, h2, x, rfl, hx⟩
        refine ⟨_, ca_min, h1, h2, min x room, ?_, Nat.min_le_right _ _, fun z => Nat.le_trans (Nat.min_le_left _ _) (hx z)⟩
        show PyData.int _ = .int _
        congr 1
        omega
      · rintro n3 _ ⟨h1, h2, x, rfl, hx, hx1⟩
        refine sa (d := natD (room - x)) (ep_is (ep_op (ep_var (d := .int (room : Nat)) rfl) (ep_var (d := .int (x : Nat)) rfl) od_i) (by show PyData.int _ = .int _; congr 1; omega)) ?_
        refine rs_app (i := 7) (a := q) rfl (by rw [List.length_map]; omega) (ep_var rfl) ⟨by omega, by omega, r ++ [x], room - x, .d (natD l), .d (natD x), ?_, by rw [List.length_append, hrl]; rfl, fun z y hy => ?_, ?_⟩
        · rw [List.map_append]
          rfl
        · rcases List.mem_append.mp hy with w | w
          · exact hr z y w
          · rw [List.mem_singleton.mp w]
            exact hx1 z
        · rw [List.sum_append]
          simp
          omega
    · rintro n2 _ ⟨hn3, hn4, r, room, s8, s9, rfl, hrl, hr, hs⟩
      rw [List.length_range] at hrl hn4
      refine rs_freeze (i := 7) rfl (rs_app (i := 5) (a := p) rfl (by rw [List.length_map]; omega) (ep_cb (ea_cons (ep_var rfl) ea_nil) ca_tuple) ⟨by omega, by omega, R ++ [r], room, .d (.list (r.map natD)), s8, s9, .d (natD k), ?_, by rw [List.length_append, hRl]; rfl, fun y hy => ?_, ?_⟩)
      · rw [List.map_append]
        rfl
      · rcases List.mem_append.mp hy with w | w
        · exact hR y w
        · rw [List.mem_singleton.mp w]
          exact ⟨hrl, hr⟩
      · rw [List.map_append, List.sum_append]
        simp
        omega
  · rintro n1 _ ⟨hn1, hn2, R, room, s7, s8, s9, s6, rfl, hRl, hR, hsum⟩
    rw [List.length_range] at hRl hn2
    refine rs_freeze (i := 5) rfl (rs_ret (ep_cb (ea_cons (ep_var rfl) ea_nil) ca_tuple) ⟨n1, _, rfl, ?_⟩)
    intro sg' e
    injection e with e _
    injection e with e
    subst e
    exact ⟨hn1, by omega, R, 2 + r1, 2 + r2, rfl, ⟨⟨hRl, fun r hr => (hR r hr).1, by omega, by omega, by omega, by omega⟩, by omega, by omega, by omega, fun z r hr => (hR r hr).2 z⟩, by omega, by omega⟩
theorem pure_l_table {K : PySem.W.Frag} {vs : List V} {H : Hp} {Q : VK} {E : XK} (h : sp_l_table K vs H Q E) : t_l_table K { nx := fun _ H' => Q .non H', rt := Q } (L2.start ["_law_state", "_law_signed", "_law_high", "_law_wide", "_law_room", "_law_rows", "_law_k", "_law_row", "_law_spot", "_law_item"] vs) H := pureS_of h fun S A0 n ds hp => run_l_table K S A0 n ds hp
section
variable {P : Program} {w : World} {K : PySem.W.Frag} {mg : Str → Option Value} {base : Heap}
abbrev N_l_table : List Str := ["_law_state", "_law_signed", "_law_high", "_law_wide", "_law_room", "_law_rows", "_law_k", "_law_row", "_law_spot", "_law_item"]
theorem sc_l_table : FnScope N_l_table ["_law_state", "_law_signed"] (defScope s_l_table) := ⟨rfl, rfl, rfl, by decide +kernel, rfl, by decide +kernel, by decide +kernel⟩
theorem ok_l_table (T : Tx K mg) : ∃ fd, FnOk P w K mg base CX0 4 (He.ga K "_law_table") fd ["_law_state", "_law_signed"] (sp_l_table K) ∧ Binds K fd ["_law_state", "_law_signed"] [] := by
  have nd := sc_l_table.nd
  obtain ⟨_, G_l_draw, b_l_draw⟩ := ok_l_draw (P := P) (w := w) (base := base) T
  obtain ⟨_, G_l_of, b_l_of⟩ := ok_l_of (P := P) (w := w) (base := base) T
  obtain ⟨fd, F⟩ := T.d_l_table
  refine ⟨fd, FunD.ok F sc_l_table (fun vs H Q E h => len_l_table h) (fun cdv A outer s H vs Q E hr h => ⟨t_l_table K, PSs.nox ?_, pure_l_table h⟩), F.bindsN fun _ _ _ _ _ _ us hl => match us, hl with | [_, _], _ => rfl⟩
  exact pss_cons (ps_par (i := 2) (j := 3) rfl nd rfl rfl (by decide) rfl rfl (pa_cons (pe_op op_add (pe_int) (pe_call G_l_of (hr.mono (by omega)) rfl T.g_l_of T.k_l_of b_l_of .nil pass0 (pa_cons (pv 0) (pa_cons (pe_lst (pa_cons (pe_int) (pa_cons (pe_int) (pa_cons (pe_int) (pa_cons (pe_int) (pa_cons (pe_int) (pa_nil))))))) (pa_nil))))) (pa_cons (pe_op op_add (pe_int) (pe_call G_l_of (hr.mono (by omega)) rfl T.g_l_of T.k_l_of b_l_of .nil pass0 (pa_cons (pv 0) (pa_cons (pe_lst (pa_cons (pe_int) (pa_cons (pe_int) (pa_cons (pe_int) (pa_cons (pe_int) (pa_nil)))))) (pa_nil))))) (pa_nil))) (by rfl)) (pss_cons (ps_par (i := 4) (j := 5) rfl nd rfl rfl (by decide) rfl rfl (pa_cons (pe_call G_l_of (hr.mono (by omega)) rfl T.g_l_of T.k_l_of b_l_of .nil pass0 (pa_cons (pv 0) (pa_cons (pe_lst (pa_cons (pe_int) (pa_cons (pe_int) (pa_cons (pe_int) (pa_cons (pe_int) (pa_nil)))))) (pa_nil)))) (pa_cons (pe_lst (pa_nil)) (pa_nil))) (by rfl)) (pss_cons (ps_for PassesOwn.never rfl (pi_range1 rfl T.f_range (pa_cons (pv 2) (pa_nil))) (pg_name (i := 6) nd rfl (Or.inl rfl)) (pss_cons (ps_set (i := 7) nd rfl (Or.inl rfl) (pe_lst (pa_nil))) (pss_cons (ps_for PassesOwn.never rfl (pi_range1 rfl T.f_range (pa_cons (pv 3) (pa_nil))) (pg_name (i := 8) nd rfl (Or.inl rfl)) (pss_cons (ps_set (i := 9) nd rfl (Or.inl rfl) (pe_callB (call_min2 rfl) (by rfl) T.f_min (by decide +kernel) (pa_cons (pe_call G_l_draw (hr.mono (by omega)) rfl T.g_l_draw T.k_l_draw b_l_draw .nil pass0 (pa_cons (pv 0) (pa_cons (pe_ifExp (pt_val (pv 1)) (pe_int) (pe_call G_l_of (hr.mono (by omega)) rfl T.g_l_of T.k_l_of b_l_of .nil pass0 (pa_cons (pv 0) (pa_cons (pe_lst (pa_cons (pe_int) (pa_cons (pe_int) (pa_cons (pe_int) (pa_nil))))) (pa_nil))))) (pa_nil)))) (pa_cons (pv 4) (pa_nil))))) (pss_cons (ps_set (i := 4) nd rfl (Or.inl rfl) (pe_op op_sub (pv 4) (pv 9))) (pss_one (ps_expr (pe_bm PySem.F.plainAttrs_list PySem.F.slot_list_append PySem.F.type_list_append mt_append (pv 7) (pa_cons (pv 9) (pa_nil)))))))) (pss_one (ps_expr (pe_bm PySem.F.plainAttrs_list PySem.F.slot_list_append PySem.F.type_list_append mt_append (pv 5) (pa_cons (pe_callTy call_tuple_of (by rfl) T.f_tuple (by decide +kernel) (pa_cons (pv 7) (pa_nil))) (pa_nil)))))))) (pss_one (ps_ret (pe_callTy call_tuple_of (by rfl) T.f_tuple (by decide +kernel) (pa_cons (pv 5) (pa_nil)))))))
end
end Uh

set_option Elab.async false
set_option linter.all false
set_option maxRecDepth 100000
set_option maxHeartbeats 1000000
/-! Several except clauses that name what they caught. -/
namespace Uh
open PySem PySem.Spec PyProof.Rows L2
open Evl (Ex)
/-- the ends of such a suite: the name goes -/
abbrev dAs (i : Nat) (D : Ends) : Ends := { nx := fun τ G => D.nx (τ.set i none) G, rt := D.rt, bk := fun τ G => D.bk (τ.set i none) G, ct := fun τ G => D.ct (τ.set i none) G }
def wMas (K : PySem.W.Frag) (i : Nat) (Wo : WX) (D : Ends) : List (Value × (Addr → Value → Option Addr → TS)) → WX
  | [] => Wo
  | (c, ts) :: r => fun k d σ H => ∃ b, PySem.W.exmOne K k c = some b ∧ (b = true → ∀ a, H a = none → ts a k d (dAs i D) (σ.set i (some (.ref a))) H) ∧ (b = false → wMas K i Wo D r k d σ H)
inductive HdsAs (X : Cx) (y : Str) : List ExceptHandler → List (Value × (Addr → Value → Option Addr → TS)) → Prop
  | nil : HdsAs X y [] []
  | cons {x : Str} {c : Value} {ts : Addr → Value → Option Addr → TS} {st : Stmt} {sts : List Stmt} {p1 p2 : Pos} {hs : List ExceptHandler} {l : List (Value × (Addr → Value → Option Addr → TS))} (nm : Names X x c)
      (su : ∀ (a : Addr) (oe : Obj) (k : Value) (d : Option Addr) (pn : List (Addr × Obj)), Zc k d oe → (∃ vs, oe.data = .fields vs) → PSs (X.suite a ((a, oe) :: pn)) (st :: sts) (ts a k d)) (r : HdsAs X y hs l) :
      HdsAs X y (.ExceptHandler (some (.Name x p1)) (some y) (st :: sts) p2 :: hs) ((c, ts) :: l)
section
variable {X : Cx} {body : List Stmt} {h1 : ExceptHandler} {hs : List ExceptHandler} {l : List (Value × (Addr → Value → Option Addr → TS))} {pos : Pos} {tb : WX → TS} {Wo : WX} {i : Nat} {y : Str}
theorem ps_try_mas (st : X.stack = X.env :: X.outer) (fr : X.env.frame = some X.env.locals) (nd : X.N.Nodup) (hy : X.N[i]? = some y) (loc : X.env.kindOf y = some .local) (tk : Takes X Wo)
    (hb : ∀ (W : WX) (pn : List (Addr × Obj)) (xe : Value → Shared → Prop), Takes (X.tr pn xe) W → PassesOwn (model X.prog X.w) X.A X.env xe → PSs (X.tr pn xe) body (tb W))
    (hh : HdsAs X y (h1 :: hs) l) : PS X (.Try body (h1 :: hs) [] [] pos) (fun D σ H => tb (wMas X.K i Wo D l) D σ H) := by
  refine ⟨fun pins s σ H D J0 run => ?_⟩
  have good := J0.ok
  have frames : X.A.frames = some (X.env :: X.outer) := by rw [good.frames, st]
  have inLoc : Loc X.env.scope y := .inl loc
  refine wpAny_Try_except ?_
  let catcher : Value → Shared → Prop := fun e t1 => wpAny (model X.prog X.w) X.A (noteFrame e X.env) (fun _ t2 => wpAny (model X.prog X.w) X.A (setFlight e none) (fun _ t3 => wpAny (model X.prog X.w) X.A (handleBy e X.env (h1 :: hs)) (SP X pins D) X.xe t3) X.xe t2) X.xe t1
  refine wpAny_mono ((hb (wMas X.K i Wo D l) (X.pn ++ pins) catcher (fun u t xx => ?_) PassesOwn.looking).run [] s σ H D (J0.toTry _) run) (fun fl t done => ?_) (fun e t z => z)
  · obtain ⟨a, B, sI, pins', τ, G, k, d, rfl, Jt, nb, up, sky, na, os, ag, wish⟩ := xx
    have J : Inv X pins τ G sI := Jt.ofTry good
    have skyB : Sky B (X.env :: X.outer) a (Zc k d) X.env.locals t.heap := by rw [← st]; exact sky
    show wpAny (model X.prog X.w) X.A (noteFrame (.ref a) X.env) _ _ _
    refine Sky.land Zc.steady frames fr skyB fun g3 fl3 up3 => ?_
    have J3 : Inv X pins τ G { t with heap := g3 } := J.landed nb fl3.1 (up.trans up3) os ag
    obtain ⟨oe, vs, at3, z3, dat3⟩ := fl3.there
    have out : a ∉ frs (X.env :: X.outer) := fun hm => by
      obtain ⟨_, o2, e2, hnf⟩ := fl3.2.2.1.mem hm
      rw [at3] at e2
      cases e2
      exact hnf _ dat3
    have notL : a ≠ X.env.locals := fun z => out (List.mem_filterMap.mpr ⟨X.env, List.mem_cons_self, by rw [fr, z]⟩)
    have notF : a ∉ X.fs := fun hm => by
      obtain ⟨e, he, q⟩ := List.mem_filterMap.mp hm
      exact out (List.mem_filterMap.mpr ⟨e, List.mem_cons_of_mem _ he, q⟩)
    have S3 := J3.suite at3 dat3 na notL notF
    have go : ∀ {hs' : List ExceptHandler} {l' : List (Value × (Addr → Value → Option Addr → TS))}, HdsAs X y hs' l' → wMas X.K i Wo D l' k d τ G →
        wpAny (model X.prog X.w) X.A (handleBy (.ref a) X.env hs') (SP X pins D) X.xe { t with heap := g3 } := by
      intro hs' l' hk
      induction hk with
      | nil =>
        intro wi
        refine wpAny_handleBy_nil ?_
        obtain ⟨_, _, _, o4, v4, T4, oT, t4, he4, hz4, hd4, h14, hr4⟩ := id fl3
        unfold PySem.passOn
        refine wpAny_bind (wpAny_field he4 hd4 h14 ?_)
        rw [if_neg (show ¬ ((Value.ref T4 == Value.none) = true) from by simp)]
        have away : wpAny (model X.prog X.w) X.A (setFlight (.ref a) X.env.frame) (fun _ t5 => wpAny (model X.prog X.w) X.A (throw (.ref a) : Sem Flow) (SP X pins D) X.xe t5) X.xe { t with heap := g3 } := by
          rw [fr]
          refine HandSPX.setFlight_upZ fl3 fun g5 hg5 up5 => wpAny_throw (tk _ _ ?_)
          exact ⟨a, B, sI, pins, τ, G, k, d, rfl, J, nb, (up.trans up3).trans up5, .inr (.inr (by rw [st]; exact hg5)), na, os, ag, wi⟩
        first
          | exact wpAny_bind (wpAny_pure (wpAny_bind away))
          | exact wpAny_bind away
      | @cons x c ts b0 sts p1 p2 hs2 l2 nm su _ ih =>
        intro wi
        obtain ⟨b, hb1, yes, no⟩ := wi
        refine wpAny_handleBy_cons (codeAny_handlers_test ?_) (by intro q; cases q)
        have look : PySem.W.Looks (model X.prog X.w) g3 (typeOf (.ref a)) k := fun A Q E s kk q => wpAny_typeOf_ref (kk _ _ at3) (by rw [z3.1]; exact q)
        have match1 := PySem.W.exm_one (M := model X.prog X.w) (J3.kIn) look hb1
        have named : ∀ {Q : Value → Shared → Prop} {E : Value → Shared → Prop}, Q c { t with heap := g3 } → wpAny (model X.prog X.w) (X.A.mark (some (.ref a))) (eval (.Name x p1) X.env) Q E { t with heap := g3 } := fun {Q E} q => by
          obtain ⟨gl, dbg, gm | ⟨gm, gv, gn⟩⟩ := nm
          · exact ld_glob (X := X.suite a ((a, oe) :: (X.pn ++ pins))) S3 gl gm q dbg
          · exact ld_blt (X := X.suite a ((a, oe) :: (X.pn ++ pins))) S3 gl gm gv q gn dbg
        refine named (match1.here ?_)
        cases b with
        | false =>
          show wpAny _ X.A (handleBy (.ref a) X.env hs2) _ _ _
          exact ih (no rfl)
        | true =>
          refine codeAny_handlers_suite_as ?_
          refine HandSPX.lands_againZ fl3 fun g6 fl6 up6 => ?_
          have J6 : Inv X pins τ G { t with heap := g6 } := J.landed nb fl6.1 ((up.trans up3).trans up6) os ag
          obtain ⟨oe6, vs6, at6, z6, dat6⟩ := fl6.there
          have S6 := J6.suite at6 dat6 na notL notF
          refine store_ok (X := X.suite a ((a, oe6) :: (X.pn ++ pins))) (v := .ref a) S6 nd hy inLoc rfl (fun t7 S7 => ?_) (.inr loc)
          refine wpAny_mono ((su a oe6 k d (X.pn ++ pins) z6 ⟨_, dat6⟩).run [] t7 _ G _ S7 (yes rfl a na)) (fun fl t8 done => ?_) (fun _ _ z => False.elim z)
          have goes : ∀ {τ8 : L2.St} {G8 : Hp} {Q : Shared → Prop}, Inv (X.suite a ((a, oe6) :: (X.pn ++ pins))) [] τ8 G8 t8 → (∀ t9, Inv X pins (τ8.set i none) G8 t9 → Q t9) →
              wpAny (model X.prog X.w) X.A (do bindName X.env y .none; unbindBehindTheSuite X.env y p2) (fun _ t9 => Q t9) X.xe t8 := fun {τ8 G8 Q} S8 hq => gone_ok (S8.unsuite good) nd hy loc hq
          cases fl with
          | ret u =>
            obtain ⟨v8, τ8, G8, S8, r8, q8⟩ := done
            exact goes S8 fun t9 J9 => ⟨_, _, _, J9, r8, q8⟩
          | next =>
            obtain ⟨τ8, G8, S8, q8⟩ := done
            exact goes S8 fun t9 J9 => ⟨_, _, J9, q8⟩
          | brk =>
            obtain ⟨τ8, G8, S8, q8⟩ := done
            exact goes S8 fun t9 J9 => ⟨_, _, J9, q8⟩
          | cont =>
            obtain ⟨τ8, G8, S8, q8⟩ := done
            exact goes S8 fun t9 J9 => ⟨_, _, J9, q8⟩
    exact go hh wish
  · cases fl with
    | ret u =>
      obtain ⟨v, τ, G, Jt, r, q⟩ := done
      exact ⟨v, τ, G, Jt.ofTry good, r, q⟩
    | next =>
      obtain ⟨τ, G, Jt, q⟩ := done
      exact wpAny_execs_nil ⟨τ, G, Jt.ofTry good, q⟩
    | brk =>
      obtain ⟨τ, G, Jt, q⟩ := done
      exact ⟨τ, G, Jt.ofTry good, q⟩
    | cont =>
      obtain ⟨τ, G, Jt, q⟩ := done
      exact ⟨τ, G, Jt.ofTry good, q⟩
end
/-- isinstance(e, c), e the caught error, that has a dict -/
def rIsD (K : PySem.W.Frag) (C a : Addr) (k : Value) (d : Option Addr) : List V → Hp → VK → Prop := fun xs H Q => ∃ (c : V) (cv : Value) (b : Bool) (dd : Addr) (fs : List (Str × V)), xs = [.ref a, c] ∧ k = .ref C ∧ d = some dd ∧ H dd = some (.xd fs) ∧ (∀ u, RelV c u → u = cv) ∧ PySem.W.kitOne K (.ref C) cv = some b ∧ Q (.bl b) H
theorem call_isD {X : Cx} {a C : Addr} {oe : Obj} {k : Value} {d : Option Addr} {pn : List (Addr × Obj)} (T : ExcC X.K C) (hz : Zc k d oe) (hf : ∃ vs, oe.data = .fields vs) : CallR (X.suite a ((a, oe) :: pn)) (.builtin "isinstance") (rIsD X.K C a k d) := by
  intro pins s σ H xs us Q I r h
  obtain ⟨c, cv, b, dd, fs, rfl, rfl, rfl, hdd, hcv, e, q⟩ := h
  cases r with
  | cons rx rr =>
    cases rr with
    | cons rt rr =>
      cases rr
      cases rx
      have ec := hcv _ rt
      subst ec
      obtain ⟨hget, _⟩ := I.pin (a, oe) (List.mem_append.mpr (.inl List.mem_cons_self))
      obtain ⟨vs, hv⟩ := hf
      obtain ⟨mA, hns, _⟩ : ObjOk X.prog X.w H s.heap dd (.xd fs) := I.hok dd _ hdd
      obtain ⟨od, ho, _⟩ := lookIn_ns hns
      have J : PySem.W.InstAt s.heap a oe C (some od) := ⟨hget, hz.1, by unfold PySem.W.notCls; rw [hv] <;> rfl, by rw [hz.2]; exact ho⟩
      have hcl : (PySem.W.clsIn X.K C).isSome = true := by
        obtain ⟨cd, hc, _⟩ := PySem.W.any_some T.hd
        rw [hc]
        rfl
      exact PySem.W.kia_one (PySem.W.kitx_exc hcl T.hg T.hk T.hs T.ha T.hn T.ht T.hm) I.kIn J e (fun z => nomatch z) fun tk => ⟨.bl b, H, I.kept (t' := tk) fun _ _ z => z, rfl, q⟩
end Uh

set_option Elab.async false
set_option linter.all false
set_option maxRecDepth 100000
set_option maxHeartbeats 400000
namespace Uh
open PySem PySem.Spec PyProof.Rows L2
open Evl (Ex)
local macro_rules | `(tactic| walk_at "ev") => `(tactic| repeat (first
  | with_reducible exact ep_var rfl | with_reducible exact ep_int | with_reducible exact ep_bl | with_reducible exact ep_non | with_reducible exact ep_str
  | with_reducible exact ea_nil | with_reducible apply ea_cons | with_reducible apply ep_tupG | with_reducible apply ef_lstG | with_reducible exact et_yes
  | with_reducible apply ca_isiG | with_reducible exact kit_tuple _ | with_reducible exact kit_int _ | with_reducible exact kit_bool _ | with_reducible exact kit_str _
  | with_reducible apply et_test | with_reducible apply et_b | with_reducible apply et_not | with_reducible apply et_orG | with_reducible apply et_andG
  | with_reducible apply ep_orG | with_reducible apply ep_andG | with_reducible apply ep_notV | with_reducible apply ep_chainG
  | with_reducible apply ep_inG | with_reducible apply ep_op | with_reducible apply ep_un | with_reducible apply ep_cb
  | with_reducible exact od_i | with_reducible exact od_b | with_reducible exact od_eqI | with_reducible exact od_neI | with_reducible exact od_eqS | with_reducible exact od_eqB | with_reducible exact od_isN | with_reducible exact od_notN | with_reducible exact ud_i
  | with_reducible exact od_ixT at3_0 | with_reducible exact od_ixT at3_1 | with_reducible exact od_ixT at3_2 | with_reducible exact od_ixT at2_0 | with_reducible exact od_ixT at2_1 | with_reducible exact od_ixT at1_0
  | with_reducible apply od_catA | (with_reducible show _ + _ ≤ 100000; first | omega | (simp; done) | (simp; omega))
  | with_reducible exact ca_lenT | with_reducible exact ca_lenL
  | exact (show allS _ = true from rfl) | exact (show Nat.ble _ 100000 = true from rfl)))
def tTryAs (K : PySem.W.Frag) (i : Nat) (tb : WX → TS) (l : List (Value × (Addr → Value → Option Addr → TS))) : TS := fun D σ H => tb (wMas K i (fun _ _ _ _ => False) D l) D σ H
theorem ps_tryAs {X : Cx} {body : List Stmt} {h1 : ExceptHandler} {hs : List ExceptHandler} {l : List (Value × (Addr → Value → Option Addr → TS))} {pos : Pos} {tb : WX → TS} {i : Nat} {y : Str} (st : X.stack = X.env :: X.outer) (fr : X.env.frame = some X.env.locals) (nd : X.N.Nodup) (hy : X.N[i]? = some y) (loc : X.env.kindOf y = some .local) (tk : Takes X fun _ _ _ _ => False)
    (hb : ∀ (W : WX) (pn : List (Addr × Obj)) (xe : Value → Shared → Prop), Takes (X.tr pn xe) W → PassesOwn (model X.prog X.w) X.A X.env xe → PSs (X.tr pn xe) body (tb W))
    (hh : HdsAs X y (h1 :: hs) l) : PS X (.Try body (h1 :: hs) [] [] pos) (tTryAs X.K i tb l) := ps_try_mas st fr nd hy loc tk hb hh
def TryAs (W : Wd) (K : PySem.W.Frag) (l : List (Value × (Addr → Value → Option Addr → TS))) (i : Nat) (P : Out → Prop) : Out → Prop
  | .xc n' ss' c => ∀ (D : Ends) (H : Hp) (σ : L2.St) (cls : Value) (d : Option Addr), Sl W n' H σ ss' → XcIs (avd W (owns ss')) H c cls d → Goes W (owns ss') H D P → wMas K i (fun _ _ _ _ => False) D l cls d σ H
  | o => P o
section
variable {W : Wd} {n : Nat} {ss : List Slot} {K : PySem.W.Frag} {tb : WX → TS} {P : Out → Prop} {i : Nat} {l : List (Value × (Addr → Value → Option Addr → TS))}
theorem rs_tryAs (h : ∀ k : WX, RunS (W.wish k) (tb k) n ss (TryAs W K l i P)) : RunS W (tTryAs K i tb l) n ss P := fun D H σ s g =>
  h _ D H σ s.unwish ⟨fun n' ss' H' σ' p t f s' => g.nx n' ss' H' σ' p t.wish f s'.wish, fun n' ss' H' σ' p t f s' => g.bk n' ss' H' σ' p t.wish f s'.wish, fun n' ss' H' σ' p t f s' => g.ct n' ss' H' σ' p t.wish f s'.wish,
    fun n' d v H' p t ok r => g.rt n' d v H' p t.wish ok r, fun n' ss' c cls d H' σ' p t f s' x => p D H' σ' cls d s'.wish x (g.later t.wish f)⟩
/-- the suite that notes a word and a field -/
theorem as_note {j : Nat} {c : Xc} {C : Addr} {wd : Str} {a : Addr} {cls : Value} {d : Option Addr} {D : Ends} {H : Hp} {σ : L2.St} {tt : TT} {tb : TE} (hC : c.cls = .ref C) (hi : i < ss.length) (ij : j ≠ i) (s : Sl W n H σ ss) (x : XcIs (avd W (owns ss)) H c cls d) (G : Goes W (owns ss) H D P)
    (hp : P (.nx n (((ss.set i (.st a)).set j (.d (.list [.str wd, c.d]))).set i .non)))
    (ht : ∀ Q : Bool → Hp → Prop, (∀ dd fs, cls = .ref C → d = some dd → H dd = some (.xd fs) → (σ.set i (some (.ref a)))[i]? = some (some (.ref a)) → Q true H) → tt (σ.set i (some (.ref a))) H Q) :
    (tAsg (tIf tt (tLst (tCons (tC (.str wd)) (tCons (tXf a cls d C c.f (tVar i)) tNil))) tb) (gName j)) (dAs i D) (σ.set i (some (.ref a))) H := by
  have hl : i < σ.length := by rw [s.fits.len]; exact hi
  have h4 : (σ.set i (some (.ref a)))[i]? = some (some (.ref a)) := by simp [hl]
  obtain ⟨ec, dd, fs, v, ed, hdd, hlook, hv⟩ := x
  rw [hC] at ec
  refine ht _ fun _ _ _ _ _ _ => ?_
  rw [if_pos rfl]
  refine ⟨_, h4, rfl, ec, dd, fs, v, ed, hdd, hlook, ?_⟩
  refine ⟨Evl.sz_of (n := 2) (by decide), fun p hnp => ?_⟩
  have s1 : Sl W n (upd H p (.lst [.str wd, v])) (σ.set i (some (.ref a))) (ss.set i (.st a)) := (s.ext (Ex.new hnp)).plain rfl rfl
  have da : Da (avd W (owns ss)) (upd H p (.lst [.str wd, v])) (.list [.str wd, c.d]) (.ref p) := da_newL s.live hnp (by simp only [DaL]; exact ⟨by simp [Da], hv, trivial⟩)
  have s2 := s1.set (i := j) (da.weak fun z hz => hz.imp id fun m => (owns_set_sub rfl).subset m)
  exact G.nx n _ _ _ hp (.of_ex (Ex.new hnp)) (Fr.plain rfl (Fr.plain rfl (Fr.plain rfl .self))) s2.unset
end
def ndtL : Ndt → PyData
  | .ok => .none
  | .bad x => .list [.str "bad", x]
  | .great => .list [.str "great", .int 12]
def askR (w : Str) (sg : Bool) (a b : Nat) (T : NT) : PyData := if w = "names" then tabN (upA sg a b T) else if w = "columns" then tabN (upB sg a b T) else if w = "corner" then tabN (corn sg a b T) else .bool (decide (upA sg a b T = T) && decide (upB sg a b T = T))
/-! l_asked -/
def R_l_asked (ds : List PyData) (r : PyData) : Prop := ∃ (w : Str) (d : PyData) (sg : Bool), ds = [.str w, d, .bool sg] ∧ plainD d = true ∧ ((∃ (T : NT) (a b : Nat), d = tabN T ∧ Good sg T a b ∧ needD sg d = .ok ∧ r = askR w sg a b T) ∨ (needD sg d ≠ .ok ∧ r = ndtL (needD sg d)))
def sp_l_asked (K : PySem.W.Frag) : Sp := SpP R_l_asked
def t_l_asked (K : PySem.W.Frag) : TS := tSeq (tAsg (tLst (tCons (tC (.str "none")) (tNil))) (gName 3)) (tSeq (tTryAs K 4 (fun W => tIfS (tTest (tOp (rEq) (tVar 0) (tC (.str "names")))) (tAsg (tCallKX 1 1 (sp_names_root K) W (tCons (tVar 1) (tNil)) (tCons (tVar 2) (tNil))) (gName 3)) (tIfS (tTest (tOp (rEq) (tVar 0) (tC (.str "columns")))) (tAsg (tCallKX 1 1 (sp_columns_root K) W (tCons (tVar 1) (tNil)) (tCons (tVar 2) (tNil))) (gName 3)) (tIfS (tTest (tOp (rEq) (tVar 0) (tC (.str "corner")))) (tAsg (tCallKX 1 1 (sp_corner K) W (tCons (tVar 1) (tNil)) (tCons (tVar 2) (tNil))) (gName 3)) (tAsg (tCallKX 1 1 (sp_is_corner K) W (tCons (tVar 1) (tNil)) (tCons (tVar 2) (tNil))) (gName 3))))) [(.ref (He.ga K "BadTable"), fun a k d => tAsg (tIf (tAnd (tB (tCB (rIsD K (He.ga K "BadTable") a k d) (tCons (tVar 4) (tCons (tC (.ref (He.ga K "UnitError"))) tNil)))) (tNot (tB (tCB (rIsD K (He.ga K "BadTable") a k d) (tCons (tVar 4) (tCons (tC (.ref (He.ga K "TooGreat"))) tNil)))))) (tLst (tCons (tC (.str "bad")) (tCons (tXf a k d (He.ga K "BadTable") "value" (tVar 4)) (tNil)))) (tLst (tCons (tC (.str "kin")) (tNil)))) (gName 3)), (.ref (He.ga K "TooGreat"), fun a k d => tAsg (tIf (tB (tCB (rIsD K (He.ga K "TooGreat") a k d) (tCons (tVar 4) (tCons (tC (.ref (He.ga K "UnitError"))) tNil)))) (tLst (tCons (tC (.str "great")) (tCons (tXf a k d (He.ga K "TooGreat") "most" (tVar 4)) (tNil)))) (tLst (tCons (tC (.str "kin")) (tNil)))) (gName 3))]) (tRet (tVar 3)))
theorem len_l_asked {K : PySem.W.Frag} {vs : List V} {H : Hp} {Q : VK} {E : XK} (h : sp_l_asked K vs H Q E) : vs.length = 3 := spP_len h fun ds r ⟨_, _, _, e, _⟩ => by rw [e]; rfl
theorem run_l_asked (K : PySem.W.Frag) (T : Ers K) (W : Wd) (n : Nat) (ds : List PyData) (r : PyData) (h : R_l_asked ds r) : RunS W (t_l_asked K) n (ds.map Slot.d ++ List.replicate (5 - ds.length) .non) (fun o => o = .rt n r) := by
  obtain ⟨w, d, sg, rfl, hd, hr⟩ := h
  refine sa (EvF.p (ef_lst (ea_cons ep_str ea_nil) (by simp))) ?_
  -- the call, whichever it is
  have go : ∀ (R : List PyData → Rs → Prop) (z : NT → Nat → Nat → PyData) (k : WX), (∀ r, ((∃ (T : NT) (a b : Nat), d = tabN T ∧ Good sg T a b ∧ needD sg d = .ok ∧ r = .val (z T a b)) ∨ (needD sg d ≠ .ok ∧ r = ndtR K d (needD sg d))) → R [d, .bool sg] r) →
      (∀ (T : NT) (a b : Nat), d = tabN T → Good sg T a b → askR w sg a b T = z T a b) → ∀ l, l = [((.ref (He.ga K "BadTable") : Value), fun (a : Addr) (k : Value) (d : Option Addr) => (tAsg (tIf (tAnd (tB (tCB (rIsD K (He.ga K "BadTable") a k d) (tCons (tVar 4) (tCons (tC (.ref (He.ga K "UnitError"))) tNil)))) (tNot (tB (tCB (rIsD K (He.ga K "BadTable") a k d) (tCons (tVar 4) (tCons (tC (.ref (He.ga K "TooGreat"))) tNil)))))) (tLst (tCons (tC (.str "bad")) (tCons (tXf a k d (He.ga K "BadTable") "value" (tVar 4)) (tNil)))) (tLst (tCons (tC (.str "kin")) (tNil)))) (gName 3) : TS)),
        (.ref (He.ga K "TooGreat"), fun a k d => tAsg (tIf (tB (tCB (rIsD K (He.ga K "TooGreat") a k d) (tCons (tVar 4) (tCons (tC (.ref (He.ga K "UnitError"))) tNil)))) (tLst (tCons (tC (.str "great")) (tCons (tXf a k d (He.ga K "TooGreat") "most" (tVar 4)) (tNil)))) (tLst (tCons (tC (.str "kin")) (tNil)))) (gName 3))] →
      RunS (W.wish k) (tAsg (tCallKX 1 1 (SpX R) k (tCons (tVar 1) tNil) (tCons (tVar 2) tNil)) (gName 3)) n [.d (.str w), .d d, .d (.bool sg), .d (.list [.str "none"]), .non] (TryAs W K l 4 (Then W (tRet (tVar 3)) fun o => o = .rt n r)) := fun R z k hR hz l el => by
    subst el
    have h0 : EvA (tCons (tVar 1) tNil) [.d (.str w), .d d, .d (.bool sg), .d (.list [.str "none"]), .non] [d] := ea_cons (ep_var rfl) ea_nil
    have h1 : EvA (tCons (tVar 2) tNil) [.d (.str w), .d d, .d (.bool sg), .d (.list [.str "none"]), .non] [.bool sg] := ea_cons (ep_var rfl) ea_nil
    rcases hr with ⟨T', a, b, e, g, hok, rfl⟩ | ⟨hbad, rfl⟩
    · refine rs_asg (ep_callKX (z := z T' a b) h0 h1 (hR _ (.inl ⟨T', a, b, e, g, hok, rfl⟩))) ?_
      rw [hz T' a b e g]
      exact rs_ret (ep_var rfl) rfl
    · obtain ⟨c, hc⟩ := ndt_exc (K := K) (d := d) hbad
      refine rs_asgX (W := W.wish k) (c := c) (ex_callKX (W := W.wish k) h0 h1 (hR _ (.inr ⟨hbad, hc.symm⟩))) ?_
      intro D H σ cls dx s x G
      cases hx : needD sg d with
      | ok => exact absurd hx hbad
      | bad y =>
        rw [hx] at hc
        injection hc with hc
        subst hc
        refine ⟨true, x.1 ▸ T.bad.self, fun _ a ha => ?_, fun z => nomatch z⟩
        refine as_note (c := xBad K y) rfl (by simp) (by decide) s x G (rs_ret (ep_var (d := .list [.str "bad", y]) rfl) (by rw [hx]; rfl)) fun Q q => ?_
        obtain ⟨ec, dd, fs, v, ed, hdd, hlook, hv⟩ := x
        have hl : 4 < σ.length := by rw [s.fits.len]; simp
        have h4 : (σ.set 4 (some (.ref a)))[4]? = some (some (.ref a)) := by simp [hl]
        refine ⟨_, h4, _, .ref (He.ga K "UnitError"), true, dd, fs, rfl, ec, ed, hdd, fun u hu => hu, T.bu, true, rfl, ?_⟩
        refine ⟨_, h4, _, .ref (He.ga K "TooGreat"), false, dd, fs, rfl, ec, ed, hdd, fun u hu => hu, T.bg, false, rfl, ?_⟩
        exact q dd fs ec ed hdd h4
      | great =>
        rw [hx] at hc
        injection hc with hc
        subst hc
        refine ⟨false, x.1 ▸ T.gb, (fun z => nomatch z), fun _ => ⟨true, x.1 ▸ T.great.self, fun _ a ha => ?_, fun z => nomatch z⟩⟩
        refine as_note (c := xGreat K (.int 12)) rfl (by simp) (by decide) s x G (rs_ret (ep_var (d := .list [.str "great", .int 12]) rfl) (by rw [hx]; rfl)) fun Q q => ?_
        obtain ⟨ec, dd, fs, v, ed, hdd, hlook, hv⟩ := x
        have hl : 4 < σ.length := by rw [s.fits.len]; simp
        have h4 : (σ.set 4 (some (.ref a)))[4]? = some (some (.ref a)) := by simp [hl]
        refine ⟨_, h4, _, .ref (He.ga K "UnitError"), true, dd, fs, rfl, ec, ed, hdd, fun u hu => hu, T.gu, true, rfl, ?_⟩
        exact q dd fs ec ed hdd h4
  refine rs_seq (rs_tryAs fun k => ?_)
  by_cases w1 : w = "names"
  · refine rs_ifT (et_is (et_test (ep_op (ep_var rfl) ep_str od_eqS)) (decide_eq_true w1)) (go (R_names_root K) (fun T a b => tabN (upA sg a b T)) k (fun r hr => ⟨d, sg, rfl, hd, hr⟩) (fun T a b _ _ => by unfold askR; rw [if_pos w1]) _ rfl)
  refine rs_ifF (et_is (et_test (ep_op (ep_var rfl) ep_str od_eqS)) (decide_eq_false w1)) ?_
  by_cases w2 : w = "columns"
  · refine rs_ifT (et_is (et_test (ep_op (ep_var rfl) ep_str od_eqS)) (decide_eq_true w2)) (go (R_columns_root K) (fun T a b => tabN (upB sg a b T)) k (fun r hr => ⟨d, sg, rfl, hd, hr⟩) (fun T a b _ _ => by unfold askR; rw [if_neg w1, if_pos w2]) _ rfl)
  refine rs_ifF (et_is (et_test (ep_op (ep_var rfl) ep_str od_eqS)) (decide_eq_false w2)) ?_
  by_cases w3 : w = "corner"
  · refine rs_ifT (et_is (et_test (ep_op (ep_var rfl) ep_str od_eqS)) (decide_eq_true w3)) (go (R_corner K) (fun T a b => tabN (corn sg a b T)) k (fun r hr => ⟨d, sg, rfl, hd, hr⟩) (fun T a b _ _ => by unfold askR; rw [if_neg w1, if_neg w2, if_pos w3]) _ rfl)
  refine rs_ifF (et_is (et_test (ep_op (ep_var rfl) ep_str od_eqS)) (decide_eq_false w3)) ?_
  exact go (R_is_corner K) (fun T a b => .bool (decide (upA sg a b T = T) && decide (upB sg a b T = T))) k (fun r hr => ⟨d, sg, rfl, hd, hr⟩) (fun T a b _ _ => by unfold askR; rw [if_neg w1, if_neg w2, if_neg w3]) _ rfl
theorem pure_l_asked {K : PySem.W.Frag} (T : Ers K) {vs : List V} {H : Hp} {Q : VK} {E : XK} (h : sp_l_asked K vs H Q E) : t_l_asked K { nx := fun _ H' => Q .non H', rt := Q } (L2.start ["_law_word", "_law_table_here", "_law_signed", "_law_told", "error"] vs) H := pure_of h fun W n ds r hr => run_l_asked K T W n ds r hr
section
variable {P : Program} {w : World} {K : PySem.W.Frag} {mg : Str → Option Value} {base : Heap}
abbrev N_l_asked : List Str := ["_law_word", "_law_table_here", "_law_signed", "_law_told", "error"]
theorem sc_l_asked : FnScope N_l_asked ["_law_word", "_law_table_here", "_law_signed"] (defScope s_l_asked) := ⟨rfl, rfl, rfl, by decide +kernel, rfl, by decide +kernel, by decide +kernel⟩
theorem ok_l_asked (T : Tx K mg) : ∃ fd, FnOk P w K mg base CX0 20 (He.ga K "_law_asked") fd ["_law_word", "_law_table_here", "_law_signed"] (sp_l_asked K) ∧ Binds K fd ["_law_word", "_law_table_here", "_law_signed"] [] := by
  have nd := sc_l_asked.nd
  obtain ⟨_, G_names_root, b_names_root⟩ := ok_names_root (P := P) (w := w) (base := base) T
  obtain ⟨_, G_columns_root, b_columns_root⟩ := ok_columns_root (P := P) (w := w) (base := base) T
  obtain ⟨_, G_corner, b_corner⟩ := ok_corner (P := P) (w := w) (base := base) T
  obtain ⟨_, G_is_corner, b_is_corner⟩ := ok_is_corner (P := P) (w := w) (base := base) T
  obtain ⟨fd, F⟩ := T.d_l_asked
  refine ⟨fd, FunD.ok F sc_l_asked (fun vs H Q E h => len_l_asked h) (fun cdv A outer s H vs Q E hr h => ⟨t_l_asked K, PSs.nox ?_, pure_l_asked (ers T) h⟩), F.bindsN fun _ _ _ _ _ _ us hl => match us, hl with | [_, _, _], _ => rfl⟩
  exact pss_cons (ps_set (i := 3) nd rfl (Or.inl rfl) (pe_lst (pa_cons (pe_str) (pa_nil)))) (pss_cons (ps_tryAs (i := 4) rfl rfl nd rfl rfl takes_none5 (fun W pn xe htk hpo => pss_one (ps_if (pt_cmpR op_eq (pv 0) (pe_str) (nomark _)) (pss_one (ps_set (i := 3) nd rfl (Or.inl rfl) (pe_callKX (n := 1) (ks := ["sign"]) G_names_root (hr.mono (by omega)) rfl T.g_names_root T.k_names_root b_names_root htk (pa_cons (pv 1) (pa_nil)) (pk_cons (pv 2) (pk_nil))))) (pss_one (ps_if (pt_cmpR op_eq (pv 0) (pe_str) (nomark _)) (pss_one (ps_set (i := 3) nd rfl (Or.inl rfl) (pe_callKX (n := 1) (ks := ["sign"]) G_columns_root (hr.mono (by omega)) rfl T.g_columns_root T.k_columns_root b_columns_root htk (pa_cons (pv 1) (pa_nil)) (pk_cons (pv 2) (pk_nil))))) (pss_one (ps_if (pt_cmpR op_eq (pv 0) (pe_str) (nomark _)) (pss_one (ps_set (i := 3) nd rfl (Or.inl rfl) (pe_callKX (n := 1) (ks := ["sign"]) G_corner (hr.mono (by omega)) rfl T.g_corner T.k_corner b_corner htk (pa_cons (pv 1) (pa_nil)) (pk_cons (pv 2) (pk_nil))))) (pss_one (ps_set (i := 3) nd rfl (Or.inl rfl) (pe_callKX (n := 1) (ks := ["sign"]) G_is_corner (hr.mono (by omega)) rfl T.g_is_corner T.k_is_corner b_is_corner htk (pa_cons (pv 1) (pa_nil)) (pk_cons (pv 2) (pk_nil))))))))))) (.cons ⟨rfl, by decide, .inl T.g_BadTable⟩ (fun a oe k d pn hz hf => pss_one (ps_asg (pe_ifExp (PW.pt (pw_and (pt_val (pe_callB (call_isD (ers T).bad.ec hz hf) (by rfl) T.f_isinstance (by decide +kernel) (pa_cons (pv 4) (pa_cons (pe_glob rfl T.g_UnitError rfl) pa_nil)))) (pw_and1 (pt_not (pt_val (pe_callB (call_isD (ers T).bad.ec hz hf) (by rfl) T.f_isinstance (by decide +kernel) (pa_cons (pv 4) (pa_cons (pe_glob rfl T.g_TooGreat rfl) pa_nil)))))))) (pe_lst (pa_cons (pe_str) (pa_cons (pe_xf (ers T).bad.xf ((ers T).bad.fld _ (by simp)) hz hf (pv 4)) (pa_nil)))) (pe_lst (pa_cons (pe_str) (pa_nil)))) (pg_name (i := 3) nd rfl (Or.inl rfl)))) (.cons ⟨rfl, by decide, .inl T.g_TooGreat⟩ (fun a oe k d pn hz hf => pss_one (ps_asg (pe_ifExp (pt_val (pe_callB (call_isD (ers T).great.ec hz hf) (by rfl) T.f_isinstance (by decide +kernel) (pa_cons (pv 4) (pa_cons (pe_glob rfl T.g_UnitError rfl) pa_nil)))) (pe_lst (pa_cons (pe_str) (pa_cons (pe_xf (ers T).great.xf ((ers T).great.fld _ (by simp)) hz hf (pv 4)) (pa_nil)))) (pe_lst (pa_cons (pe_str) (pa_nil)))) (pg_name (i := 3) nd rfl (Or.inl rfl)))) (.nil)))) (pss_one (ps_ret (pv 3))))
end
end Uh

set_option Elab.async false
set_option linter.all false
set_option maxRecDepth 100000
set_option maxHeartbeats 400000
namespace Uh
open PySem PySem.Spec PyProof.Rows L2
open Evl (Ex)
local macro_rules | `(tactic| walk_at "ev") => `(tactic| repeat (first
  | with_reducible exact ep_var rfl | with_reducible exact ep_int | with_reducible exact ep_bl | with_reducible exact ep_non | with_reducible exact ep_str
  | with_reducible exact ea_nil | with_reducible apply ea_cons | with_reducible apply ep_tupG | with_reducible apply ef_lstG | with_reducible exact et_yes
  | with_reducible apply ca_isiG | with_reducible exact kit_tuple _ | with_reducible exact kit_int _ | with_reducible exact kit_bool _ | with_reducible exact kit_str _
  | with_reducible apply et_test | with_reducible apply et_b | with_reducible apply et_not | with_reducible apply et_orG | with_reducible apply et_andG
  | with_reducible apply ep_orG | with_reducible apply ep_andG | with_reducible apply ep_notV | with_reducible apply ep_chainG
  | with_reducible apply ep_inG | with_reducible apply ep_op | with_reducible apply ep_un | with_reducible apply ep_cb
  | with_reducible exact od_i | with_reducible exact od_b | with_reducible exact od_eqI | with_reducible exact od_neI | with_reducible exact od_eqS | with_reducible exact od_eqB | with_reducible exact od_isN | with_reducible exact od_notN | with_reducible exact ud_i
  | with_reducible exact od_ixT at3_0 | with_reducible exact od_ixT at3_1 | with_reducible exact od_ixT at3_2 | with_reducible exact od_ixT at2_0 | with_reducible exact od_ixT at2_1 | with_reducible exact od_ixT at1_0
  | with_reducible apply od_catA | (with_reducible show _ + _ ≤ 100000; first | omega | (simp; done) | (simp; omega))
  | with_reducible exact ca_lenT | with_reducible exact ca_lenL
  | exact (show allS _ = true from rfl) | exact (show Nat.ble _ 100000 = true from rfl)))
theorem ca_sumLN {K : PySem.W.Frag} {r : List Nat} : CaD (rSumA K) [.list (r.map natD)] (.int (r.sum : Nat)) := by
  have e : r.map natD = (r.map fun n : Nat => (n : Int)).map PyData.int := by rw [List.map_map]; rfl
  have e2 : ((r.sum : Nat) : Int) = (r.map fun n : Nat => (n : Int)).sum := by rw [sum_int]
  rw [e, e2]
  exact ca_sumL
theorem firstBad_at {w : Nat} {sg : Bool} : ∀ {xs : List PyData} {k j : Nat} {x : PyData}, (∀ y ∈ xs.take j, rowOk w sg y = true) → xs[j]? = some x → rowOk w sg x = false → firstBad w sg k xs = some (k + j)
  | [], _, _, _, _, h, _ => by simp at h
  | y :: l, k, 0, x, _, h, hx => by
    have e : y = x := by simpa using h
    unfold firstBad
    rw [e, if_neg (by rw [hx]; decide)]
    rfl
  | y :: l, k, j + 1, x, ht, h, hx => by
    unfold firstBad
    rw [if_pos (ht y (by simp)), firstBad_at (j := j) (fun z hz => ht z (by rw [List.take_succ_cons]; exact List.mem_cons_of_mem _ hz)) (by simpa using h) hx]
    congr 1
    omega
theorem firstBad_all {w : Nat} {sg : Bool} : ∀ {xs : List PyData} {k : Nat}, (∀ y ∈ xs, rowOk w sg y = true) → firstBad w sg k xs = none
  | [], _, _ => rfl
  | y :: l, k, h => by
    unfold firstBad
    rw [if_pos (h y (by simp))]
    exact firstBad_all fun z hz => h z (List.mem_cons_of_mem _ hz)
theorem rowOk_tup {w : Nat} {sg : Bool} {x : PyData} (h : rowOk w sg x = true) : ∃ ys, x = .tuple ys ∧ ys.length = w := by
  cases x with
  | tuple ys =>
    refine ⟨ys, rfl, ?_⟩
    have h' : (decide (2 ≤ ys.length) && decide (ys.length ≤ 5) && decide (ys.length = w) && ys.all (okItem sg)) = true := h
    simp only [Bool.and_eq_true, decide_eq_true_eq] at h'
    exact h'.1.2
  | _ => simp [rowOk] at h
/-! l_fault -/
def R_l_fault (ds : List PyData) (r : PyData) : Prop := ∃ (d : PyData) (sg : Bool), ds = [d, .bool sg] ∧ plainD d = true ∧ r = ndtL (needD sg d)
def sp_l_fault (K : PySem.W.Frag) : Sp := SpP R_l_fault
def t_l_fault (K : PySem.W.Frag) : TS := tSeq (tIfS (tNot (tB (tCB (rIsi K) (tCons (tVar 0) (tCons (tC (.ty "tuple")) (tNil)))))) (tRet (tLst (tCons (tC (.str "bad")) (tCons (tC .non) (tNil))))) (tNext)) (tSeq (tIfS (tNot (tTest (tChain (rI0 fun i j => .bl (decide (i ≤ j))) (rI0 fun i j => .bl (decide (i ≤ j))) (tC (.int 2)) (tCB (rLen K) (tCons (tVar 0) (tNil))) (tC (.int 5))))) (tRet (tLst (tCons (tC (.str "bad")) (tCons (tC .non) (tNil))))) (tNext)) (tSeq (tFor (iEnumT K (tCons (tVar 0) (tNil))) (gTup K 2 (gCons (gName 2) (gCons (gName 3) (gNil)))) (tSeq (tIfS (tNot (tB (tCB (rIsi K) (tCons (tVar 3) (tCons (tC (.ty "tuple")) (tNil)))))) (tRet (tLst (tCons (tC (.str "bad")) (tCons (tVar 2) (tNil))))) (tNext)) (tSeq (tIfS (tOr (tNot (tTest (tChain (rI0 fun i j => .bl (decide (i ≤ j))) (rI0 fun i j => .bl (decide (i ≤ j))) (tC (.int 2)) (tCB (rLen K) (tCons (tVar 3) (tNil))) (tC (.int 5))))) (tTest (tOp (rNe) (tCB (rLen K) (tCons (tVar 3) (tNil))) (tCB (rLen K) (tCons (tOp (rIxT K) (tVar 0) (tC (.int 0))) (tNil)))))) (tRet (tLst (tCons (tC (.str "bad")) (tCons (tVar 2) (tNil))))) (tNext)) (tFor (iTup K (tVar 3)) (gName 4) (tSeq (tIfS (tOr (tNot (tB (tCB (rIsi K) (tCons (tVar 4) (tCons (tC (.ty "int")) (tNil)))))) (tB (tCB (rIsi K) (tCons (tVar 4) (tCons (tC (.ty "bool")) (tNil)))))) (tRet (tLst (tCons (tC (.str "bad")) (tCons (tVar 2) (tNil))))) (tNext)) (tIfS (tOr (tTest (tOp (rI0 fun i j => .bl (decide (i < j))) (tVar 4) (tC (.int 0)))) (tAnd (tB (tVar 1)) (tTest (tOp (rI0 fun i j => .bl (decide (j < i))) (tVar 4) (tC (.int 1)))))) (tRet (tLst (tCons (tC (.str "bad")) (tCons (tVar 2) (tNil))))) (tNext))))))) (tRet (tIf (tTest (tOp (rI0 fun i j => .bl (decide (j < i))) (tCB (rSumA K) (tCons (tLc (iTup K (tVar 0)) (gName 3) (tYes) (tCB (rSumA K) (tCons (tCB (rListOf K) (tCons (tVar 3) (tNil))) (tNil))) [3]) (tNil))) (tC (.int 12)))) (tLst (tCons (tC (.str "great")) (tCons (tC (.int 12)) (tNil)))) (tC .non)))))
theorem len_l_fault {K : PySem.W.Frag} {vs : List V} {H : Hp} {Q : VK} {E : XK} (h : sp_l_fault K vs H Q E) : vs.length = 2 := spP_len h fun ds r ⟨_, _, e, _⟩ => by rw [e]; rfl
theorem run_l_fault (K : PySem.W.Frag) (W : Wd) (n : Nat) (ds : List PyData) (r : PyData) (h : R_l_fault ds r) : RunS W (t_l_fault K) n (ds.map Slot.d ++ List.replicate (5 - ds.length) .non) (fun o => o = .rt n r) := by
  obtain ⟨d, sg, rfl, hd, rfl⟩ := h
  have hnone : ∀ {ss : List Slot}, EvP (tLst (tCons (tC (.str "bad")) (tCons (tC .non) tNil))) ss (.list [.str "bad", .none]) := fun {ss} => EvF.p (ef_lst (ea_cons ep_str (ea_cons ep_non ea_nil)) (by simp))
  cases d with
  | tuple xs =>
    have hpl : plainL xs = true := hd
    refine sf (et_is (et_not (et_b (ca_isi (ep_var rfl) ev_ty (kit_tuple _)))) rfl) ?_
    have hchain : EvT (tNot (tTest (tChain (rI0 fun i j => .bl (decide (i ≤ j))) (rI0 fun i j => .bl (decide (i ≤ j))) (tC (.int 2)) (tCB (rLen K) (tCons (tVar 0) (tNil))) (tC (.int 5))))) [.d (.tuple xs), .d (.bool sg), .non, .non, .non] (!sideD (.tuple xs)) := by
      refine et_is (et_not (et_test (ep_chainG ep_int (ep_cb (ea_cons (ep_var rfl) ea_nil) ca_lenT) od_b ep_int od_b))) ?_
      show (!(decide ((2 : Int) ≤ (xs.length : Nat)) && decide (((xs.length : Nat) : Int) ≤ 5))) = !(decide (2 ≤ xs.length) && decide (xs.length ≤ 5))
      have h1 : decide ((2 : Int) ≤ (xs.length : Nat)) = decide (2 ≤ xs.length) := decide_eq_decide.mpr (by omega)
      have h2 : decide (((xs.length : Nat) : Int) ≤ 5) = decide (xs.length ≤ 5) := decide_eq_decide.mpr (by omega)
      rw [h1, h2]
    by_cases hs : sideD (.tuple xs) = true
    · refine sf (et_is hchain (by rw [hs]; rfl)) ?_
      have hl : 2 ≤ xs.length ∧ xs.length ≤ 5 := by simpa [sideD] using hs
      have hn : needD sg (.tuple xs) = match firstBad (widD xs) sg 0 xs with
        | some k => .bad (.int (k : Nat))
        | none => if 12 < (xs.map sumR).sum then .great else .ok := by
        show (if sideD (.tuple xs) then _ else _) = _
        rw [if_pos hs]
        all_goals (cases firstBad (widD xs) sg 0 xs <;> rfl)
      have hbadk : ∀ {ss : List Slot} {k : Nat} {x : PyData}, ss[2]? = some (.d (.int (k : Nat))) → (∀ y ∈ xs.take k, rowOk (widD xs) sg y = true) → xs[k]? = some x → rowOk (widD xs) sg x = false → EvP (tLst (tCons (tC (.str "bad")) (tCons (tVar 2) tNil))) ss (ndtL (needD sg (.tuple xs))) := fun {ss k x} h2 ht hk hx => by
        refine ep_is (EvF.p (ef_lst (ea_cons ep_str (ea_cons (ep_var h2) ea_nil)) (by simp))) ?_
        rw [hn, firstBad_at ht hk hx, Nat.zero_add]
        rfl
      refine sfor (xs := idx 0 xs) (enc := fun q => .tuple [.int (q.1 : Nat), q.2]) (f := fun q ss => (ss.set 2 (.d (.int (q.1 : Nat)))).set 3 (.d q.2))
        (fun i n' ss' => n' = n ∧ (∀ y ∈ xs.take i, rowOk (widD xs) sg y = true) ∧ ∃ s t u, ss' = [.d (.tuple xs), .d (.bool sg), s, t, u]) (by
        have hw := wk_enumT (K := K) (ss := [.d (.tuple xs), .d (.bool sg), .non, .non, .non]) (ta := tCons (tVar 0) tNil) (ds := xs) (by walk_at "ev")
        rw [idx_id] at hw
        exact hw) (fun _ _ => tg_two) ⟨rfl, fun y hy => (by simp at hy), _, _, _, rfl⟩ ?_ ?_
      · rintro i ⟨j, x⟩ n _ hi ⟨rfl, hbef, s, t, u, rfl⟩
        obtain ⟨h1, h2⟩ := idx_get hi
        have hj : j = i := by simpa using h1
        subst hj
        have hx := plain_mem hpl x (List.mem_of_getElem? h2)
        cases x with
        | tuple ys =>
          refine sf (et_is (et_not (et_b (ca_isi (ep_var rfl) ev_ty (kit_tuple _)))) rfl) ?_
          -- the first row is a tuple
          obtain ⟨y0, hy0, hw0⟩ : ∃ y0 : List PyData, xs[0]? = some (.tuple y0) ∧ widD xs = y0.length := by
            have h0 : xs[0]? = some (.tuple ys) ∨ ∃ x0, xs[0]? = some x0 ∧ rowOk (widD xs) sg x0 = true := by
              by_cases c : j = 0
              · subst c
                exact .inl h2
              · have hlen0 : 0 < xs.length := by omega
                refine .inr ⟨xs[0], by simp [hlen0], hbef _ ?_⟩
                rw [List.mem_take_iff_getElem]
                exact ⟨0, by omega, rfl⟩
            have : ∃ y0 : List PyData, xs[0]? = some (.tuple y0) := by
              rcases h0 with e | ⟨x0, e, hr⟩
              · exact ⟨_, e⟩
              · obtain ⟨ys0, e2, _⟩ := rowOk_tup hr
                exact ⟨ys0, by rw [e, e2]⟩
            obtain ⟨y0, e⟩ := this
            refine ⟨y0, e, ?_⟩
            cases xs with
            | nil => simp at e
            | cons a l =>
              have : a = .tuple y0 := by simpa using e
              subst this
              rfl
          have htest : EvT (tOr (tNot (tTest (tChain (rI0 fun i j => .bl (decide (i ≤ j))) (rI0 fun i j => .bl (decide (i ≤ j))) (tC (.int 2)) (tCB (rLen K) (tCons (tVar 3) (tNil))) (tC (.int 5))))) (tTest (tOp (rNe) (tCB (rLen K) (tCons (tVar 3) (tNil))) (tCB (rLen K) (tCons (tOp (rIxT K) (tVar 0) (tC (.int 0))) (tNil))))))
              [.d (.tuple xs), .d (.bool sg), .d (.int (j : Nat)), .d (.tuple ys), u] (!(decide (2 ≤ ys.length) && decide (ys.length ≤ 5) && decide (ys.length = widD xs))) := by
            refine et_is (et_orG (et_not (et_test (ep_chainG ep_int (ep_cb (ea_cons (ep_var rfl) ea_nil) ca_lenT) od_b ep_int od_b))) (et_test (ep_op (ep_cb (ea_cons (ep_var rfl) ea_nil) ca_lenT) (ep_cb (ea_cons (ep_op (ep_var rfl) ep_int (od_ixT (at_nat hy0))) ea_nil) ca_lenT) od_neI))) ?_
            have h1 : decide ((2 : Int) ≤ (ys.length : Nat)) = decide (2 ≤ ys.length) := decide_eq_decide.mpr (by omega)
            have h2 : decide (((ys.length : Nat) : Int) ≤ 5) = decide (ys.length ≤ 5) := decide_eq_decide.mpr (by omega)
            have h3 : decide (((ys.length : Nat) : Int) = (y0.length : Nat)) = decide (ys.length = widD xs) := decide_eq_decide.mpr (by rw [hw0]; omega)
            rw [h1, h2, h3]
            simp [Bool.not_and]
          by_cases hdim : (decide (2 ≤ ys.length) && decide (ys.length ≤ 5) && decide (ys.length = widD xs)) = true
          · refine sf (et_is htest (by rw [hdim]; rfl)) ?_
            have hrow : rowOk (widD xs) sg (.tuple ys) = ys.all (okItem sg) := by
              show (decide (2 ≤ ys.length) && decide (ys.length ≤ 5) && decide (ys.length = widD xs) && ys.all (okItem sg)) = _
              rw [hdim]
              rfl
            have hys : plainL ys = true := hx
            refine rs_for (xs := ys) (enc := id) (f := fun q ss => ss.set 4 (.d q)) (by rw [List.map_id]; exact wk_tup (ep_var rfl)) (fun _ _ => tg_name) (fun l n' ss' => n' = n ∧ (∀ y ∈ ys.take l, okItem sg y = true) ∧ ∃ u, ss' = [.d (.tuple xs), .d (.bool sg), .d (.int (j : Nat)), .d (.tuple ys), u]) ⟨rfl, fun y hy => (by simp at hy), _, rfl⟩ ?_ ?_
            · rintro l y n _ hl ⟨rfl, hb2, u2, rfl⟩
              have hy := plain_mem hys y (List.mem_of_getElem? hl)
              have bad : okItem sg y = false → rowOk (widD xs) sg (.tuple ys) = false := fun z => by
                rw [hrow, List.all_eq_false]
                exact ⟨y, List.mem_of_getElem? hl, by simp [z]⟩
              have out : okItem sg y = false → RunS W (tRet (tLst (tCons (tC (.str "bad")) (tCons (tVar 2) tNil)))) n [.d (.tuple xs), .d (.bool sg), .d (.int (j : Nat)), .d (.tuple ys), .d y] (fun o => o = .rt n (ndtL (needD sg (.tuple xs)))) := fun z =>
                rs_ret (hbadk rfl hbef h2 (bad z)) rfl
              have first : ∀ b, kitB (tyD y) "int" = some b → ∀ b2, kitB (tyD y) "bool" = some b2 → EvT (tOr (tNot (tB (tCB (rIsi K) (tCons (tVar 4) (tCons (tC (.ty "int")) (tNil)))))) (tB (tCB (rIsi K) (tCons (tVar 4) (tCons (tC (.ty "bool")) (tNil)))))) [.d (.tuple xs), .d (.bool sg), .d (.int (j : Nat)), .d (.tuple ys), .d y] (!b || b2) := fun b hb b2 hb2 =>
                et_orG (et_not (et_b (ca_isi (ep_var rfl) ev_ty hb))) (et_b (ca_isi (ep_var rfl) ev_ty hb2))
              cases y with
              | int v =>
                refine sf (et_is (first _ (kit_int _) _ (kit_bool _)) rfl) ?_
                have sec : EvT (tOr (tTest (tOp (rI0 fun i j => .bl (decide (i < j))) (tVar 4) (tC (.int 0)))) (tAnd (tB (tVar 1)) (tTest (tOp (rI0 fun i j => .bl (decide (j < i))) (tVar 4) (tC (.int 1)))))) [.d (.tuple xs), .d (.bool sg), .d (.int (j : Nat)), .d (.tuple ys), .d (.int v)] (!okItem sg (.int v)) := by
                  refine et_is (et_orG (et_test (ep_op (ep_var rfl) ep_int od_b)) (et_andG (et_b (ep_var rfl)) (et_test (ep_op (ep_var rfl) ep_int od_b)))) ?_
                  unfold okItem itemD overD
                  rw [Bool.not_and, Bool.not_not]
                  congr 1
                  rw [← decide_not]
                  exact decide_eq_decide.mpr (by omega)
                by_cases ho : okItem sg (.int v) = true
                · refine rs_ifF (et_is sec (by rw [ho]; rfl)) (rs_next ⟨rfl, fun z hz => ?_, _, rfl⟩)
                  rw [take_snoc hl] at hz
                  rcases List.mem_append.mp hz with w | w
                  · exact hb2 z w
                  · rw [List.mem_singleton.mp w]
                    exact ho
                · have ho : okItem sg (.int v) = false := by simpa using ho
                  exact rs_ifT (et_is sec (by rw [ho]; rfl)) ((out ho).mono fun o e => by subst e; exact rfl)
              | dict _ => simp [plainD] at hy
              | none => exact rs_seq (rs_ifT (et_is (first _ (kit_int _) _ (kit_bool _)) rfl) ((out rfl).mono fun o e => by subst e; exact rfl))
              | bool _ => exact rs_seq (rs_ifT (et_is (first _ (kit_int _) _ (kit_bool _)) rfl) ((out rfl).mono fun o e => by subst e; exact rfl))
              | str _ => exact rs_seq (rs_ifT (et_is (first _ (kit_int _) _ (kit_bool _)) rfl) ((out rfl).mono fun o e => by subst e; exact rfl))
              | list _ => exact rs_seq (rs_ifT (et_is (first _ (kit_int _) _ (kit_bool _)) rfl) ((out rfl).mono fun o e => by subst e; exact rfl))
              | tuple _ => exact rs_seq (rs_ifT (et_is (first _ (kit_int _) _ (kit_bool _)) rfl) ((out rfl).mono fun o e => by subst e; exact rfl))
            · rintro n _ ⟨rfl, hb2, u2, rfl⟩
              rw [List.take_length] at hb2
              refine ⟨rfl, fun z hz => ?_, _, _, _, rfl⟩
              rw [take_snoc h2] at hz
              rcases List.mem_append.mp hz with w | w
              · exact hbef z w
              · rw [List.mem_singleton.mp w, hrow, List.all_eq_true]
                exact hb2
          · have hdim' : (decide (2 ≤ ys.length) && decide (ys.length ≤ 5) && decide (ys.length = widD xs)) = false := by simpa using hdim
            refine rs_seq (rs_ifT (et_is htest (by rw [hdim']; rfl)) (rs_ret (hbadk rfl hbef h2 ?_) rfl))
            show (decide (2 ≤ ys.length) && decide (ys.length ≤ 5) && decide (ys.length = widD xs) && ys.all (okItem sg)) = false
            rw [hdim']
            rfl
        | dict _ => simp [plainD] at hx
        | none => exact rs_seq (rs_ifT (et_is (et_not (et_b (ca_isi (ep_var rfl) ev_ty (kit_tuple _)))) rfl) (rs_ret (hbadk rfl hbef h2 rfl) rfl))
        | bool _ => exact rs_seq (rs_ifT (et_is (et_not (et_b (ca_isi (ep_var rfl) ev_ty (kit_tuple _)))) rfl) (rs_ret (hbadk rfl hbef h2 rfl) rfl))
        | int _ => exact rs_seq (rs_ifT (et_is (et_not (et_b (ca_isi (ep_var rfl) ev_ty (kit_tuple _)))) rfl) (rs_ret (hbadk rfl hbef h2 rfl) rfl))
        | str _ => exact rs_seq (rs_ifT (et_is (et_not (et_b (ca_isi (ep_var rfl) ev_ty (kit_tuple _)))) rfl) (rs_ret (hbadk rfl hbef h2 rfl) rfl))
        | list _ => exact rs_seq (rs_ifT (et_is (et_not (et_b (ca_isi (ep_var rfl) ev_ty (kit_tuple _)))) rfl) (rs_ret (hbadk rfl hbef h2 rfl) rfl))
      · rintro n _ ⟨rfl, hall, s, t, u, rfl⟩
        rw [idx_len, List.take_length] at hall
        have e1 : firstBad (widD xs) sg 0 xs = none := firstBad_all hall
        rw [hn, e1]
        obtain ⟨TT, eT, hT⟩ := rows_nat hall
        have hlT : TT.length ≤ 5 := by
          have := congrArg List.length eT
          rw [List.length_map] at this
          omega
        have es : (xs.map sumR).sum = ((TT.map fun r => ((r.sum : Nat) : Int))).sum := by
          rw [eT, List.map_map]
          congr 1
          apply List.map_congr_left
          intro r _
          exact sumR_row
        have hsum : EvP (tCB (rSumA K) (tCons (tLc (iTup K (tVar 0)) (gName 3) (tYes) (tCB (rSumA K) (tCons (tCB (rListOf K) (tCons (tVar 3) (tNil))) (tNil))) [3]) (tNil))) [.d (.tuple xs), .d (.bool sg), s, t, u] (.int (xs.map sumR).sum) := by
          rw [es]
          refine ep_cb (ea_cons (ep_is (EvF.p (ef_map (xs := TT) (enc := rowN) (f := fun r ss => ss.set 3 (.d (rowN r))) (fun r => .int (r.sum : Nat)) (wk_tup (ep_is (ep_var rfl) (by rw [eT]))) (by omega) (fun _ _ => tc_name)
            fun r _ => ep_cb (ea_cons (EvF.p (ef_listT (ea_cons (ep_var (d := .tuple (r.map natD)) rfl) ea_nil))) ea_nil) ca_sumLN)) (by rw [show (TT.map fun r => PyData.int (r.sum : Nat)) = (TT.map fun r => ((r.sum : Nat) : Int)).map .int by rw [List.map_map]; rfl])) ea_nil) ca_sumL
        by_cases hg : 12 < (xs.map sumR).sum
        · refine rs_ret (ep_ifT (et_is (et_test (ep_op hsum ep_int od_b)) (decide_eq_true hg)) (EvF.p (ef_lst (ea_cons ep_str (ea_cons ep_int ea_nil)) (by simp)))) ?_
          show _ = Out.rt n (ndtL (if 12 < (xs.map sumR).sum then .great else .ok))
          rw [if_pos hg]
          rfl
        · refine rs_ret (ep_ifF (et_is (et_test (ep_op hsum ep_int od_b)) (decide_eq_false hg)) ep_non) ?_
          show _ = Out.rt n (ndtL (if 12 < (xs.map sumR).sum then .great else .ok))
          rw [if_neg hg]
          rfl
    · have hs' : sideD (.tuple xs) = false := by simpa using hs
      refine rs_seq (rs_ifT (et_is hchain (by rw [hs']; rfl)) (rs_ret hnone ?_))
      show Out.rt n _ = .rt n (ndtL (if sideD (.tuple xs) then _ else .bad .none))
      rw [if_neg hs]
      rfl
  | dict _ => simp [plainD] at hd
  | none => exact rs_seq (rs_ifT (et_is (et_not (et_b (ca_isi (ep_var rfl) ev_ty (kit_tuple _)))) rfl) (rs_ret hnone rfl))
  | bool _ => exact rs_seq (rs_ifT (et_is (et_not (et_b (ca_isi (ep_var rfl) ev_ty (kit_tuple _)))) rfl) (rs_ret hnone rfl))
  | int _ => exact rs_seq (rs_ifT (et_is (et_not (et_b (ca_isi (ep_var rfl) ev_ty (kit_tuple _)))) rfl) (rs_ret hnone rfl))
  | str _ => exact rs_seq (rs_ifT (et_is (et_not (et_b (ca_isi (ep_var rfl) ev_ty (kit_tuple _)))) rfl) (rs_ret hnone rfl))
  | list _ => exact rs_seq (rs_ifT (et_is (et_not (et_b (ca_isi (ep_var rfl) ev_ty (kit_tuple _)))) rfl) (rs_ret hnone rfl))
theorem pure_l_fault {K : PySem.W.Frag} {vs : List V} {H : Hp} {Q : VK} {E : XK} (h : sp_l_fault K vs H Q E) : t_l_fault K { nx := fun _ H' => Q .non H', rt := Q } (L2.start ["_law_table_here", "_law_signed", "_law_k", "_law_row", "_law_item"] vs) H := pure_of h fun W n ds r hr => run_l_fault K W n ds r hr
section
variable {P : Program} {w : World} {K : PySem.W.Frag} {mg : Str → Option Value} {base : Heap}
abbrev N_l_fault : List Str := ["_law_table_here", "_law_signed", "_law_k", "_law_row", "_law_item"]
theorem sc_l_fault : FnScope N_l_fault ["_law_table_here", "_law_signed"] (defScope s_l_fault) := ⟨rfl, rfl, rfl, by decide +kernel, rfl, by decide +kernel, by decide +kernel⟩
theorem ok_l_fault (T : Tx K mg) : ∃ fd, FnOk P w K mg base CX0 1 (He.ga K "_law_fault") fd ["_law_table_here", "_law_signed"] (sp_l_fault K) ∧ Binds K fd ["_law_table_here", "_law_signed"] [] := by
  have nd := sc_l_fault.nd
  obtain ⟨fd, F⟩ := T.d_l_fault
  refine ⟨fd, FunD.ok F sc_l_fault (fun vs H Q E h => len_l_fault h) (fun cdv A outer s H vs Q E hr h => ⟨t_l_fault K, PSs.nox ?_, pure_l_fault h⟩), F.bindsN fun _ _ _ _ _ _ us hl => match us, hl with | [_, _], _ => rfl⟩
  exact pss_cons (ps_if (pt_not (pt_val (pe_callB call_isi (by rfl) T.f_isinstance (by decide +kernel) (pa_cons (pv 0) (pa_cons (pe_bltn (v := .ty "tuple") (by rfl) (T.f_tuple) (by decide +kernel) rfl) (pa_nil)))))) (pss_one (ps_ret (pe_lst (pa_cons (pe_str) (pa_cons (pe_non) (pa_nil)))))) (pss_nil)) (pss_cons (ps_if (pt_not (pt_chain op_le op_le (pe_int) (pe_callB call_len_seq (by rfl) T.f_len (by decide +kernel) (pa_cons (pv 0) (pa_nil))) (pe_int))) (pss_one (ps_ret (pe_lst (pa_cons (pe_str) (pa_cons (pe_non) (pa_nil)))))) (pss_nil)) (pss_cons (ps_for PassesOwn.never rfl (pi_enumT (by rfl) T.f_enumerate (pa_cons (pv 0) (pa_nil))) (pg_tup rfl (pgs_cons (pg_name (i := 2) nd rfl (Or.inl rfl)) (pgs_cons (pg_name (i := 3) nd rfl (Or.inl rfl)) (pgs_nil)))) (pss_cons (ps_if (pt_not (pt_val (pe_callB call_isi (by rfl) T.f_isinstance (by decide +kernel) (pa_cons (pv 3) (pa_cons (pe_bltn (v := .ty "tuple") (by rfl) (T.f_tuple) (by decide +kernel) rfl) (pa_nil)))))) (pss_one (ps_ret (pe_lst (pa_cons (pe_str) (pa_cons (pv 2) (pa_nil)))))) (pss_nil)) (pss_cons (ps_if (PW.pt (pw_or (pt_not (pt_chain op_le op_le (pe_int) (pe_callB call_len_seq (by rfl) T.f_len (by decide +kernel) (pa_cons (pv 3) (pa_nil))) (pe_int))) (pw_or1 (pt_cmpR op_ne (pe_callB call_len_seq (by rfl) T.f_len (by decide +kernel) (pa_cons (pv 3) (pa_nil))) (pe_callB call_len_seq (by rfl) T.f_len (by decide +kernel) (pa_cons (pe_ix ix_tup (pv 0) (pe_int) (fun _ _ => rfl)) (pa_nil))) (nomark _))))) (pss_one (ps_ret (pe_lst (pa_cons (pe_str) (pa_cons (pv 2) (pa_nil)))))) (pss_nil)) (pss_one (ps_for PassesOwn.never rfl (pi_tup (pv 3)) (pg_name (i := 4) nd rfl (Or.inl rfl)) (pss_cons (ps_if (PW.pt (pw_or (pt_not (pt_val (pe_callB call_isi (by rfl) T.f_isinstance (by decide +kernel) (pa_cons (pv 4) (pa_cons (pe_bltn (v := .ty "int") (by rfl) (T.f_int) (by decide +kernel) rfl) (pa_nil)))))) (pw_or1 (pt_val (pe_callB call_isi (by rfl) T.f_isinstance (by decide +kernel) (pa_cons (pv 4) (pa_cons (pe_bltn (v := .ty "bool") (by rfl) (T.f_bool) (by decide +kernel) rfl) (pa_nil)))))))) (pss_one (ps_ret (pe_lst (pa_cons (pe_str) (pa_cons (pv 2) (pa_nil)))))) (pss_nil)) (pss_one (ps_if (PW.pt (pw_or (pt_cmpR op_lt (pv 4) (pe_int) (nomark _)) (pw_or1 (PW.pt (pw_and (pt_val (pv 1)) (pw_and1 (pt_cmpR op_gt (pv 4) (pe_int) (nomark _)))))))) (pss_one (ps_ret (pe_lst (pa_cons (pe_str) (pa_cons (pv 2) (pa_nil)))))) (pss_nil))))))))) (pss_one (ps_ret (pe_ifExp (pt_cmpR op_gt (pe_callB (cr_sumA rfl) (by rfl) T.f_sum (by decide +kernel) (pa_cons (pe_lc (own := [(("_law_row" : Str), 3)]) rfl nd (pi_tup (pv 0)) (blkOk_by (N := N_l_fault) (sc := defScope s_l_fault) (by decide +kernel)) (fun _ _ _ _ _ => pg_name (i := 3) nd rfl (Or.inl rfl)) (fun _ _ _ _ _ => pts_nil) (fun _ _ _ _ _ => pe_callB (cr_sumA rfl) (by rfl) T.f_sum (by decide +kernel) (pa_cons (pe_callTy call_list_of (by rfl) T.f_list (by decide +kernel) (pa_cons (pv 3) (pa_nil))) (pa_nil)))) (pa_nil))) (pe_int) (nomark _)) (pe_lst (pa_cons (pe_str) (pa_cons (pe_int) (pa_nil)))) (pe_non))))))
end
end Uh

set_option Elab.async false
set_option linter.all false
set_option maxRecDepth 100000
set_option maxHeartbeats 400000
namespace Uh
open PySem PySem.Spec PyProof.Rows L2
open Evl (Ex)
local macro_rules | `(tactic| walk_at "ev") => `(tactic| repeat (first
  | with_reducible exact ep_var rfl | with_reducible exact ep_int | with_reducible exact ep_bl | with_reducible exact ep_non | with_reducible exact ep_str
  | with_reducible exact ea_nil | with_reducible apply ea_cons | with_reducible apply ep_tupG | with_reducible apply ef_lstG | with_reducible exact et_yes
  | with_reducible apply ca_isiG | with_reducible exact kit_tuple _ | with_reducible exact kit_int _ | with_reducible exact kit_bool _ | with_reducible exact kit_str _
  | with_reducible apply et_test | with_reducible apply et_b | with_reducible apply et_not | with_reducible apply et_orG | with_reducible apply et_andG
  | with_reducible apply ep_orG | with_reducible apply ep_andG | with_reducible apply ep_notV | with_reducible apply ep_chainG
  | with_reducible apply ep_inG | with_reducible apply ep_op | with_reducible apply ep_un | with_reducible apply ep_cb
  | with_reducible exact od_i | with_reducible exact od_b | with_reducible exact od_eqI | with_reducible exact od_neI | with_reducible exact od_eqS | with_reducible exact od_eqB | with_reducible exact od_isN | with_reducible exact od_notN | with_reducible exact ud_i
  | with_reducible exact od_ixT at3_0 | with_reducible exact od_ixT at3_1 | with_reducible exact od_ixT at3_2 | with_reducible exact od_ixT at2_0 | with_reducible exact od_ixT at2_1 | with_reducible exact od_ixT at1_0
  | with_reducible apply od_catA | (with_reducible show _ + _ ≤ 100000; first | omega | (simp; done) | (simp; omega))
  | with_reducible exact ca_lenT | with_reducible exact ca_lenL
  | exact (show allS _ = true from rfl) | exact (show Nat.ble _ 100000 = true from rfl)))
/-! ### the told form -/
def lineF (sg : Bool) (b : Nat) (T : NT) (i : Nat) : Nat := if sg then (T.getD i []).sum else if i < b then fnT T i i else 0
def rowS (r : List Nat) : List Nat := List.replicate r.sum 1 ++ List.replicate (r.length - r.sum) 0
def rowF (sg : Bool) (b : Nat) (T : NT) (i : Nat) : Prop := if sg then T.getD i [] = rowS (T.getD i []) else ∀ j, j < b → j ≠ i → fnT T i j = 0
theorem getD_rowS {r : List Nat} {s m j : Nat} (hj : j < s + m) : (List.replicate s 1 ++ List.replicate m 0).getD j 0 = if j < s then 1 else 0 := by
  rw [List.getD_eq_getElem?_getD]
  by_cases h : j < s
  · rw [List.getElem?_append_left (by simpa using h), if_pos h]
    simp [h]
  · rw [List.getElem?_append_right (by simpa using h), if_neg h]
    simp [show j - s < m by omega]
theorem rowS_of {r : List Nat} (one : ∀ j, r.getD j 0 ≤ 1) : r = rowS r ↔ ∀ j, j + 1 < r.length → r.getD (j + 1) 0 ≤ r.getD j 0 := by
  have hs : su r.length (fun j => r.getD j 0) = r.sum := (su_sum rfl).symm
  have hle : r.sum ≤ r.length := by
    rw [← hs]
    exact (su_ones (f := fun j => r.getD j 0) fun j _ => one j).1
  constructor
  · intro e j hj
    have e1 : ∀ j, j < r.length → r.getD j 0 = if j < r.sum then 1 else 0 := fun j hj => by
      have h2 := getD_rowS (r := r) (s := r.sum) (m := r.length - r.sum) (j := j) (by omega)
      have h3 : r.getD j 0 = (rowS r).getD j 0 := congrArg (fun l => l.getD j 0) e
      rw [h3]
      exact h2
    rw [e1 _ hj, e1 j (by omega)]
    by_cases c : j + 1 < r.sum
    · rw [if_pos c, if_pos (by omega)]
      exact Nat.le_refl _
    · rw [if_neg c]
      exact Nat.zero_le _
  · intro h
    apply List.ext_getElem
    · unfold rowS
      simp
      omega
    · intro j h1 h2
      have e1 := su_noninc (f := fun j => r.getD j 0) (n := r.length) (fun j _ => one j) (fun j hj => h j hj) j h1
      rw [hs] at e1
      have h3 := getD_rowS (r := r) (s := r.sum) (m := r.length - r.sum) (j := j) (by omega)
      have g1 : r.getD j 0 = r[j] := by simp [List.getD, h1]
      have g2 : (rowS r).getD j 0 = (rowS r)[j] := by simp [List.getD, h2]
      rw [← g1, ← g2]
      exact e1.trans h3.symm
theorem getD_one {sg : Bool} {T : NT} {a b i : Nat} (g : Good sg T a b) (hs : sg = true) : ∀ j, (T.getD i []).getD j 0 ≤ 1 := fun j => fnT_one (i := i) (j := j) g hs
theorem form_line {sg : Bool} {T : NT} {a b : Nat} (g : Good sg T a b) : Form sg a b (fnT T) ↔ (∀ i, i < a → rowF sg b T i) ∧ ∀ i, i + 1 < a → lineF sg b T (i + 1) ≤ lineF sg b T i := by
  unfold Form
  cases sg with
  | false =>
    constructor
    · intro h
      refine ⟨fun i hi j hj hij => h.off i j hi hj (Ne.symm hij), fun i hi => ?_⟩
      show (if i + 1 < b then fnT T (i + 1) (i + 1) else 0) ≤ if i < b then fnT T i i else 0
      by_cases c : i + 1 < b
      · rw [if_pos c, if_pos (by omega)]
        exact h.down i hi c
      · rw [if_neg c]
        exact Nat.zero_le _
    · rintro ⟨h1, h2⟩
      refine ⟨fun i j hi hj hij => h1 i hi j hj (Ne.symm hij), fun i hi hb => ?_⟩
      have := h2 i hi
      have e : (if i + 1 < b then fnT T (i + 1) (i + 1) else 0) ≤ if i < b then fnT T i i else 0 := this
      rw [if_pos hb, if_pos (by omega)] at e
      exact e
  | true =>
    have hrl : ∀ i, i < a → (T.getD i []).length = b := fun i hi => row_len g.rect hi
    have hsum : ∀ i, i < a → (T.getD i []).sum = su b (fnT T i) := fun i hi => su_sum (hrl i hi)
    have hrow : ∀ i, i < a → (rowF true b T i ↔ ∀ j, j + 1 < b → fnT T i (j + 1) ≤ fnT T i j) := fun i hi => by
      have := rowS_of (r := T.getD i []) (getD_one g rfl)
      rw [hrl i hi] at this
      exact this
    constructor
    · intro h
      refine ⟨fun i hi => (hrow i hi).mpr fun j hj => h.right i j hi hj, fun i hi => ?_⟩
      show (T.getD (i + 1) []).sum ≤ (T.getD i []).sum
      rw [hsum _ hi, hsum i (by omega)]
      exact su_le fun j hj => h.down i j hi hj
    · rintro ⟨h1, h2⟩
      refine ⟨fun i j hi hj => (hrow i hi).mp (h1 i hi) j hj, fun i j hi hj => ?_⟩
      have hs : (T.getD (i + 1) []).sum ≤ (T.getD i []).sum := h2 i hi
      rw [hsum _ hi, hsum i (by omega)] at hs
      rw [su_noninc (f := fnT T (i + 1)) (n := b) (fun _ _ => oneT g rfl _ _) (fun j hj => (hrow _ hi).mp (h1 _ hi) j hj) j hj, su_noninc (f := fnT T i) (n := b) (fun _ _ => oneT g rfl _ _) (fun j hj => (hrow i (by omega)).mp (h1 i (by omega)) j hj) j hj]
      by_cases c : j < su b (fnT T (i + 1))
      · rw [if_pos c, if_pos (by omega)]
        exact Nat.le_refl _
      · rw [if_neg c]
        exact Nat.zero_le _
/-! ### lists of numbers, compared -/
theorem plain_nats {r : List Nat} : ∀ d ∈ r.map natD, plainD d = true := fun d hd => by
  obtain ⟨k, _, rfl⟩ := List.mem_map.mp hd
  rfl
theorem shaped_nats {r : List Nat} : SeqAt.shaped (.list (r.map natD)) = true := shaped_list (fun d hd => by
  obtain ⟨k, _, rfl⟩ := List.mem_map.mp hd
  rfl) fun d hd => by
  obtain ⟨k, _, rfl⟩ := List.mem_map.mp hd
  simp [PyData.depth]
theorem od_neN {K : PySem.W.Frag} {r s : List Nat} : OpD (rNeD K) (.list (r.map natD)) (.list (s.map natD)) (.bool (!decide (r = s))) := by
  have h := od_neD (K := K) (x := .list (r.map natD)) (y := .list (s.map natD)) (plainL_all plain_nats) (plainL_all plain_nats) shaped_nats shaped_nats
  have e : PyData.eqv (.list (r.map natD)) (.list (s.map natD)) = decide (r = s) := by rw [PyData.eqv, eqv_row]
  rw [e] at h
  exact h
theorem idx_all {r : List Nat} {i : Nat} : ((idx 0 r).filter fun q : Nat × Nat => decide (q.1 ≠ i) && decide (0 < q.2)) = [] ↔ ∀ j, j < r.length → j ≠ i → r.getD j 0 = 0 := by
  rw [List.filter_eq_nil_iff]
  constructor
  · intro h j hj hij
    have hl : j < (idx 0 r).length := by rw [idx_len]; exact hj
    have hg : (idx 0 r)[j]? = some (idx 0 r)[j] := by simp [hl]
    obtain ⟨e1, e2⟩ := idx_get hg
    have := h _ (List.getElem_mem hl)
    have e3 : r.getD j 0 = (idx 0 r)[j].2 := by simp [List.getD, e2]
    rw [e3]
    simp only [Bool.and_eq_true, decide_eq_true_eq, not_and] at this
    have e4 : (idx 0 r)[j].1 ≠ i := by rw [e1, Nat.zero_add]; exact hij
    have := this e4
    omega
  · intro h q hq
    obtain ⟨j, hj⟩ := List.mem_iff_getElem?.mp hq
    obtain ⟨e1, e2⟩ := idx_get hj
    simp only [Bool.and_eq_true, decide_eq_true_eq, not_and]
    intro hne
    rw [e1, Nat.zero_add] at hne
    have hjl : j < r.length := (List.getElem?_eq_some_iff.mp e2).1
    have := h j hjl hne
    have e3 : r.getD j 0 = q.2 := by simp [List.getD, e2]
    omega
theorem eqv_nilI {K : PySem.W.Frag} {ss : List Slot} {te : TE} {ns : List Int} (h : EvP te ss (.list (ns.map .int))) : EvP (tOp (rEqD K) te (tLst tNil)) ss (.bool ns.isEmpty) := by
  have := ep_op (r := rEqD K) h (EvF.p (ef_lstG ea_nil rfl)) (od_eqD (plainL_all ints_plain) rfl (shaped_list ints_can ints_depth) (by decide))
  rw [eqv_nil, List.isEmpty_map] at this
  exact this
/-! l_formed -/
def R_l_formed (ds : List PyData) (r : PyData) : Prop := ∃ (T : NT) (sg : Bool) (a b : Nat) (f : Bool), ds = [tabN T, .bool sg] ∧ Good sg T a b ∧ (f = true ↔ Form sg a b (fnT T)) ∧ r = .bool f
def sp_l_formed (K : PySem.W.Frag) : Sp := SpP R_l_formed
def t_l_formed (K : PySem.W.Frag) : TS := tSeq (tAsg (tLst (tNil)) (gName 2)) (tSeq (tFor (iEnumT K (tCons (tVar 0) (tNil))) (gTup K 2 (gCons (gName 3) (gCons (gName 4) (gNil)))) (tIfS (tB (tVar 1)) (tSeq (tDrop (tBM K "list" rAppend (tVar 2) (tCons (tCB (rSumA K) (tCons (tCB (rListOf K) (tCons (tVar 4) (tNil))) (tNil))) (tNil)))) (tIfS (tTest (tOp (rNeD K) (tCB (rListOf K) (tCons (tVar 4) (tNil))) (tOp (rCat) (tOp (rRep) (tLst (tCons (tC (.int 1)) (tNil))) (tOp (rIxL K) (tVar 2) (tVar 3))) (tOp (rRep) (tLst (tCons (tC (.int 0)) (tNil))) (tOp (rI0 fun i j => .int (i - j)) (tCB (rLen K) (tCons (tVar 4) (tNil))) (tOp (rIxL K) (tVar 2) (tVar 3))))))) (tRet (tC (.bl false))) (tNext))) (tSeq (tIfS (tTest (tOp (rNeD K) (tLc (iEnumT K (tCons (tVar 4) (tNil))) (gTup K 2 (gCons (gName 5) (gCons (gName 6) (gNil)))) (tAnd (tTest (tOp (rNe) (tVar 5) (tVar 3))) (tTest (tOp (rI0 fun i j => .bl (decide (j < i))) (tVar 6) (tC (.int 0))))) (tVar 6) [5, 6]) (tLst (tNil)))) (tRet (tC (.bl false))) (tNext)) (tDrop (tBM K "list" rAppend (tVar 2) (tCons (tIf (tTest (tOp (rI0 fun i j => .bl (decide (i < j))) (tVar 3) (tCB (rLen K) (tCons (tVar 4) (tNil))))) (tOp (rIxT K) (tVar 4) (tVar 3)) (tC (.int 0))) (tNil))))))) (tRet (tOp (rEqD K) (tLc (iRng2 (tCons (tC (.int 1)) (tCons (tCB (rLen K) (tCons (tVar 2) (tNil))) (tNil)))) (gName 3) (tTest (tOp (rI0 fun i j => .bl (decide (i < j))) (tOp (rIxL K) (tVar 2) (tOp (rI0 fun i j => .int (i - j)) (tVar 3) (tC (.int 1)))) (tOp (rIxL K) (tVar 2) (tVar 3)))) (tVar 3) [3]) (tLst (tNil)))))
theorem len_l_formed {K : PySem.W.Frag} {vs : List V} {H : Hp} {Q : VK} {E : XK} (h : sp_l_formed K vs H Q E) : vs.length = 2 := spP_len h fun ds r ⟨_, _, _, _, _, e, _⟩ => by rw [e]; rfl
theorem run_l_formed (K : PySem.W.Frag) (W : Wd) (n : Nat) (ds : List PyData) (r : PyData) (h : R_l_formed ds r) : RunS W (t_l_formed K) n (ds.map Slot.d ++ List.replicate (7 - ds.length) .non) (fun o => o = .rt n r) := by
  obtain ⟨TT, sg, a, b, f, rfl, g, hf, rfl⟩ := h
  have hR := g.rect
  have hl := hR.len
  have hr5 := hR.r5
  have hc5 := hR.c5
  rw [form_line g] at hf
  have hfalse : ∀ i, i < a → ¬ rowF sg b TT i → f = false := fun i hi hn => by
    cases f with
    | false => rfl
    | true => exact absurd ((hf.mp rfl).1 i hi) hn
  refine snew (ef_lst ea_nil (by simp)) fun p => ?_
  refine sfor (xs := idx 0 TT) (enc := fun q => .tuple [.int (q.1 : Nat), rowN q.2]) (f := fun q ss => (ss.set 3 (.d (.int (q.1 : Nat)))).set 4 (.d (rowN q.2)))
    (fun i n' ss' => n' = n ∧ (∀ j, j < i → rowF sg b TT j) ∧ ∃ s t, ss' = [.d (tabN TT), .d (.bool sg), .own p (((List.range i).map (lineF sg b TT)).map natD), s, t, .non, .non]) (by
    have hw := wk_enumT (K := K) (ss := [.d (tabN TT), .d (.bool sg), .own p [], .non, .non, .non, .non]) (ta := tCons (tVar 0) tNil) (ds := TT.map rowN) (ea_cons (ep_var rfl) ea_nil)
    rw [enumD_idx] at hw
    exact hw) (fun _ _ => tg_two) ⟨rfl, fun j hj => by omega, _, _, rfl⟩ ?_ ?_
  · rintro i ⟨j, r⟩ n _ hi ⟨rfl, hbef, s, t, rfl⟩
    obtain ⟨h1, h2⟩ := idx_get hi
    have hj : j = i := by simpa using h1
    subst hj
    have h2 : TT[j]? = some r := h2
    have hja : j < a := by
      have := (List.getElem?_eq_some_iff.mp h2).1
      omega
    have hr : TT.getD j [] = r := by simp [List.getD, h2]
    have hrl : r.length = b := by rw [← hr]; exact row_len hR hja
    have hrs : r.sum ≤ 12 := by
      have h3 := su_mono (f := rs b (fnT TT)) hja
      have h4 := good_tot g
      unfold tot at h4
      have h5 : r.sum = rs b (fnT TT) j := by rw [← hr]; exact su_sum (by rw [hr, hrl])
      omega
    have hsnoc : ∀ z : Nat, lineF sg b TT j = z → ((List.range j).map (lineF sg b TT)).map natD ++ [natD z] = ((List.range (j + 1)).map (lineF sg b TT)).map natD := fun z e => by
      rw [List.range_succ, List.map_append, List.map_append, ← e]
      rfl
    cases sg with
    | true =>
      refine rs_ifT (et_b (ep_var rfl)) ?_
      refine sapp (i := 2) (a := p) rfl (by simp; omega) (ep_cb (ea_cons (EvF.p (ef_listT (ea_cons (ep_var (d := .tuple (r.map natD)) rfl) ea_nil))) ea_nil) ca_sumLN) ?_
      have hlf : lineF true b TT j = r.sum := by unfold lineF; rw [if_pos rfl, hr]
      rw [hsnoc _ hlf]
      have hle : r.sum ≤ b := by
        have hs : su r.length (fun j => r.getD j 0) = r.sum := (su_sum rfl).symm
        rw [← hs, hrl]
        exact (su_ones (f := fun j => r.getD j 0) fun i _ => by rw [← hr]; exact getD_one g rfl i).1
      have hk : EvP (tOp (rIxL K) (tVar 2) (tVar 3)) [.d (tabN TT), .d (.bool true), .own p (((List.range (j + 1)).map (lineF true b TT)).map natD), .d (.int (j : Nat)), .d (rowN r), .non, .non] (natD r.sum) :=
        ep_thaw (i := 2) rfl (ep_op (ep_var rfl) (ep_var rfl) (od_ixL (at_nat (by
          rw [List.getElem?_map, List.getElem?_map, List.getElem?_range (by omega)]
          simp [hlf])))) rfl
      have htest : EvT (tTest (tOp (rNeD K) (tCB (rListOf K) (tCons (tVar 4) (tNil))) (tOp (rCat) (tOp (rRep) (tLst (tCons (tC (.int 1)) (tNil))) (tOp (rIxL K) (tVar 2) (tVar 3))) (tOp (rRep) (tLst (tCons (tC (.int 0)) (tNil))) (tOp (rI0 fun i j => .int (i - j)) (tCB (rLen K) (tCons (tVar 4) (tNil))) (tOp (rIxL K) (tVar 2) (tVar 3)))))))
          [.d (tabN TT), .d (.bool true), .own p (((List.range (j + 1)).map (lineF true b TT)).map natD), .d (.int (j : Nat)), .d (rowN r), .non, .non] (!decide (r = rowS r)) := by
        refine et_test (ep_op (EvF.p (ef_listT (ea_cons (ep_var (d := .tuple (r.map natD)) rfl) ea_nil))) (ep_is (y := .list ((rowS r).map natD)) (ep_op (mul_one (x := natD 1) (k := r.sum) ep_int hk (by omega)) (mul_one (x := natD 0) (k := r.length - r.sum) ep_int (ep_is (ep_op (ep_cb (ea_cons (ep_var (d := .tuple (r.map natD)) rfl) ea_nil) ca_lenT) hk od_i) ?_) (by omega)) (od_cat (by rw [List.length_replicate, List.length_replicate]; omega))) ?_) od_neN)
        · rw [List.length_map]
          show PyData.int _ = .int _
          congr 1
          omega
        · unfold rowS
          rw [List.map_append, List.map_replicate, List.map_replicate]
      by_cases hrow : r = rowS r
      · refine rs_ifF (et_is htest (by rw [decide_eq_true hrow]; rfl)) (rs_next ⟨rfl, fun q hq => ?_, _, _, rfl⟩)
        by_cases c : q = j
        · subst c
          unfold rowF
          rw [if_pos rfl, hr]
          exact hrow
        · exact hbef q (by omega)
      · refine rs_ifT (et_is htest (by rw [decide_eq_false hrow]; rfl)) (rs_ret ep_bl ?_)
        rw [hfalse j hja fun z => hrow (by
          unfold rowF at z
          rw [if_pos rfl, hr] at z
          exact z)]
        rfl
    | false =>
      refine rs_ifF (et_b (ep_var rfl)) ?_
      have hcell : ∀ q, q < b → fnT TT j q = r.getD q 0 := fun q _ => by
        unfold fnT
        rw [hr]
      have hlc := ef_lc (wi := iEnumT K (tCons (tVar 4) (tNil))) (g := gTup K 2 (gCons (gName 5) (gCons (gName 6) (gNil)))) (tt := tAnd (tTest (tOp (rNe) (tVar 5) (tVar 3))) (tTest (tOp (rI0 fun i j => .bl (decide (j < i))) (tVar 6) (tC (.int 0))))) (te := tVar 6) (vs := [5, 6])
        (ss := [.d (tabN TT), .d (.bool false), .own p (((List.range j).map (lineF false b TT)).map natD), .d (.int (j : Nat)), .d (rowN r), .non, .non])
        (xs := idx 0 r) (enc := fun q => .tuple [.int (q.1 : Nat), natD q.2]) (f := fun q ss => (ss.set 5 (.d (.int (q.1 : Nat)))).set 6 (.d (natD q.2))) (fun q : Nat × Nat => decide (q.1 ≠ j) && decide (0 < q.2)) (fun q => natD q.2) (by
        have hw := wk_enumT (K := K) (ss := [.d (tabN TT), .d (.bool false), .own p (((List.range j).map (lineF false b TT)).map natD), .d (.int (j : Nat)), .d (rowN r), .non, .non]) (ta := tCons (tVar 4) tNil) (ds := r.map natD) (ea_cons (ep_var rfl) ea_nil)
        rw [enumD_idx] at hw
        exact hw) (by rw [idx_len]; omega) (fun _ _ => tc_two (by decide)) (fun q _ => et_is (et_andG (et_test (ep_op (ep_var rfl) (ep_var rfl) od_neI)) (et_test (ep_op (ep_var rfl) ep_int od_b))) (by
          rw [← decide_not]
          congr 1
          · exact decide_eq_decide.mpr (by omega)
          · exact decide_eq_decide.mpr (by omega))) (fun q _ _ => ep_var rfl)
      have htest := ne_nilN (K := K) (ns := (((idx 0 r).filter fun q : Nat × Nat => decide (q.1 ≠ j) && decide (0 < q.2)).map fun q => q.2)) (ep_is hlc.p (by rw [List.map_map]; rfl))
      rw [List.isEmpty_map] at htest
      by_cases hrow : ((idx 0 r).filter fun q : Nat × Nat => decide (q.1 ≠ j) && decide (0 < q.2)) = []
      · refine sf (et_is htest (by rw [hrow]; rfl)) ?_
        have hrf := idx_all.mp hrow
        refine rs_app (i := 2) (a := p) (d := natD (lineF false b TT j)) rfl (by simp; omega) ?_ ⟨rfl, fun q hq => ?_, .d (.int (j : Nat)), .d (rowN r), ?_⟩
        · have hlf : lineF false b TT j = if j < b then fnT TT j j else 0 := rfl
          rw [hlf]
          by_cases c : j < b
          · rw [if_pos c]
            refine ep_ifT (et_is (et_test (ep_op (ep_var rfl) (ep_cb (ea_cons (ep_var (d := .tuple (r.map natD)) rfl) ea_nil) ca_lenT) od_b)) (decide_eq_true (by rw [List.length_map]; omega))) (ep_op (ep_var (d := .tuple (r.map natD)) rfl) (ep_var rfl) (od_ixT ?_))
            rw [hcell j c]
            exact at_rowN (by omega)
          · rw [if_neg c]
            exact ep_ifF (et_is (et_test (ep_op (ep_var rfl) (ep_cb (ea_cons (ep_var (d := .tuple (r.map natD)) rfl) ea_nil) ca_lenT) od_b)) (decide_eq_false (by rw [List.length_map]; omega))) ep_int
        · by_cases c : q = j
          · subst c
            unfold rowF
            rw [if_neg (by decide)]
            intro q2 hq2 hne
            rw [hcell q2 hq2]
            exact hrf q2 (by omega) hne
          · exact hbef q (by omega)
        · rw [hsnoc _ rfl]
          rfl
      · refine rs_seq (rs_ifT (et_is htest (by cases hq : ((idx 0 r).filter fun q : Nat × Nat => decide (q.1 ≠ j) && decide (0 < q.2)) with | nil => exact absurd hq hrow | cons _ _ => rfl)) (rs_ret ep_bl ?_))
        rw [hfalse j hja fun z => hrow (idx_all.mpr fun q hq hne => by
          unfold rowF at z
          rw [if_neg (by decide)] at z
          rw [← hcell q (by omega)]
          exact z q (by omega) hne)]
        rfl
  · rintro n _ ⟨rfl, hall, s, t, rfl⟩
    rw [idx_len] at hall ⊢
    rw [hl] at hall ⊢
    refine rs_freeze (i := 2) rfl ?_
    have hat : ∀ i, i < a → atI (((List.range a).map (lineF sg b TT)).map natD) (i : Int) = some (natD (lineF sg b TT i)) := fun i hi => at_nat (by
      rw [List.getElem?_map, List.getElem?_map, List.getElem?_range hi]
      rfl)
    have a2 := g.a2
    have hlc := ef_lc (wi := iRng2 (tCons (tC (.int 1)) (tCons (tCB (rLen K) (tCons (tVar 2) (tNil))) (tNil)))) (g := gName 3) (tt := tTest (tOp (rI0 fun i j => .bl (decide (i < j))) (tOp (rIxL K) (tVar 2) (tOp (rI0 fun i j => .int (i - j)) (tVar 3) (tC (.int 1)))) (tOp (rIxL K) (tVar 2) (tVar 3)))) (te := tVar 3) (vs := [3])
      (ss := [.d (tabN TT), .d (.bool sg), .d (.list (((List.range a).map (lineF sg b TT)).map natD)), s, t, .non, .non]) (xs := irange 1 (a - 1)) (enc := PyData.int) (f := fun z ss => ss.set 3 (.d (.int z))) (fun z : Int => decide (lineF sg b TT (z.toNat - 1) < lineF sg b TT z.toNat)) PyData.int (by
        have hw := wk_r2 (ss := [.d (tabN TT), .d (.bool sg), .d (.list (((List.range a).map (lineF sg b TT)).map natD)), s, t, .non, .non]) (ta := tCons (tC (.int 1)) (tCons (tCB (rLen K) (tCons (tVar 2) (tNil))) (tNil))) (lo := 1) (n := (a : Nat)) (ea_cons ep_int (ea_cons (ep_is (ep_cb (ea_cons (ep_var rfl) ea_nil) ca_lenL) (by simp)) ea_nil)) (by omega) (by omega)
        have e : ((a : Nat) - 1 : Int).toNat = a - 1 := by omega
        rw [e] at hw
        exact hw) (by rw [irange_len]; omega) (fun _ _ => tc_name) (fun z hz => ?_) (fun z _ _ => ep_var rfl)
    · refine rs_ret (eqv_nilI hlc.p) ?_
      congr 1
      show PyData.bool _ = .bool f
      congr 1
      rw [Bool.eq_iff_iff, List.isEmpty_iff, List.filter_eq_nil_iff, hf]
      constructor
      · intro h
        refine ⟨hall, fun i hi => ?_⟩
        have hm : ((i : Int) + 1) ∈ irange 1 (a - 1) := by
          unfold irange
          exact List.mem_map.mpr ⟨i, List.mem_range.mpr (by omega), by omega⟩
        have := h _ hm
        have e1 : ((i : Int) + 1).toNat = i + 1 := by omega
        rw [e1] at this
        simp only [decide_eq_true_eq, Nat.add_sub_cancel] at this
        omega
      · rintro ⟨_, h⟩ z hz
        unfold irange at hz
        obtain ⟨i, hi, rfl⟩ := List.mem_map.mp hz
        have hi := List.mem_range.mp hi
        have := h i (by omega)
        have e1 : (1 + (i : Int)).toNat = i + 1 := by omega
        rw [e1]
        simp only [decide_eq_true_eq, Nat.add_sub_cancel]
        omega
    · unfold irange at hz
      obtain ⟨i, hi, rfl⟩ := List.mem_map.mp hz
      have hi := List.mem_range.mp hi
      have e1 : (1 + (i : Int)).toNat = i + 1 := by omega
      refine et_is (et_test (ep_op (ep_op (ep_var rfl) (ep_is (y := .int (i : Nat)) (ep_op (ep_var rfl) ep_int od_i) (by show PyData.int _ = .int _; congr 1; omega)) (od_ixL (hat i (by omega)))) (ep_op (ep_var rfl) (ep_is (y := .int ((i + 1 : Nat) : Int)) (ep_var rfl) (by show PyData.int _ = .int _; congr 1; omega)) (od_ixL (hat (i + 1) (by omega)))) od_b)) ?_
      rw [e1, Nat.add_sub_cancel]
      exact decide_eq_decide.mpr (by omega)
theorem pure_l_formed {K : PySem.W.Frag} {vs : List V} {H : Hp} {Q : VK} {E : XK} (h : sp_l_formed K vs H Q E) : t_l_formed K { nx := fun _ H' => Q .non H', rt := Q } (L2.start ["_law_table_here", "_law_signed", "_law_line", "_law_k", "_law_row", "_law_spot", "_law_item"] vs) H := pure_of h fun W n ds r hr => run_l_formed K W n ds r hr
section
variable {P : Program} {w : World} {K : PySem.W.Frag} {mg : Str → Option Value} {base : Heap}
abbrev N_l_formed : List Str := ["_law_table_here", "_law_signed", "_law_line", "_law_k", "_law_row", "_law_spot", "_law_item"]
theorem sc_l_formed : FnScope N_l_formed ["_law_table_here", "_law_signed"] (defScope s_l_formed) := ⟨rfl, rfl, rfl, by decide +kernel, rfl, by decide +kernel, by decide +kernel⟩
theorem ok_l_formed (T : Tx K mg) : ∃ fd, FnOk P w K mg base CX0 1 (He.ga K "_law_formed") fd ["_law_table_here", "_law_signed"] (sp_l_formed K) ∧ Binds K fd ["_law_table_here", "_law_signed"] [] := by
  have nd := sc_l_formed.nd
  obtain ⟨fd, F⟩ := T.d_l_formed
  refine ⟨fd, FunD.ok F sc_l_formed (fun vs H Q E h => len_l_formed h) (fun cdv A outer s H vs Q E hr h => ⟨t_l_formed K, PSs.nox ?_, pure_l_formed h⟩), F.bindsN fun _ _ _ _ _ _ us hl => match us, hl with | [_, _], _ => rfl⟩
  exact pss_cons (ps_set (i := 2) nd rfl (Or.inr rfl) (pe_lst (pa_nil))) (pss_cons (ps_for PassesOwn.never rfl (pi_enumT (by rfl) T.f_enumerate (pa_cons (pv 0) (pa_nil))) (pg_tup rfl (pgs_cons (pg_name (i := 3) nd rfl (Or.inr rfl)) (pgs_cons (pg_name (i := 4) nd rfl (Or.inl rfl)) (pgs_nil)))) (pss_one (ps_if (pt_val (pv 1)) (pss_cons (ps_expr (pe_bm PySem.F.plainAttrs_list PySem.F.slot_list_append PySem.F.type_list_append mt_append (pv 2) (pa_cons (pe_callB (cr_sumA rfl) (by rfl) T.f_sum (by decide +kernel) (pa_cons (pe_callTy call_list_of (by rfl) T.f_list (by decide +kernel) (pa_cons (pv 4) (pa_nil))) (pa_nil))) (pa_nil)))) (pss_one (ps_if (pt_cmpR (op_neD hr.units) (pe_callTy call_list_of (by rfl) T.f_list (by decide +kernel) (pa_cons (pv 4) (pa_nil))) (pe_op op_cat (pe_op op_rep (pe_lst (pa_cons (pe_int) (pa_nil))) (pe_ix ix_list (pv 2) (pv 3) (fun _ _ => rfl))) (pe_op op_rep (pe_lst (pa_cons (pe_int) (pa_nil))) (pe_op op_sub (pe_callB call_len_seq (by rfl) T.f_len (by decide +kernel) (pa_cons (pv 4) (pa_nil))) (pe_ix ix_list (pv 2) (pv 3) (fun _ _ => rfl))))) (nomark _)) (pss_one (ps_ret (pe_bl))) (pss_nil)))) (pss_cons (ps_if (pt_cmpR (op_neD hr.units) (pe_lc (own := [(("_law_spot" : Str), 5), (("_law_item" : Str), 6)]) rfl nd (pi_enumT (by rfl) T.f_enumerate (pa_cons (pv 4) (pa_nil))) (blkOk_by (N := N_l_formed) (sc := defScope s_l_formed) (by decide +kernel)) (fun _ _ _ _ _ => pg_tup rfl (pgs_cons (pg_name (i := 5) nd rfl (Or.inl rfl)) (pgs_cons (pg_name (i := 6) nd rfl (Or.inl rfl)) (pgs_nil)))) (fun _ _ _ _ _ => pts_one (PW.pt (pw_and (pt_cmpR op_ne (pv 5) (pv 3) (nomark _)) (pw_and1 (pt_cmpR op_gt (pv 6) (pe_int) (nomark _)))))) (fun _ _ _ _ _ => pv 6)) (pe_lst (pa_nil)) (nomark _)) (pss_one (ps_ret (pe_bl))) (pss_nil)) (pss_one (ps_expr (pe_bm PySem.F.plainAttrs_list PySem.F.slot_list_append PySem.F.type_list_append mt_append (pv 2) (pa_cons (pe_ifExp (pt_cmpR op_lt (pv 3) (pe_callB call_len_seq (by rfl) T.f_len (by decide +kernel) (pa_cons (pv 4) (pa_nil))) (nomark _)) (pe_ix ix_tup (pv 4) (pv 3) (fun _ _ => rfl)) (pe_int)) (pa_nil))))))))) (pss_one (ps_ret (pe_cmpR (op_eqD hr.units) (pe_lc (own := [(("_law_k" : Str), 3)]) rfl nd (pi_range2 rfl T.f_range (pa_cons (pe_int) (pa_cons (pe_callB call_len_seq (by rfl) T.f_len (by decide +kernel) (pa_cons (pv 2) (pa_nil))) (pa_nil)))) (blkOk_by (N := N_l_formed) (sc := defScope s_l_formed) (by decide +kernel)) (fun _ _ _ _ _ => pg_name (i := 3) nd rfl (Or.inl rfl)) (fun _ _ _ _ _ => pts_one (pt_cmpR op_lt (pe_ix ix_list (pv 2) (pe_op op_sub (pv 3) (pe_int)) (fun _ _ => rfl)) (pe_ix ix_list (pv 2) (pv 3) (fun _ _ => rfl)) (nomark _))) (fun _ _ _ _ _ => pv 3)) (pe_lst (pa_nil)) (nomark _)))))
end
end Uh

set_option Elab.async false
set_option linter.all false
set_option maxRecDepth 100000
set_option maxHeartbeats 400000
namespace Uh
open PySem PySem.Spec PyProof.Rows L2
open Evl (Ex)
local macro_rules | `(tactic| walk_at "ev") => `(tactic| repeat (first
  | with_reducible exact ep_var rfl | with_reducible exact ep_int | with_reducible exact ep_bl | with_reducible exact ep_non | with_reducible exact ep_str
  | with_reducible exact ea_nil | with_reducible apply ea_cons | with_reducible apply ep_tupG | with_reducible apply ef_lstG | with_reducible exact et_yes
  | with_reducible apply ca_isiG | with_reducible exact kit_tuple _ | with_reducible exact kit_int _ | with_reducible exact kit_bool _ | with_reducible exact kit_str _
  | with_reducible apply et_test | with_reducible apply et_b | with_reducible apply et_not | with_reducible apply et_orG | with_reducible apply et_andG
  | with_reducible apply ep_orG | with_reducible apply ep_andG | with_reducible apply ep_notV | with_reducible apply ep_chainG
  | with_reducible apply ep_inG | with_reducible apply ep_op | with_reducible apply ep_un | with_reducible apply ep_cb
  | with_reducible exact od_i | with_reducible exact od_b | with_reducible exact od_eqI | with_reducible exact od_neI | with_reducible exact od_eqS | with_reducible exact od_eqB | with_reducible exact od_isN | with_reducible exact od_notN | with_reducible exact ud_i
  | with_reducible exact od_ixT at3_0 | with_reducible exact od_ixT at3_1 | with_reducible exact od_ixT at3_2 | with_reducible exact od_ixT at2_0 | with_reducible exact od_ixT at2_1 | with_reducible exact od_ixT at1_0
  | with_reducible apply od_catA | (with_reducible show _ + _ ≤ 100000; first | omega | (simp; done) | (simp; omega))
  | with_reducible exact ca_lenT | with_reducible exact ca_lenL
  | exact (show allS _ = true from rfl) | exact (show Nat.ble _ 100000 = true from rfl)))
theorem od_repT {K : PySem.W.Frag} {xs : List PyData} {k : Int} (h0 : xs ≠ []) (h1 : 2 ≤ k) (h2 : k ≤ 1000) (h3 : xs.length ≤ 1000) : OpD (rRepT K) (.tuple xs) (.int k) (.tuple (List.replicate k.toNat xs).flatten) := fun av H v w l a b Q q => by
  simp only [Da] at a
  obtain ⟨p, vs, rfl, hp, r⟩ := a
  refine ⟨p, k, vs, rfl, by simpa [Da] using b, hp.sq, fun z => ?_, h1, h2, by rw [← r.length]; exact h3, fun t ht => q _ _ (Ex.new ht) (da_new l ht ?_)⟩
  · rw [z] at r
    have := r.length
    exact h0 (List.length_eq_zero_iff.mp this)
  · generalize k.toNat = m
    induction m with
    | zero => simp [DaL]
    | succ m ih =>
      rw [List.replicate_succ, List.replicate_succ, List.flatten_cons, List.flatten_cons]
      exact r.append ih
/-- a, b = e, f; f a new list; by way of a tuple -/
theorem rs_asgTO {W : Wd} {n : Nat} {ss : List Slot} {K : PySem.W.Frag} {i j : Nat} {ta tb : TE} {d : PyData} {xs : List PyData} {P : Out → Prop} (h : EvP ta ss d) (k : EvF tb ss xs) (p : ∀ a, P (.nx n ((ss.set i (.d d)).set j (.own a xs)))) :
    RunS W (tAsg (tTup (tCons ta (tCons tb tNil))) (gTup K 2 (gCons (gName i) (gCons (gName j) gNil)))) n ss P := fun D H σ s g => by
  refine h.at s fun v H1 e1 s1 r1 => ?_
  refine k _ H1 σ s1.live s1.fits _ fun a H2 vs e2 ha h2 r2 => ?_
  refine ⟨Evl.sz_of (n := 2) (by decide), fun t ht => ?_⟩
  have e3 : Ex H1 (upd H2 t (.tup [v, .ref a])) := e2.trans (Ex.new ht)
  have na : a ≠ t := fun z => by rw [z, ht] at h2; cases h2
  refine ⟨t, [v, .ref a], rfl, .inl (.inl upd_same), rfl, v, [.ref a], rfl, .ref a, [], rfl, rfl, ?_⟩
  have s3 := (s1.set (i := i) r1).make (i := j) (p := a) (xs := xs) (vs := vs) e3 ha (by rw [upd_ne na]; exact h2) ((r2.ext (Ex.new ht)).weak fun z hz => hz.imp (fun w => w.imp id fun m => (owns_set_sub rfl).subset m) id)
  have ha0 : H a = none := Evl.fresh_back e1 ha
  exact g.nx n _ _ _ (p a) (.of_ex (e1.trans e3)) (Fr.own (Fr.plain rfl .self) ha0) s3
/-! l_bent -/
def pre_l_bent (n : Nat) (ds : List PyData) : Prop := ∃ (T : NT) (a b : Nat), ds = [tabN T] ∧ Rect T a b ∧ n < 2 ^ 40
def post_l_bent (n : Nat) (ds : List PyData) (n' : Nat) (d : PyData) : Prop := n ≤ n' ∧ n' ≤ n + 4 ∧ plainD d = true
def sp_l_bent (K : PySem.W.Frag) : Sp := SpSt pre_l_bent post_l_bent
def t_l_bent (K : PySem.W.Frag) : TS := tSeq (tAsg (tCall (sp_l_draw K) [] E0 (tCons (tVar 0) (tCons (tCB (rLen K) (tCons (tVar 1) (tNil))) (tNil)))) (gName 2)) (tSeq (tAsg (tTup (tCons (tOp (rIxT K) (tVar 1) (tVar 2)) (tCons (tCB (rListOf K) (tCons (tVar 1) (tNil))) (tNil)))) (gTup K 2 (gCons (gName 3) (gCons (gName 4) (gNil))))) (tSeq (tAsg (tCall (sp_l_draw K) [] E0 (tCons (tVar 0) (tCons (tCB (rLen K) (tCons (tVar 3) (tNil))) (tNil)))) (gName 5)) (tSeq (tAsg (tLc (iTup K (tTup (tCons (tC (.int 0)) (tCons (tC (.int 1)) (tCons (tC (.int 2)) (tCons (tC (.int 13)) (tCons (tUn (rU fun i => .int (-i)) (tC (.int 1))) (tCons (tC (.bl true)) (tCons (tC .non) (tCons (tC (.str "1")) (tCons (tTup (tCons (tC (.int 1)) (tNil))) (tNil)))))))))))) (gName 8) (tYes) (tOp (rCatA K) (tOp (rCatA K) (tSl (rSlA K) (tVar 3) (tNoPart) (tPart (tVar 5))) (tTup (tCons (tVar 8) (tNil)))) (tSl (rSlA K) (tVar 3) (tPart (tOp (rI0 fun i j => .int (i + j)) (tVar 5) (tC (.int 1)))) (tNoPart))) [8]) (gName 6)) (tSeq (tAsg (tCall (sp_l_of K) [] E0 (tCons (tVar 0) (tCons (tOp (rCat) (tVar 6) (tLst (tCons (tSl (rSlA K) (tVar 3) (tNoPart) (tPart (tUn (rU fun i => .int (-i)) (tC (.int 1))))) (tCons (tOp (rCatA K) (tVar 3) (tTup (tCons (tC (.int 0)) (tNil)))) (tCons (tOp (rCatA K) (tVar 3) (tTup (tCons (tC (.int 0)) (tCons (tC (.int 0)) (tCons (tC (.int 0)) (tCons (tC (.int 0)) (tNil))))))) (tCons (tCB (rListOf K) (tCons (tVar 3) (tNil))) (tCons (tC .non) (tCons (tC (.int 7)) (tCons (tTup (tNil)) (tNil)))))))))) (tNil)))) (gName 7)) (tSeq (tAsg (tVar 7) (gSub (tVar 4) (tVar 2) rSetL)) (tRet (tCall (sp_l_of K) [] E0 (tCons (tVar 0) (tCons (tLst (tCons (tCB (rTupleOf K) (tCons (tVar 4) (tNil))) (tCons (tCB (rTupleOf K) (tCons (tVar 4) (tNil))) (tCons (tCB (rTupleOf K) (tCons (tVar 4) (tNil))) (tCons (tVar 4) (tCons (tSl (rSlA K) (tVar 1) (tNoPart) (tPart (tC (.int 1)))) (tCons (tOp (rRepT K) (tVar 1) (tC (.int 3))) (tCons (tTup (tNil)) (tCons (tC .non) (tCons (tOp (rCatA K) (tVar 1) (tSl (rSlA K) (tVar 1) (tNoPart) (tPart (tC (.int 1))))) (tNil))))))))))) (tNil))))))))))
theorem len_l_bent {K : PySem.W.Frag} {vs : List V} {H : Hp} {Q : VK} {E : XK} (h : sp_l_bent K vs H Q E) : vs.length = 2 := spSt_len h fun n ds ⟨_, _, _, e, _⟩ => by rw [e]; rfl
theorem run_l_bent (K : PySem.W.Frag) (S : StA) (A0 : Addr → Prop) (n : Nat) (ds : List PyData) (h : pre_l_bent n ds) : RunS (stW S A0) (t_l_bent K) n (.st S.st :: (ds.map Slot.d ++ List.replicate (9 - (ds.length + 1)) .non)) fun o => ∃ n' d, o = .rt n' d ∧ post_l_bent n ds n' d := by
  obtain ⟨TT, a, b, rfl, hR, hn⟩ := h
  have hl := hR.len
  have hr1 := hR.r1
  have hr5 := hR.r5
  have hc1 := hR.c1
  have hc5 := hR.c5
  refine saS (es_draw (lim := a) rfl (ep_hgt hR (ep_var rfl)) (by omega) (by omega) (by omega)) ?_
  rintro n1 _ ⟨rfl, k, rfl, hk⟩
  have hrk : (TT.getD k []).length = b := row_len hR hk
  refine rs_seq (rs_asgTO (d := .tuple ((TT.getD k []).map natD)) (xs := TT.map rowN) (ep_op (ep_var rfl) (ep_var rfl) (od_ixT (at_tabN (by omega)))) (ef_listT (ea_cons (ep_var (d := .tuple (TT.map rowN)) rfl) ea_nil)) fun p => ?_)
  generalize TT.getD k [] = r at *
  refine saS (es_draw (lim := b) rfl (ep_is (ep_cb (ea_cons (ep_var (d := .tuple (r.map natD)) rfl) ea_nil) ca_lenT) (by rw [List.length_map, hrk])) (by omega) (by omega) (by omega)) ?_
  rintro n1 _ ⟨rfl, sp, rfl, hsp⟩
  have prow : ∀ d ∈ r.map natD, plainD d = true := plain_nats
  have pT : ∀ d ∈ TT.map rowN, plainD d = true := fun d hd => by
    obtain ⟨x, _, rfl⟩ := List.mem_map.mp hd
    exact plain_row
  have pcut : ∀ {xs : List PyData} {lo hi : Option Int}, (∀ d ∈ xs, plainD d = true) → ∀ d ∈ cutD xs lo hi, plainD d = true := fun {xs lo hi} h d hd => by
    unfold cutD at hd
    exact h d (List.mem_of_mem_drop (List.mem_of_mem_take hd))
  have papp : ∀ {xs ys : List PyData}, (∀ d ∈ xs, plainD d = true) → (∀ d ∈ ys, plainD d = true) → ∀ d ∈ xs ++ ys, plainD d = true := fun {xs ys} h1 h2 d hd => by
    rcases List.mem_append.mp hd with w | w
    · exact h1 d w
    · exact h2 d w
  have pone : ∀ {x : PyData}, plainD x = true → ∀ d ∈ [x], plainD d = true := fun {x} h d hd => by
    rw [List.mem_singleton.mp hd]
    exact h
  have ptup : ∀ {xs : List PyData}, (∀ d ∈ xs, plainD d = true) → plainD (.tuple xs) = true := fun {xs} h => plainL_all h
  have plst : ∀ {xs : List PyData}, (∀ d ∈ xs, plainD d = true) → plainD (.list xs) = true := fun {xs} h => plainL_all h
  have cutl : ∀ {xs : List PyData} {lo hi : Option Int}, (cutD xs lo hi).length ≤ xs.length := fun {xs lo hi} => by
    unfold cutD
    rw [List.length_take, List.length_drop]
    omega
  have hrl : (r.map natD).length = b := by rw [List.length_map, hrk]
  -- the items
  have items : EvF (tLc (iTup K (tTup (tCons (tC (.int 0)) (tCons (tC (.int 1)) (tCons (tC (.int 2)) (tCons (tC (.int 13)) (tCons (tUn (rU fun i => .int (-i)) (tC (.int 1))) (tCons (tC (.bl true)) (tCons (tC .non) (tCons (tC (.str "1")) (tCons (tTup (tCons (tC (.int 1)) (tNil))) (tNil)))))))))))) (gName 8) (tYes) (tOp (rCatA K) (tOp (rCatA K) (tSl (rSlA K) (tVar 3) (tNoPart) (tPart (tVar 5))) (tTup (tCons (tVar 8) (tNil)))) (tSl (rSlA K) (tVar 3) (tPart (tOp (rI0 fun i j => .int (i + j)) (tVar 5) (tC (.int 1)))) (tNoPart))) [8])
      [.st S.st, .d (tabN TT), .d (natD k), .d (.tuple (r.map natD)), .own p (TT.map rowN), .d (natD sp), .non, .non, .non]
      (([.int 0, .int 1, .int 2, .int 13, .int (-1), .bool true, .none, .str "1", .tuple [.int 1]] : List PyData).map fun x => .tuple (cutD (r.map natD) none (some (sp : Nat)) ++ [x] ++ cutD (r.map natD) (some ((sp : Nat) + 1)) none)) := by
    refine ef_map (xs := ([.int 0, .int 1, .int 2, .int 13, .int (-1), .bool true, .none, .str "1", .tuple [.int 1]] : List PyData)) (enc := id) (f := fun x ss => ss.set 8 (.d x)) (fun x => .tuple (cutD (r.map natD) none (some (sp : Nat)) ++ [x] ++ cutD (r.map natD) (some ((sp : Nat) + 1)) none)) (by
      rw [List.map_id]
      exact wk_tup (ep_tup (ea_cons ep_int (ea_cons ep_int (ea_cons ep_int (ea_cons ep_int (ea_cons (ep_un ep_int ud_i) (ea_cons ep_bl (ea_cons ep_non (ea_cons ep_str (ea_cons (ep_tup (ea_cons ep_int ea_nil) (by simp)) ea_nil))))))))) (by simp))) (by simp) (fun _ _ => tc_name) fun x _ => ?_
    have c1 := cutl (xs := r.map natD) (lo := none) (hi := some (sp : Nat))
    have c2 := cutl (xs := r.map natD) (lo := some ((sp : Nat) + 1)) (hi := none)
    exact ep_op (ep_op (ep_sl (ep_var rfl) eo_none (eo_some (ep_var rfl)) sd_tup) (ep_tup (ea_cons (ep_var rfl) ea_nil) (by simp)) (od_catA (by simp; omega))) (ep_sl (ep_var rfl) (eo_some (ep_op (ep_var rfl) ep_int od_i)) eo_none sd_tup) (od_catA (by simp; omega))
  refine sa items.p ?_
  have pitems : ∀ d ∈ (([.int 0, .int 1, .int 2, .int 13, .int (-1), .bool true, .none, .str "1", .tuple [.int 1]] : List PyData).map fun x => PyData.tuple (cutD (r.map natD) none (some (sp : Nat)) ++ [x] ++ cutD (r.map natD) (some ((sp : Nat) + 1)) none)), plainD d = true := fun d hd => by
    obtain ⟨x, hx, rfl⟩ := List.mem_map.mp hd
    refine ptup (papp (papp (pcut prow) (pone ?_)) (pcut prow))
    simp only [List.mem_cons, List.not_mem_nil, or_false] at hx
    rcases hx with rfl | rfl | rfl | rfl | rfl | rfl | rfl | rfl | rfl <;> rfl
  have litems : (([.int 0, .int 1, .int 2, .int 13, .int (-1), .bool true, .none, .str "1", .tuple [.int 1]] : List PyData).map fun x => PyData.tuple (cutD (r.map natD) none (some (sp : Nat)) ++ [x] ++ cutD (r.map natD) (some ((sp : Nat) + 1)) none)).length = 9 := by simp
  generalize (([.int 0, .int 1, .int 2, .int 13, .int (-1), .bool true, .none, .str "1", .tuple [.int 1]] : List PyData).map fun x => PyData.tuple (cutD (r.map natD) none (some (sp : Nat)) ++ [x] ++ cutD (r.map natD) (some ((sp : Nat) + 1)) none)) = its at *
  have c3 := cutl (xs := r.map natD) (lo := none) (hi := some (-1))
  refine saS (es_of (xs := its ++ [.tuple (cutD (r.map natD) none (some (-1))), .tuple (r.map natD ++ [.int 0]), .tuple (r.map natD ++ [.int 0, .int 0, .int 0, .int 0]), .list (r.map natD), .none, .int 7, .tuple []]) rfl (ep_op (ep_var rfl) (EvF.p (ef_lst (ea_cons (ep_sl (ep_var rfl) eo_none (eo_some (ep_un ep_int ud_i)) sd_tup)
    (ea_cons (ep_op (ep_var rfl) (ep_tup (ea_cons ep_int ea_nil) (by simp)) (od_catA (by simp; omega))) (ea_cons (ep_op (ep_var rfl) (ep_tup (ea_cons ep_int (ea_cons ep_int (ea_cons ep_int (ea_cons ep_int ea_nil)))) (by simp)) (od_catA (by simp; omega))) (ea_cons (EvF.p (ef_listT (ea_cons (ep_var rfl) ea_nil))) (ea_cons ep_non (ea_cons ep_int (ea_cons (ep_tup ea_nil (by simp)) ea_nil))))))) (by simp))) (od_cat (by rw [litems]; simp))) (by simp) (by rw [List.length_append, litems]; simp) (by omega)) ?_
  rintro n1 pick ⟨rfl, hpick⟩
  have ppick : plainD pick = true := by
    refine papp pitems (fun d hd => ?_) pick hpick
    simp only [List.mem_cons, List.not_mem_nil, or_false] at hd
    rcases hd with rfl | rfl | rfl | rfl | rfl | rfl | rfl
    · exact ptup (pcut prow)
    · exact ptup (papp prow (pone rfl))
    · exact ptup (papp prow fun d hd => by
        simp only [List.mem_cons, List.not_mem_nil, or_false] at hd
        rcases hd with rfl | rfl | rfl | rfl <;> rfl)
    · exact plst prow
    · rfl
    · rfl
    · rfl
  refine rs_seq (rs_seti (i := 4) (a := p) rfl (ep_var rfl) (ep_var rfl) (by rw [List.length_map]; omega) ?_)
  have prows : ∀ d ∈ (TT.map rowN).set k pick, plainD d = true := fun d hd => by
    rcases List.mem_or_eq_of_mem_set hd with w | w
    · exact pT d w
    · rw [w]
      exact ppick
  generalize (TT.map rowN).set k pick = rows at *
  have hTl : (TT.map rowN).length = a := by rw [List.length_map, hl]
  have hTne : TT.map rowN ≠ [] := fun z => by rw [z] at hTl; simp at hTl; omega
  have c4 := cutl (xs := TT.map rowN) (lo := none) (hi := some 1)
  refine rs_freeze (i := 4) rfl (rs_retS (es_of (xs := [.tuple rows, .tuple rows, .tuple rows, .list rows, .tuple (cutD (TT.map rowN) none (some 1)), .tuple (List.replicate (3 : Int).toNat (TT.map rowN)).flatten, .tuple [], .none, .tuple (TT.map rowN ++ cutD (TT.map rowN) none (some 1))]) rfl
    (EvF.p (ef_lst (ea_cons (ep_cb (ea_cons (ep_var rfl) ea_nil) ca_tuple) (ea_cons (ep_cb (ea_cons (ep_var rfl) ea_nil) ca_tuple) (ea_cons (ep_cb (ea_cons (ep_var rfl) ea_nil) ca_tuple) (ea_cons (ep_var rfl) (ea_cons (ep_sl (ep_var (d := .tuple (TT.map rowN)) rfl) eo_none (eo_some ep_int) sd_tup) (ea_cons (ep_op (ep_var (d := .tuple (TT.map rowN)) rfl) ep_int (od_repT hTne (by decide) (by decide) (by omega))) (ea_cons (ep_tup ea_nil (by simp)) (ea_cons ep_non
      (ea_cons (ep_op (ep_var (d := .tuple (TT.map rowN)) rfl) (ep_sl (ep_var (d := .tuple (TT.map rowN)) rfl) eo_none (eo_some ep_int) sd_tup) (od_catA (by omega))) ea_nil))))))))) (by simp))) (by simp) (by simp) (by omega)) ?_)
  rintro n1 d ⟨rfl, hd⟩
  refine ⟨_, _, rfl, by omega, by omega, ?_⟩
  simp only [List.mem_cons, List.not_mem_nil, or_false] at hd
  rcases hd with rfl | rfl | rfl | rfl | rfl | rfl | rfl | rfl | rfl
  · exact ptup prows
  · exact ptup prows
  · exact ptup prows
  · exact plst prows
  · exact ptup (pcut pT)
  · refine ptup fun d hd => ?_
    obtain ⟨l, hl1, hl2⟩ := List.mem_flatten.mp hd
    rw [(List.mem_replicate.mp hl1).2] at hl2
    exact pT d hl2
  · rfl
  · rfl
  · exact ptup (papp pT (pcut pT))
theorem pure_l_bent {K : PySem.W.Frag} {vs : List V} {H : Hp} {Q : VK} {E : XK} (h : sp_l_bent K vs H Q E) : t_l_bent K { nx := fun _ H' => Q .non H', rt := Q } (L2.start ["_law_state", "_law_table_here", "_law_k", "_law_row", "_law_rows", "_law_spot", "_law_items", "_law_pick", "_law_one"] vs) H := pureS_of h fun S A0 n ds hp => run_l_bent K S A0 n ds hp
section
variable {P : Program} {w : World} {K : PySem.W.Frag} {mg : Str → Option Value} {base : Heap}
abbrev N_l_bent : List Str := ["_law_state", "_law_table_here", "_law_k", "_law_row", "_law_rows", "_law_spot", "_law_items", "_law_pick", "_law_one"]
theorem sc_l_bent : FnScope N_l_bent ["_law_state", "_law_table_here"] (defScope s_l_bent) := ⟨rfl, rfl, rfl, by decide +kernel, rfl, by decide +kernel, by decide +kernel⟩
theorem ok_l_bent (T : Tx K mg) : ∃ fd, FnOk P w K mg base CX0 4 (He.ga K "_law_bent") fd ["_law_state", "_law_table_here"] (sp_l_bent K) ∧ Binds K fd ["_law_state", "_law_table_here"] [] := by
  have nd := sc_l_bent.nd
  obtain ⟨_, G_l_of, b_l_of⟩ := ok_l_of (P := P) (w := w) (base := base) T
  obtain ⟨_, G_l_draw, b_l_draw⟩ := ok_l_draw (P := P) (w := w) (base := base) T
  obtain ⟨fd, F⟩ := T.d_l_bent
  refine ⟨fd, FunD.ok F sc_l_bent (fun vs H Q E h => len_l_bent h) (fun cdv A outer s H vs Q E hr h => ⟨t_l_bent K, PSs.nox ?_, pure_l_bent h⟩), F.bindsN fun _ _ _ _ _ _ us hl => match us, hl with | [_, _], _ => rfl⟩
  exact pss_cons (ps_set (i := 2) nd rfl (Or.inl rfl) (pe_call G_l_draw (hr.mono (by omega)) rfl T.g_l_draw T.k_l_draw b_l_draw .nil pass0 (pa_cons (pv 0) (pa_cons (pe_callB call_len_seq (by rfl) T.f_len (by decide +kernel) (pa_cons (pv 1) (pa_nil))) (pa_nil))))) (pss_cons (ps_asg (pe_tup (pa_cons (pe_ix ix_tup (pv 1) (pv 2) (fun _ _ => rfl)) (pa_cons (pe_callTy call_list_of (by rfl) T.f_list (by decide +kernel) (pa_cons (pv 1) (pa_nil))) (pa_nil)))) (pg_tup rfl (pgs_cons (pg_name (i := 3) nd rfl (Or.inr rfl)) (pgs_cons (pg_name (i := 4) nd rfl (Or.inl rfl)) (pgs_nil))))) (pss_cons (ps_set (i := 5) nd rfl (Or.inr rfl) (pe_call G_l_draw (hr.mono (by omega)) rfl T.g_l_draw T.k_l_draw b_l_draw .nil pass0 (pa_cons (pv 0) (pa_cons (pe_callB call_len_seq (by rfl) T.f_len (by decide +kernel) (pa_cons (pv 3) (pa_nil))) (pa_nil))))) (pss_cons (ps_setLc (i := 6) (own := [(("_law_one" : Str), 8)]) rfl nd rfl rfl (sw_true rfl rfl rfl (by decide +kernel)) (pi_tup (pe_tup (pa_cons (pe_int) (pa_cons (pe_int) (pa_cons (pe_int) (pa_cons (pe_int) (pa_cons (pe_un un_neg (pe_int)) (pa_cons (pe_bl) (pa_cons (pe_non) (pa_cons (pe_str) (pa_cons (pe_tup (pa_cons (pe_int) (pa_nil))) (pa_nil)))))))))))) (blkOk_by (N := N_l_bent) (sc := defScope s_l_bent) (by decide +kernel)) (fun _ _ _ _ _ => pg_name (i := 8) nd rfl (Or.inl rfl)) (fun _ _ _ _ _ => pts_nil) (fun _ _ _ _ _ => pe_op op_catA (pe_op op_catA (pe_slice sl_tupA (pv 3) (po_none) (po_some (pv 5))) (pe_tup (pa_cons (pv 8) (pa_nil)))) (pe_slice sl_tupA (pv 3) (po_some (pe_op op_add (pv 5) (pe_int))) (po_none)))) (pss_cons (ps_set (i := 7) nd rfl (Or.inl rfl) (pe_call G_l_of (hr.mono (by omega)) rfl T.g_l_of T.k_l_of b_l_of .nil pass0 (pa_cons (pv 0) (pa_cons (pe_op op_cat (pv 6) (pe_lst (pa_cons (pe_slice sl_tupA (pv 3) (po_none) (po_some (pe_un un_neg (pe_int)))) (pa_cons (pe_op op_catA (pv 3) (pe_tup (pa_cons (pe_int) (pa_nil)))) (pa_cons (pe_op op_catA (pv 3) (pe_tup (pa_cons (pe_int) (pa_cons (pe_int) (pa_cons (pe_int) (pa_cons (pe_int) (pa_nil))))))) (pa_cons (pe_callTy call_list_of (by rfl) T.f_list (by decide +kernel) (pa_cons (pv 3) (pa_nil))) (pa_cons (pe_non) (pa_cons (pe_int) (pa_cons (pe_tup (pa_nil)) (pa_nil)))))))))) (pa_nil))))) (pss_cons (ps_asg (pv 7) (pg_sub (pv 4) (pv 2) set_list)) (pss_one (ps_ret (pe_call G_l_of (hr.mono (by omega)) rfl T.g_l_of T.k_l_of b_l_of .nil pass0 (pa_cons (pv 0) (pa_cons (pe_lst (pa_cons (pe_callTy call_tuple_of (by rfl) T.f_tuple (by decide +kernel) (pa_cons (pv 4) (pa_nil))) (pa_cons (pe_callTy call_tuple_of (by rfl) T.f_tuple (by decide +kernel) (pa_cons (pv 4) (pa_nil))) (pa_cons (pe_callTy call_tuple_of (by rfl) T.f_tuple (by decide +kernel) (pa_cons (pv 4) (pa_nil))) (pa_cons (pv 4) (pa_cons (pe_slice sl_tupA (pv 1) (po_none) (po_some (pe_int))) (pa_cons (pe_op op_repT (pv 1) (pe_int)) (pa_cons (pe_tup (pa_nil)) (pa_cons (pe_non) (pa_cons (pe_op op_catA (pv 1) (pe_slice sl_tupA (pv 1) (po_none) (po_some (pe_int)))) (pa_nil))))))))))) (pa_nil)))))))))))
end
end Uh

set_option Elab.async false
set_option linter.all false
set_option maxRecDepth 100000
set_option maxHeartbeats 400000
namespace Uh
open PySem PySem.Spec PyProof.Rows L2
open Evl (Ex)
local macro_rules | `(tactic| walk_at "ev") => `(tactic| repeat (first
  | with_reducible exact ep_var rfl | with_reducible exact ep_int | with_reducible exact ep_bl | with_reducible exact ep_non | with_reducible exact ep_str
  | with_reducible exact ea_nil | with_reducible apply ea_cons | with_reducible apply ep_tupG | with_reducible apply ef_lstG | with_reducible exact et_yes
  | with_reducible apply ca_isiG | with_reducible exact kit_tuple _ | with_reducible exact kit_int _ | with_reducible exact kit_bool _ | with_reducible exact kit_str _
  | with_reducible apply et_test | with_reducible apply et_b | with_reducible apply et_not | with_reducible apply et_orG | with_reducible apply et_andG
  | with_reducible apply ep_orG | with_reducible apply ep_andG | with_reducible apply ep_notV | with_reducible apply ep_chainG
  | with_reducible apply ep_inG | with_reducible apply ep_op | with_reducible apply ep_un | with_reducible apply ep_cb
  | with_reducible exact od_i | with_reducible exact od_b | with_reducible exact od_eqI | with_reducible exact od_neI | with_reducible exact od_eqS | with_reducible exact od_eqB | with_reducible exact od_isN | with_reducible exact od_notN | with_reducible exact ud_i
  | with_reducible exact od_ixT at3_0 | with_reducible exact od_ixT at3_1 | with_reducible exact od_ixT at3_2 | with_reducible exact od_ixT at2_0 | with_reducible exact od_ixT at2_1 | with_reducible exact od_ixT at1_0
  | with_reducible apply od_catA | (with_reducible show _ + _ ≤ 100000; first | omega | (simp; done) | (simp; omega))
  | with_reducible exact ca_lenT | with_reducible exact ca_lenL
  | exact (show allS _ = true from rfl) | exact (show Nat.ble _ 100000 = true from rfl)))
/-! ### small data -/
structure Sm (dp w : Nat) (d : PyData) : Prop where
  can : PyData.canLay0 d = true
  dep : PyData.depth d ≤ dp
  wei : PyData.weight d ≤ w
  int : PyData.intsShort 13 d = true
  shw : PyData.showable d = true
theorem Sm.mono {dp w dp' w' : Nat} {d : PyData} (h : Sm dp w d) (h1 : dp ≤ dp') (h2 : w ≤ w') : Sm dp' w' d := ⟨h.can, Nat.le_trans h.dep h1, Nat.le_trans h.wei h2, h.int, h.shw⟩
theorem sm_nat {k : Nat} (h : k < 2 ^ 30) : Sm 1 64 (natD k) := by
  have hl : k.log2 < 30 ∨ k = 0 := by
    by_cases c : k = 0
    · exact .inr c
    · exact .inl ((Nat.log2_lt c).mpr h)
  refine ⟨rfl, by simp [PyData.depth], ?_, ?_, ?_⟩
  · show (if ((k : Int) == 0) = true then 0 else (k : Int).natAbs.log2 + 1) ≤ 64
    split
    · exact Nat.zero_le _
    · rw [Int.natAbs_natCast]
      rcases hl with e | e
      · omega
      · subst e
        decide
  · show decide ((PyData.shown (.int (k : Int))).length ≤ 13) = true
    have e := int_text_length_le10 (a := (k : Int)) (k := 12) (by decide) (by rw [Int.natAbs_natCast]; omega)
    refine decide_eq_true ?_
    show (Str.ofString (toString (k : Int))).length ≤ 13
    rw [PySem.ofString_length]
    exact e
  · show decide ((k : Int).natAbs.log2 < 1920) = true
    rw [Int.natAbs_natCast]
    refine decide_eq_true ?_
    rcases hl with e | e
    · omega
    · subst e
      decide
theorem sm_all {dp w : Nat} : ∀ {ds : List PyData}, (∀ d ∈ ds, Sm dp w d) → PyData.canLayAll0 ds = true ∧ PyData.depthAll ds ≤ dp ∧ PyData.weightAll ds ≤ ds.length * (w + 1) ∧ PyData.intsShortAll 13 ds = true ∧ PyData.showableAll ds = true
  | [], _ => ⟨rfl, Nat.zero_le _, Nat.zero_le _, rfl, rfl⟩
  | d :: ds, h => by
    obtain ⟨h1, h2, h3, h4, h5⟩ := sm_all (ds := ds) fun x hx => h x (List.mem_cons_of_mem _ hx)
    have hd := h d (by simp)
    refine ⟨?_, ?_, ?_, ?_, ?_⟩
    · show (PyData.canLay0 d && PyData.canLayAll0 ds) = true
      rw [hd.can, h1]
      rfl
    · show max (PyData.depth d) (PyData.depthAll ds) ≤ dp
      exact Nat.max_le.mpr ⟨hd.dep, h2⟩
    · show PyData.weight d + 1 + PyData.weightAll ds ≤ (ds.length + 1) * (w + 1)
      have := hd.wei
      rw [Nat.succ_mul]
      omega
    · show (PyData.intsShort 13 d && PyData.intsShortAll 13 ds) = true
      rw [hd.int, h4]
      rfl
    · show (PyData.showable d && PyData.showableAll ds) = true
      rw [hd.shw, h5]
      rfl
theorem sm_list {dp w L : Nat} {ds : List PyData} (h : ∀ d ∈ ds, Sm dp w d) (hl : ds.length ≤ L) : Sm (dp + 1) (L * (w + 1)) (.list ds) := by
  obtain ⟨h1, h2, h3, h4, h5⟩ := sm_all h
  exact ⟨h1, Nat.succ_le_succ h2, Nat.le_trans h3 (Nat.mul_le_mul_right _ hl), h4, h5⟩
theorem sm_tuple {dp w L : Nat} {ds : List PyData} (h : ∀ d ∈ ds, Sm dp w d) (hl : ds.length ≤ L) : Sm (dp + 1) (L * (w + 1)) (.tuple ds) := by
  obtain ⟨h1, h2, h3, h4, h5⟩ := sm_all h
  exact ⟨h1, Nat.succ_le_succ h2, Nat.le_trans h3 (Nat.mul_le_mul_right _ hl), h4, h5⟩
theorem sm_tab {sg : Bool} {T : NT} {a b : Nat} (g : Good sg T a b) : Sm 3 1630 (tabN T) := by
  have hl := g.rect.len
  have hr5 := g.rect.r5
  have hc5 := g.rect.c5
  refine (sm_tuple (dp := 2) (w := 325) (L := 5) (fun d hd => ?_) (by rw [List.length_map]; omega)).mono (Nat.le_refl _) (by decide)
  obtain ⟨r, hr, rfl⟩ := List.mem_map.mp hd
  refine sm_tuple (dp := 1) (w := 64) (L := 5) (fun x hx => ?_) (by rw [List.length_map, g.rect.row r hr]; omega)
  obtain ⟨k, hk, rfl⟩ := List.mem_map.mp hx
  have h1 : k ≤ 12 := by
    have h2 := g.sum
    have h3 : r.sum ≤ (T.map List.sum).sum := le_sum _ (List.mem_map.mpr ⟨r, hr, rfl⟩)
    have h4 : k ≤ r.sum := le_sum _ hk
    omega
  exact sm_nat (by omega)
/-! ### repr -/
def rRpr (K : PySem.W.Frag) : List V → Hp → VK → Prop := fun xs H Q => ∃ v, xs = [v] ∧ ((∃ b : Bool, v = .bl b ∧ Q (.str (if b then "True" else "False")) H) ∨ ∃ (a : Addr) (d : PyData), v = .ref a ∧ Dp K H (.ref a) d ∧ Sm 60 (2 ^ 20) d ∧ Q (.str d.shown) H)
theorem hu65 {k : Nat} {A : Around} (hr : Room k A) : A.units + 65 < cLine := by
  have := hr.un
  omega
theorem cr_rpr {X : Cx} (hG : X.A.guards = some []) (hu : X.A.units + 65 < cLine) : CallR X (.builtin "repr") (rRpr X.K) := by
  intro pins s σ H xs us Q I r h
  obtain ⟨v, rfl, h⟩ := h
  rcases h with ⟨b, rfl, q⟩ | ⟨a, d, rfl, hd, sm, q⟩
  · cases r with
    | cons rx rr =>
      cases rr
      cases rx
      exact PySem.P.repr_of_bool ⟨.str _, H, I.tok _, ⟨_, rfl⟩, q⟩
  · cases r with
    | cons rx rr =>
      cases rr
      cases rx
      obtain ⟨as, rd⟩ := Dp.reads I d (.ref a) _ hd rfl
      have hdep := sm.dep
      have lay : PyData.layable0 d = true := by
        unfold PyData.layable0
        rw [sm.can, decide_eq_true (show PyData.depth d ≤ 64 by omega), decide_eq_true sm.wei]
        rfl
      have hlen := shown_le13 lay sm.int
      exact repr_of_reads' rd sm.shw (PyData.noDict_hsm (PyData.hasDict_of_layable lay)) hG (by omega) (fun _ _ e => e) (fun h' u tk hk => ⟨.str _, H, I.kept hk, ⟨_, rfl⟩, q⟩) (by rw [sizeLine_eq]; omega)
/-- what may be shown -/
def Showy (x : PyData) : Prop := (∃ b, x = .bool b) ∨ ((∃ l, x = .list l ∨ x = .tuple l) ∧ plainD x = true ∧ Sm 60 (2 ^ 20) x)
def shownD : PyData → Str
  | .bool b => if b then "True" else "False"
  | d => d.shown
theorem ca_rpr {K : PySem.W.Frag} {x : PyData} (h : Showy x) : CaD (rRpr K) [x] (.str (shownD x)) := fun av H vs l h0 Q q => by
  obtain ⟨v, rfl, r⟩ := da_one h0
  rcases h with ⟨b, rfl⟩ | ⟨⟨ls, e⟩, hp, sm⟩
  · have ev : v = .bl b := by simpa [Da] using r
    subst ev
    exact ⟨_, rfl, .inl ⟨b, rfl, q _ H (Ex.refl H) (by simp [Da, shownD])⟩⟩
  · have es : shownD x = x.shown := by rcases e with rfl | rfl <;> rfl
    rw [es] at q
    have dp := r.dp (K := K) _ _ hp
    have hv : ∃ a, v = .ref a := by
      rcases e with rfl | rfl
      · simp only [Da] at r
        obtain ⟨a, _, e, _⟩ := r
        exact ⟨a, e⟩
      · simp only [Da] at r
        obtain ⟨a, _, e, _⟩ := r
        exact ⟨a, e⟩
    obtain ⟨a, rfl⟩ := hv
    exact ⟨_, rfl, .inr ⟨a, x, rfl, dp, sm, q _ H (Ex.refl H) (by simp [Da])⟩⟩
/-! l_like -/
def R_l_like (ds : List PyData) (r : PyData) : Prop := ∃ x : PyData, ds = [x, x] ∧ Showy x ∧ r = .bool true
def sp_l_like (K : PySem.W.Frag) : Sp := SpP R_l_like
def t_l_like (K : PySem.W.Frag) : TS := tRet (tOp (rEq) (tCB (rRpr K) (tCons (tVar 0) (tNil))) (tCB (rRpr K) (tCons (tVar 1) (tNil))))
theorem len_l_like {K : PySem.W.Frag} {vs : List V} {H : Hp} {Q : VK} {E : XK} (h : sp_l_like K vs H Q E) : vs.length = 2 := spP_len h fun ds r ⟨_, e, _⟩ => by rw [e]; rfl
theorem run_l_like (K : PySem.W.Frag) (W : Wd) (n : Nat) (ds : List PyData) (r : PyData) (h : R_l_like ds r) : RunS W (t_l_like K) n (ds.map Slot.d ++ List.replicate (2 - ds.length) .non) (fun o => o = .rt n r) := by
  obtain ⟨x, rfl, hx, rfl⟩ := h
  exact rs_ret (ep_is (ep_op (ep_cb (ea_cons (ep_var rfl) ea_nil) (ca_rpr hx)) (ep_cb (ea_cons (ep_var rfl) ea_nil) (ca_rpr hx)) od_eqS) (by rw [decide_eq_true rfl])) rfl
theorem pure_l_like {K : PySem.W.Frag} {vs : List V} {H : Hp} {Q : VK} {E : XK} (h : sp_l_like K vs H Q E) : t_l_like K { nx := fun _ H' => Q .non H', rt := Q } (L2.start ["_law_got", "_law_due"] vs) H := pure_of h fun W n ds r hr => run_l_like K W n ds r hr
section
variable {P : Program} {w : World} {K : PySem.W.Frag} {mg : Str → Option Value} {base : Heap}
abbrev N_l_like : List Str := ["_law_got", "_law_due"]
theorem sc_l_like : FnScope N_l_like ["_law_got", "_law_due"] (defScope s_l_like) := ⟨rfl, rfl, rfl, by decide +kernel, rfl, by decide +kernel, by decide +kernel⟩
theorem ok_l_like (T : Tx K mg) : ∃ fd, FnG P w K mg base 1 (He.ga K "_law_like") fd ["_law_got", "_law_due"] (sp_l_like K) ∧ Binds K fd ["_law_got", "_law_due"] [] := by
  have nd := sc_l_like.nd
  obtain ⟨fd, F⟩ := T.d_l_like
  refine ⟨fd, FunD.okG F sc_l_like (fun vs H Q E h => len_l_like h) (fun cdv A outer s H vs Q E hG hr h => ⟨t_l_like K, PSs.nox ?_, pure_l_like h⟩), F.bindsN fun _ _ _ _ _ _ us hl => match us, hl with | [_, _], _ => rfl⟩
  exact pss_one (ps_ret (pe_cmpR op_eq (pe_callB (cr_rpr hG (hu65 hr)) (by rfl) T.f_repr (by decide +kernel) (pa_cons (pv 0) (pa_nil))) (pe_callB (cr_rpr hG (hu65 hr)) (by rfl) T.f_repr (by decide +kernel) (pa_cons (pv 1) (pa_nil))) (nomark _)))
end
end Uh

set_option Elab.async false
set_option linter.all false
set_option maxRecDepth 100000
set_option maxHeartbeats 400000
namespace Uh
open PySem PySem.Spec PyProof.Rows L2
open Evl (Ex)
local macro_rules | `(tactic| walk_at "ev") => `(tactic| repeat (first
  | with_reducible exact ep_var rfl | with_reducible exact ep_int | with_reducible exact ep_bl | with_reducible exact ep_non | with_reducible exact ep_str
  | with_reducible exact ea_nil | with_reducible apply ea_cons | with_reducible apply ep_tupG | with_reducible apply ef_lstG | with_reducible exact et_yes
  | with_reducible apply ca_isiG | with_reducible exact kit_tuple _ | with_reducible exact kit_int _ | with_reducible exact kit_bool _ | with_reducible exact kit_str _
  | with_reducible apply et_test | with_reducible apply et_b | with_reducible apply et_not | with_reducible apply et_orG | with_reducible apply et_andG
  | with_reducible apply ep_orG | with_reducible apply ep_andG | with_reducible apply ep_notV | with_reducible apply ep_chainG
  | with_reducible apply ep_inG | with_reducible apply ep_op | with_reducible apply ep_un | with_reducible apply ep_cb
  | with_reducible exact od_i | with_reducible exact od_b | with_reducible exact od_eqI | with_reducible exact od_neI | with_reducible exact od_eqS | with_reducible exact od_eqB | with_reducible exact od_isN | with_reducible exact od_notN | with_reducible exact ud_i
  | with_reducible exact od_ixT at3_0 | with_reducible exact od_ixT at3_1 | with_reducible exact od_ixT at3_2 | with_reducible exact od_ixT at2_0 | with_reducible exact od_ixT at2_1 | with_reducible exact od_ixT at1_0
  | with_reducible apply od_catA | (with_reducible show _ + _ ≤ 100000; first | omega | (simp; done) | (simp; omega))
  | with_reducible exact ca_lenT | with_reducible exact ca_lenL
  | exact (show allS _ = true from rfl) | exact (show Nat.ble _ 100000 = true from rfl)))
theorem sums_cast {T : NT} : ((T.map rowN).map sumR).sum = (((T.map List.sum).sum : Nat) : Int) := by
  induction T with
  | nil => rfl
  | cons r T ih =>
    rw [List.map_cons, List.map_cons, List.sum_cons, ih, sumR_row, List.map_cons, List.sum_cons]
    omega
theorem needD_good {sg : Bool} {T : NT} {a b : Nat} (g : Good sg T a b) : needD sg (tabN T) = .ok := by
  have hl := g.rect.len
  have a2 := g.a2
  have a5 := g.rect.r5
  have b2 := g.b2
  have b5 := g.rect.c5
  have hs : sideD (.tuple (T.map rowN)) = true := by
    show (decide (2 ≤ (T.map rowN).length) && decide ((T.map rowN).length ≤ 5)) = true
    rw [List.length_map, hl]
    simp
    omega
  have hw : widD (T.map rowN) = b := by
    cases T with
    | nil => simp at hl; omega
    | cons r T' =>
      show (r.map natD).length = b
      rw [List.length_map]
      exact g.rect.row r (by simp)
  have hf : firstBad (widD (T.map rowN)) sg 0 (T.map rowN) = none := firstBad_all fun y hy => by
    obtain ⟨r, hr, rfl⟩ := List.mem_map.mp hy
    have hrl := g.rect.row r hr
    show (decide (2 ≤ (r.map natD).length) && decide ((r.map natD).length ≤ 5) && decide ((r.map natD).length = widD (T.map rowN)) && (r.map natD).all (okItem sg)) = true
    rw [List.length_map, hrl, hw, decide_eq_true b2, decide_eq_true b5, decide_eq_true rfl]
    show (r.map natD).all (okItem sg) = true
    rw [List.all_eq_true]
    intro x hx
    obtain ⟨k, hk, rfl⟩ := List.mem_map.mp hx
    show (decide (0 ≤ (k : Int)) && !(sg && decide (1 < (k : Int)))) = true
    rw [decide_eq_true (by omega)]
    cases sg with
    | false => rfl
    | true =>
      have := g.one rfl r hr k hk
      rw [decide_eq_false (by omega)]
      rfl
  show (if sideD (.tuple (T.map rowN)) then (match firstBad (widD (T.map rowN)) sg 0 (T.map rowN) with | some k => Ndt.bad (.int (k : Nat)) | none => if 12 < ((T.map rowN).map sumR).sum then .great else .ok) else .bad .none) = .ok
  rw [if_pos hs, hf]
  show (if 12 < ((T.map rowN).map sumR).sum then Ndt.great else .ok) = .ok
  rw [if_neg]
  rw [sums_cast]
  have := g.sum
  omega
theorem needD_ok {sg : Bool} {d : PyData} (h : needD sg d = .ok) : ∃ (T : NT) (a b : Nat), d = tabN T ∧ Good sg T a b := by
  cases d with
  | tuple xs =>
    have h' : (if sideD (.tuple xs) then (match firstBad (widD xs) sg 0 xs with | some k => Ndt.bad (.int (k : Nat)) | none => if 12 < (xs.map sumR).sum then .great else .ok) else .bad .none) = .ok := h
    by_cases hs : sideD (.tuple xs) = true
    · rw [if_pos hs] at h'
      cases hf : firstBad (widD xs) sg 0 xs with
      | some k =>
        rw [hf] at h'
        cases h'
      | none =>
        rw [hf] at h'
        have h2 : (if 12 < (xs.map sumR).sum then Ndt.great else .ok) = .ok := h'
        by_cases hg : 12 < (xs.map sumR).sum
        · rw [if_pos hg] at h2
          cases h2
        · obtain ⟨T, rfl, hT⟩ := rows_nat (firstBad_none hf)
          have hs' : 2 ≤ T.length ∧ T.length ≤ 5 := by
            have : (decide (2 ≤ (T.map rowN).length) && decide ((T.map rowN).length ≤ 5)) = true := hs
            rw [List.length_map] at this
            simpa using this
          rw [sums_cast] at hg
          obtain ⟨r0, hr0⟩ : ∃ r0, r0 ∈ T := ⟨T[0]'(by omega), List.getElem_mem _⟩
          obtain ⟨_, w2, w5, _⟩ := hT r0 hr0
          exact ⟨T, T.length, widD (T.map rowN), rfl, ⟨rfl, fun r hr => (hT r hr).1, by omega, by omega, by omega, by omega⟩, by omega, by omega, by omega, fun hq r hr => (hT r hr).2.2.2 hq⟩
    · rw [if_neg hs] at h'
      cases h'
  | _ => cases h
theorem ask_names {sg : Bool} {a b : Nat} {T : NT} : askR "names" sg a b T = tabN (upA sg a b T) := by
  unfold askR
  rw [if_pos rfl]
theorem ask_columns {sg : Bool} {a b : Nat} {T : NT} : askR "columns" sg a b T = tabN (upB sg a b T) := by
  unfold askR
  rw [if_neg (by decide +kernel), if_pos rfl]
theorem ask_corner {sg : Bool} {a b : Nat} {T : NT} : askR "corner" sg a b T = tabN (corn sg a b T) := by
  unfold askR
  rw [if_neg (by decide +kernel), if_neg (by decide +kernel), if_pos rfl]
theorem ask_is {sg : Bool} {a b : Nat} {T : NT} (g : Good sg T a b) : askR "is" sg a b T = .bool (backL sg a b true true T).isEmpty := by
  unfold askR
  rw [if_neg (by decide +kernel), if_neg (by decide +kernel), if_neg (by decide +kernel)]
  congr 1
  rw [Bool.eq_iff_iff, Bool.and_eq_true, decide_eq_true_eq, decide_eq_true_eq, upA_eq g.rect.r5, upB_eq g, List.isEmpty_iff, backL_nil]
  exact ⟨fun h => ⟨fun _ => h.1, fun _ => h.2⟩, fun h => ⟨h.1 rfl, h.2 rfl⟩⟩
theorem back_form {sg : Bool} {a b : Nat} {T : NT} (g : Good sg T a b) : (backL sg a b true true T).isEmpty = true ↔ Form sg a b (fnT T) := by
  rw [List.isEmpty_iff, backL_nil, ← form_iff g]
  exact ⟨fun h => ⟨h.1 rfl, h.2 rfl⟩, fun h => ⟨fun _ => h.1, fun _ => h.2⟩⟩
theorem EvFS.mono {W : Wd} {te : TE} {n : Nat} {ss : List Slot} {P P' : Nat → List PyData → Prop} (h : EvFS W te n ss P) (k : ∀ n' ds, P n' ds → P' n' ds) : EvFS W te n ss P' := fun H σ s Q q => h H σ s Q fun p H1 H2 vs n' ds pp => q p H1 H2 vs n' ds (k _ _ pp)
section
variable {K : PySem.W.Frag} {ss : List Slot} {S : StA} {A0 : Addr → Prop} {n : Nat} {sg : Bool} {T : NT} {a b : Nat} {tw tt ts tx ty : TE} {w : Str}
theorem ep_ask (g : Good sg T a b) (hw : EvP tw ss (.str w)) (ht : EvP tt ss (tabN T)) (hs : EvP ts ss (.bool sg)) : EvP (tCall (sp_l_asked K) [] E0 (tCons tw (tCons tt (tCons ts tNil)))) ss (askR w sg a b T) :=
  ep_call (ea_cons hw (ea_cons ht (ea_cons hs ea_nil))) ⟨w, tabN T, sg, rfl, plain_tabN, .inl ⟨T, a, b, rfl, g, needD_good g, rfl⟩⟩
theorem ep_like {x : PyData} (h1 : EvP tx ss x) (h2 : EvP ty ss x) (h : Showy x) : EvP (tCall (sp_l_like K) [] E0 (tCons tx (tCons ty tNil))) ss (.bool true) := ep_call (ea_cons h1 (ea_cons h2 ea_nil)) ⟨x, rfl, h, rfl⟩
theorem showy_tabs {l : List NT} (h : ∀ U ∈ l, Good sg U a b) (hl : l.length ≤ 10) : Showy (.list (l.map tabN)) := by
  refine .inr ⟨⟨_, .inl rfl⟩, plainL_all fun d hd => ?_, (sm_list (dp := 3) (w := 1630) (L := 10) (fun d hd => ?_) (by rw [List.length_map]; omega)).mono (by decide) (by decide)⟩
  · obtain ⟨U, _, rfl⟩ := List.mem_map.mp hd
    exact plain_tabN
  · obtain ⟨U, hU, rfl⟩ := List.mem_map.mp hd
    exact sm_tab (h U hU)
theorem es_end {al ac : Bool} {i : Nat} (g : Good sg T a b) (ha : a ≤ 4) (hb : b ≤ 4) (hn : n < 2 ^ 40) (hi : ss[i]? = some (.st S.st)) (ht : EvP tt ss (tabN T)) (hs : EvP ts ss (.bool sg)) :
    EvS (stW S A0) (tCall (sp_l_end K) [] E0 (tCons (tVar i) (tCons tt (tCons (tC (.bl al)) (tCons (tC (.bl ac)) (tCons ts tNil)))))) n ss fun n' d => n ≤ n' ∧ n' ≤ n + 120 ∧ d = tabN (endT sg a b al ac T) :=
  es_callS (S := S) (A0 := A0) hi (esa_of (PA0 := fun n' ds => n' = n ∧ ds = [tabN T, .bool al, .bool ac, .bool sg]) (ea_cons ht (ea_cons ep_bl (ea_cons ep_bl (ea_cons hs ea_nil)))) ⟨rfl, rfl⟩) (fun n1 ds ⟨e1, e2⟩ => ⟨T, sg, al, ac, a, b, e2, g, ha, hb, by omega⟩) fun n1 ds n2 d ⟨e1, e2⟩ h => by
    subst e1
    exact h T sg al ac a b e2 g
end
/-! l_right -/
def pre_l_right (n : Nat) (ds : List PyData) : Prop := ∃ (T : NT) (sg : Bool) (a b : Nat), ds = [tabN T, .bool sg] ∧ Good sg T a b ∧ a ≤ 4 ∧ b ≤ 4 ∧ n < 2 ^ 39
def post_l_right (n : Nat) (ds : List PyData) (n' : Nat) (d : PyData) : Prop := n ≤ n' ∧ n' ≤ n + 360 ∧ d = .bool true
def sp_l_right (K : PySem.W.Frag) : Sp := SpSt pre_l_right post_l_right
def t_l_right (K : PySem.W.Frag) : TS := tSeq (tAsg (tLst (tCons (tCall (sp_l_end K) [] E0 (tCons (tVar 0) (tCons (tVar 1) (tCons (tC (.bl true)) (tCons (tC (.bl false)) (tCons (tVar 2) (tNil))))))) (tCons (tCall (sp_l_end K) [] E0 (tCons (tVar 0) (tCons (tVar 1) (tCons (tC (.bl false)) (tCons (tC (.bl true)) (tCons (tVar 2) (tNil))))))) (tNil)))) (gName 3)) (tSeq (tDrop (tBM K "list" rAppend (tVar 3) (tCons (tCall (sp_l_end K) [] E0 (tCons (tVar 0) (tCons (tVar 1) (tCons (tC (.bl true)) (tCons (tC (.bl true)) (tCons (tVar 2) (tNil))))))) (tNil)))) (tSeq (tAsg (tLst (tCons (tC (.str "names")) (tCons (tC (.str "columns")) (tCons (tC (.str "corner")) (tNil))))) (gName 4)) (tSeq (tIfS (tNot (tB (tCall (sp_l_like K) [] E0 (tCons (tLc (iList K (tVar 4)) (gName 8) (tYes) (tCall (sp_l_asked K) [] E0 (tCons (tVar 8) (tCons (tVar 1) (tCons (tVar 2) (tNil))))) [8]) (tCons (tVar 3) (tNil)))))) (tRet (tC (.bl false))) (tNext)) (tSeq (tFor (iList K (tOp (rCat) (tLst (tCons (tVar 1) (tNil))) (tVar 3))) (gName 5) (tSeq (tAsg (tOp (rEqD K) (tCall (sp_l_backs K) [] E0 (tCons (tVar 5) (tCons (tC (.bl true)) (tCons (tC (.bl true)) (tCons (tVar 2) (tNil)))))) (tLst (tNil))) (gName 6)) (tIfS (tOr (tTest (tOp (rNe) (tVar 6) (tCall (sp_l_formed K) [] E0 (tCons (tVar 5) (tCons (tVar 2) (tNil)))))) (tNot (tB (tCall (sp_l_like K) [] E0 (tCons (tCall (sp_l_asked K) [] E0 (tCons (tC (.str "is")) (tCons (tVar 5) (tCons (tVar 2) (tNil))))) (tCons (tVar 6) (tNil))))))) (tRet (tC (.bl false))) (tNext)))) (tSeq (tAsg (tLst (tCons (tCall (sp_l_asked K) [] E0 (tCons (tC (.str "columns")) (tCons (tOp (rIxL K) (tVar 3) (tC (.int 0))) (tCons (tVar 2) (tNil))))) (tCons (tCall (sp_l_asked K) [] E0 (tCons (tC (.str "names")) (tCons (tOp (rIxL K) (tVar 3) (tC (.int 1))) (tCons (tVar 2) (tNil))))) (tNil)))) (gName 7)) (tSeq (tIfS (tNot (tB (tCall (sp_l_like K) [] E0 (tCons (tVar 7) (tCons (tLst (tCons (tOp (rIxL K) (tVar 3) (tC (.int 2))) (tCons (tOp (rIxL K) (tVar 3) (tC (.int 2))) (tNil)))) (tNil)))))) (tRet (tC (.bl false))) (tNext)) (tRet (tCall (sp_l_like K) [] E0 (tCons (tLc (iList K (tRevL K (tVar 4))) (gName 8) (tYes) (tCall (sp_l_asked K) [] E0 (tCons (tVar 8) (tCons (tVar 1) (tCons (tVar 2) (tNil))))) [8]) (tCons (tRevL K (tVar 3)) (tNil)))))))))))
theorem len_l_right {K : PySem.W.Frag} {vs : List V} {H : Hp} {Q : VK} {E : XK} (h : sp_l_right K vs H Q E) : vs.length = 3 := spSt_len h fun n ds ⟨_, _, _, _, e, _⟩ => by rw [e]; rfl
theorem run_l_right (K : PySem.W.Frag) (S : StA) (A0 : Addr → Prop) (n : Nat) (ds : List PyData) (h : pre_l_right n ds) : RunS (stW S A0) (t_l_right K) n (.st S.st :: (ds.map Slot.d ++ List.replicate (9 - (ds.length + 1)) .non)) fun o => ∃ n' d, o = .rt n' d ∧ post_l_right n ds n' d := by
  obtain ⟨TT, sg, a, b, rfl, g, ha, hb, hn⟩ := h
  have gA := upA_good g
  have gB := upB_good g
  have gC := corn_good g
  refine rs_seq (rs_newS ((efs_lst (PA0 := fun n' ds => n ≤ n' ∧ n' ≤ n + 240 ∧ ds = [tabN (upA sg a b TT), tabN (upB sg a b TT)]) (esa_cons (es_end g ha hb (by omega) rfl (ep_var rfl) (ep_var rfl)) ?_) (fun n' ds ⟨_, _, e⟩ => by rw [e]; simp)).mono ?_))
  · rintro n1 _ ⟨h1, h2, rfl⟩
    refine esa_cons (es_end g ha hb (by omega) rfl (ep_var rfl) (ep_var rfl)) ?_
    rintro n2 _ ⟨h3, h4, rfl⟩
    exact esa_of ea_nil ⟨by omega, by omega, rfl⟩
  rintro n1 _ ⟨h1, h2, rfl⟩ p
  refine rs_seq (rs_appS (i := 3) (a := p) rfl (by simp) ((es_end g ha hb (by omega) rfl (ep_var rfl) (ep_var rfl)).mono ?_))
  rintro n2 _ ⟨h3, h4, rfl⟩
  refine rs_freeze (i := 3) rfl ?_
  show RunS _ _ _ [.st S.st, .d (tabN TT), .d (.bool sg), .d (.list ([upA sg a b TT, upB sg a b TT, corn sg a b TT].map tabN)), .non, .non, .non, .non, .non] _
  refine sa (d := .list (([("names" : Str), "columns", "corner"].map PyData.str))) (EvF.p (ef_lst (ea_cons ep_str (ea_cons ep_str (ea_cons ep_str ea_nil))) (by simp))) ?_
  have shX := showy_tabs (sg := sg) (a := a) (b := b) (l := [upA sg a b TT, upB sg a b TT, corn sg a b TT]) (fun U hU => by
    simp only [List.mem_cons, List.not_mem_nil, or_false] at hU
    rcases hU with rfl | rfl | rfl
    · exact gA
    · exact gB
    · exact gC) (by simp)
  have shR := showy_tabs (sg := sg) (a := a) (b := b) (l := [corn sg a b TT, upB sg a b TT, upA sg a b TT]) (fun U hU => by
    simp only [List.mem_cons, List.not_mem_nil, or_false] at hU
    rcases hU with rfl | rfl | rfl
    · exact gC
    · exact gB
    · exact gA) (by simp)
  have shC := showy_tabs (sg := sg) (a := a) (b := b) (l := [corn sg a b TT, corn sg a b TT]) (fun U hU => by
    simp only [List.mem_cons, List.not_mem_nil, or_false] at hU
    rcases hU with rfl | rfl <;> exact gC) (by simp)
  have comp : ∀ (wi : TI) (ws : List Str) (ss : List Slot), ss.length = 9 → ss[1]? = some (.d (tabN TT)) → ss[2]? = some (.d (.bool sg)) → ws.length ≤ 10 → Wk wi ss (ws.map PyData.str) →
      EvP (tLc wi (gName 8) (tYes) (tCall (sp_l_asked K) [] E0 (tCons (tVar 8) (tCons (tVar 1) (tCons (tVar 2) (tNil))))) [8]) ss (.list (ws.map fun w => askR w sg a b TT)) := fun wi ws ss hl e1 e2 hw wk => by
    refine EvF.p (ef_map (xs := ws) (enc := PyData.str) (f := fun w ss => ss.set 8 (.d (.str w))) (fun w => askR w sg a b TT) wk (by omega) (fun _ _ => tc_name) fun w _ => ?_)
    have q : ∀ i : Nat, i ≠ 8 → ∀ s : Slot, ss[i]? = some s → ((wipeS ss [8]).set 8 (.d (.str w)))[i]? = some s := fun i hi s hs => by
      show ((ss.set 8 .non).set 8 _)[i]? = _
      rw [List.getElem?_set_ne (Ne.symm hi), List.getElem?_set_ne (Ne.symm hi)]
      exact hs
    have q8 : ((wipeS ss [8]).set 8 (.d (.str w)))[8]? = some (.d (.str w)) := by
      show ((ss.set 8 .non).set 8 _)[8]? = _
      rw [List.getElem?_set_self (by rw [List.length_set]; omega)]
    exact ep_ask g (ep_var q8) (ep_var (q 1 (by decide) _ e1)) (ep_var (q 2 (by decide) _ e2))
  refine sf (et_is (et_not (et_b (ep_like (x := .list ([upA sg a b TT, upB sg a b TT, corn sg a b TT].map tabN)) (ep_is (comp _ [("names" : Str), "columns", "corner"] _ rfl rfl rfl (by simp) (wk_list (ep_var rfl))) ?_) (ep_var rfl) shX))) rfl) ?_
  · simp only [List.map_cons, List.map_nil, ask_names, ask_columns, ask_corner]
  refine sfor (xs := [TT, upA sg a b TT, upB sg a b TT, corn sg a b TT]) (enc := tabN) (f := fun U ss => ss.set 5 (.d (tabN U)))
    (fun i n' ss' => n' = n2 ∧ ∃ s t, ss' = [.st S.st, .d (tabN TT), .d (.bool sg), .d (.list ([upA sg a b TT, upB sg a b TT, corn sg a b TT].map tabN)), .d (.list (([("names" : Str), "columns", "corner"].map PyData.str))), s, t, .non, .non])
    (wk_list (ep_is (ep_op (EvF.p (ef_lst (ea_cons (ep_var rfl) ea_nil) (by simp))) (ep_var rfl) (od_cat (by simp))) rfl)) (fun _ _ => tg_name) ⟨rfl, _, _, rfl⟩ ?_ ?_
  · rintro i U n3 _ hi ⟨rfl, s, t, rfl⟩
    have gU : Good sg U a b := by
      have hm := List.mem_of_getElem? hi
      simp only [List.mem_cons, List.not_mem_nil, or_false] at hm
      rcases hm with rfl | rfl | rfl | rfl
      · exact g
      · exact gA
      · exact gB
      · exact gC
    refine sa (op_nilT (ep_call (z := .list ((backL sg a b true true U).map tabN)) (by walk_at "ev") ⟨U, sg, true, true, a, b, rfl, gU, rfl⟩)) ?_
    refine rs_ifF (et_is (et_orG (et_test (ep_op (ep_var rfl) (ep_call (z := .bool (backL sg a b true true U).isEmpty) (ea_cons (ep_var rfl) (ea_cons (ep_var rfl) ea_nil)) ⟨U, sg, a, b, _, rfl, gU, back_form gU, rfl⟩) od_neB)) (et_not (et_b (ep_like (x := .bool (backL sg a b true true U).isEmpty) (ep_is (ep_ask gU ep_str (ep_var rfl) (ep_var rfl)) (ask_is gU)) (ep_var rfl) (.inl ⟨_, rfl⟩))))) ?_) (rs_next ⟨rfl, _, _, rfl⟩)
    simp
  · rintro n3 _ ⟨rfl, s, t, rfl⟩
    refine sa (d := .list ([corn sg a b TT, corn sg a b TT].map tabN)) (ep_is (EvF.p (ef_lst (ea_cons (ep_ask gA ep_str (ep_op (ep_var rfl) ep_int (od_ixL at3_0)) (ep_var rfl)) (ea_cons (ep_ask gB ep_str (ep_op (ep_var rfl) ep_int (od_ixL at3_1)) (ep_var rfl)) ea_nil)) (by simp))) ?_) ?_
    · rw [ask_columns, ask_names, corn_cross g]
      rfl
    refine sf (et_is (et_not (et_b (ep_like (x := .list ([corn sg a b TT, corn sg a b TT].map tabN)) (ep_var rfl) (EvF.p (ef_lst (ea_cons (ep_op (ep_var rfl) ep_int (od_ixL at3_2)) (ea_cons (ep_op (ep_var rfl) ep_int (od_ixL at3_2)) ea_nil)) (by simp))) shC))) rfl) ?_
    refine rs_ret (ep_like (x := .list ([corn sg a b TT, upB sg a b TT, upA sg a b TT].map tabN)) (ep_is (comp _ [("corner" : Str), "columns", "names"] _ rfl rfl rfl (by simp) (wk_list (ep_is (EvF.p (ep_revL (ep_var rfl))) rfl))) ?_) (ep_is (EvF.p (ep_revL (ep_var rfl))) rfl) shR) ⟨n3, _, rfl, by omega, by omega, rfl⟩
    simp only [List.map_cons, List.map_nil, ask_names, ask_columns, ask_corner]
theorem pure_l_right {K : PySem.W.Frag} {vs : List V} {H : Hp} {Q : VK} {E : XK} (h : sp_l_right K vs H Q E) : t_l_right K { nx := fun _ H' => Q .non H', rt := Q } (L2.start ["_law_state", "_law_table_here", "_law_signed", "_law_dues", "_law_words", "_law_one", "_law_ends_so", "_law_backs_here", "_law_word"] vs) H := pureS_of h fun S A0 n ds hp => run_l_right K S A0 n ds hp
section
variable {P : Program} {w : World} {K : PySem.W.Frag} {mg : Str → Option Value} {base : Heap}
abbrev N_l_right : List Str := ["_law_state", "_law_table_here", "_law_signed", "_law_dues", "_law_words", "_law_one", "_law_ends_so", "_law_backs_here", "_law_word"]
theorem sc_l_right : FnScope N_l_right ["_law_state", "_law_table_here", "_law_signed"] (defScope s_l_right) := ⟨rfl, rfl, rfl, by decide +kernel, rfl, by decide +kernel, by decide +kernel⟩
theorem ok_l_right (T : Tx K mg) : ∃ fd, FnG P w K mg base 22 (He.ga K "_law_right") fd ["_law_state", "_law_table_here", "_law_signed"] (sp_l_right K) ∧ Binds K fd ["_law_state", "_law_table_here", "_law_signed"] [] := by
  have nd := sc_l_right.nd
  obtain ⟨_, G_l_like, b_l_like⟩ := ok_l_like (P := P) (w := w) (base := base) T
  obtain ⟨_, G_l_asked, b_l_asked⟩ := ok_l_asked (P := P) (w := w) (base := base) T
  obtain ⟨_, G_l_formed, b_l_formed⟩ := ok_l_formed (P := P) (w := w) (base := base) T
  obtain ⟨_, G_l_backs, b_l_backs⟩ := ok_l_backs (P := P) (w := w) (base := base) T
  obtain ⟨_, G_l_end, b_l_end⟩ := ok_l_end (P := P) (w := w) (base := base) T
  obtain ⟨fd, F⟩ := T.d_l_right
  refine ⟨fd, FunD.okG F sc_l_right (fun vs H Q E h => len_l_right h) (fun cdv A outer s H vs Q E hG hr h => ⟨t_l_right K, PSs.nox ?_, pure_l_right h⟩), F.bindsN fun _ _ _ _ _ _ us hl => match us, hl with | [_, _, _], _ => rfl⟩
  exact pss_cons (ps_set (i := 3) nd rfl (Or.inl rfl) (pe_lst (pa_cons (pe_call G_l_end (hr.mono (by omega)) rfl T.g_l_end T.k_l_end b_l_end .nil pass0 (pa_cons (pv 0) (pa_cons (pv 1) (pa_cons (pe_bl) (pa_cons (pe_bl) (pa_cons (pv 2) (pa_nil))))))) (pa_cons (pe_call G_l_end (hr.mono (by omega)) rfl T.g_l_end T.k_l_end b_l_end .nil pass0 (pa_cons (pv 0) (pa_cons (pv 1) (pa_cons (pe_bl) (pa_cons (pe_bl) (pa_cons (pv 2) (pa_nil))))))) (pa_nil))))) (pss_cons (ps_expr (pe_bm PySem.F.plainAttrs_list PySem.F.slot_list_append PySem.F.type_list_append mt_append (pv 3) (pa_cons (pe_call G_l_end (hr.mono (by omega)) rfl T.g_l_end T.k_l_end b_l_end .nil pass0 (pa_cons (pv 0) (pa_cons (pv 1) (pa_cons (pe_bl) (pa_cons (pe_bl) (pa_cons (pv 2) (pa_nil))))))) (pa_nil)))) (pss_cons (ps_set (i := 4) nd rfl (Or.inl rfl) (pe_lst (pa_cons (pe_str) (pa_cons (pe_str) (pa_cons (pe_str) (pa_nil)))))) (pss_cons (ps_if (pt_not (pt_val (pe_callG G_l_like hG (hr.mono (by omega)) rfl T.g_l_like T.k_l_like b_l_like (pa_cons (pe_lc (own := [(("_law_word" : Str), 8)]) rfl nd (pi_list (pv 4)) (blkOk_by (N := N_l_right) (sc := defScope s_l_right) (by decide +kernel)) (fun _ _ _ _ _ => pg_name (i := 8) nd rfl (Or.inl rfl)) (fun _ _ _ _ _ => pts_nil) (fun _ _ _ _ _ => pe_call G_l_asked (hr.mono (by omega)) rfl T.g_l_asked T.k_l_asked b_l_asked .nil pass0 (pa_cons (pv 8) (pa_cons (pv 1) (pa_cons (pv 2) (pa_nil)))))) (pa_cons (pv 3) (pa_nil)))))) (pss_one (ps_ret (pe_bl))) (pss_nil)) (pss_cons (ps_for PassesOwn.never rfl (pi_list (pe_op op_cat (pe_lst (pa_cons (pv 1) (pa_nil))) (pv 3))) (pg_name (i := 5) nd rfl (Or.inl rfl)) (pss_cons (ps_set (i := 6) nd rfl (Or.inl rfl) (pe_cmpR (op_eqD hr.units) (pe_call G_l_backs (hr.mono (by omega)) rfl T.g_l_backs T.k_l_backs b_l_backs .nil pass0 (pa_cons (pv 5) (pa_cons (pe_bl) (pa_cons (pe_bl) (pa_cons (pv 2) (pa_nil)))))) (pe_lst (pa_nil)) (nomark _))) (pss_one (ps_if (PW.pt (pw_or (pt_cmpR op_ne (pv 6) (pe_call G_l_formed (hr.mono (by omega)) rfl T.g_l_formed T.k_l_formed b_l_formed .nil pass0 (pa_cons (pv 5) (pa_cons (pv 2) (pa_nil)))) (nomark _)) (pw_or1 (pt_not (pt_val (pe_callG G_l_like hG (hr.mono (by omega)) rfl T.g_l_like T.k_l_like b_l_like (pa_cons (pe_call G_l_asked (hr.mono (by omega)) rfl T.g_l_asked T.k_l_asked b_l_asked .nil pass0 (pa_cons (pe_str) (pa_cons (pv 5) (pa_cons (pv 2) (pa_nil))))) (pa_cons (pv 6) (pa_nil))))))))) (pss_one (ps_ret (pe_bl))) (pss_nil))))) (pss_cons (ps_set (i := 7) nd rfl (Or.inl rfl) (pe_lst (pa_cons (pe_call G_l_asked (hr.mono (by omega)) rfl T.g_l_asked T.k_l_asked b_l_asked .nil pass0 (pa_cons (pe_str) (pa_cons (pe_ix ix_list (pv 3) (pe_int) (fun _ _ => rfl)) (pa_cons (pv 2) (pa_nil))))) (pa_cons (pe_call G_l_asked (hr.mono (by omega)) rfl T.g_l_asked T.k_l_asked b_l_asked .nil pass0 (pa_cons (pe_str) (pa_cons (pe_ix ix_list (pv 3) (pe_int) (fun _ _ => rfl)) (pa_cons (pv 2) (pa_nil))))) (pa_nil))))) (pss_cons (ps_if (pt_not (pt_val (pe_callG G_l_like hG (hr.mono (by omega)) rfl T.g_l_like T.k_l_like b_l_like (pa_cons (pv 7) (pa_cons (pe_lst (pa_cons (pe_ix ix_list (pv 3) (pe_int) (fun _ _ => rfl)) (pa_cons (pe_ix ix_list (pv 3) (pe_int) (fun _ _ => rfl)) (pa_nil)))) (pa_nil)))))) (pss_one (ps_ret (pe_bl))) (pss_nil)) (pss_one (ps_ret (pe_callG G_l_like hG (hr.mono (by omega)) rfl T.g_l_like T.k_l_like b_l_like (pa_cons (pe_lc (own := [(("_law_word" : Str), 8)]) rfl nd (pi_list (pe_revL (pv 4))) (blkOk_by (N := N_l_right) (sc := defScope s_l_right) (by decide +kernel)) (fun _ _ _ _ _ => pg_name (i := 8) nd rfl (Or.inl rfl)) (fun _ _ _ _ _ => pts_nil) (fun _ _ _ _ _ => pe_call G_l_asked (hr.mono (by omega)) rfl T.g_l_asked T.k_l_asked b_l_asked .nil pass0 (pa_cons (pv 8) (pa_cons (pv 1) (pa_cons (pv 2) (pa_nil)))))) (pa_cons (pe_revL (pv 3)) (pa_nil))))))))))))
end
end Uh

set_option Elab.async false
set_option linter.all false
set_option maxRecDepth 100000
set_option maxHeartbeats 400000
namespace Uh
open PySem PySem.Spec PyProof.Rows L2
open Evl (Ex)
local macro_rules | `(tactic| walk_at "ev") => `(tactic| repeat (first
  | with_reducible exact ep_var rfl | with_reducible exact ep_int | with_reducible exact ep_bl | with_reducible exact ep_non | with_reducible exact ep_str
  | with_reducible exact ea_nil | with_reducible apply ea_cons | with_reducible apply ep_tupG | with_reducible apply ef_lstG | with_reducible exact et_yes
  | with_reducible apply ca_isiG | with_reducible exact kit_tuple _ | with_reducible exact kit_int _ | with_reducible exact kit_bool _ | with_reducible exact kit_str _
  | with_reducible apply et_test | with_reducible apply et_b | with_reducible apply et_not | with_reducible apply et_orG | with_reducible apply et_andG
  | with_reducible apply ep_orG | with_reducible apply ep_andG | with_reducible apply ep_notV | with_reducible apply ep_chainG
  | with_reducible apply ep_inG | with_reducible apply ep_op | with_reducible apply ep_un | with_reducible apply ep_cb
  | with_reducible exact od_i | with_reducible exact od_b | with_reducible exact od_eqI | with_reducible exact od_neI | with_reducible exact od_eqS | with_reducible exact od_eqB | with_reducible exact od_isN | with_reducible exact od_notN | with_reducible exact ud_i
  | with_reducible exact od_ixT at3_0 | with_reducible exact od_ixT at3_1 | with_reducible exact od_ixT at3_2 | with_reducible exact od_ixT at2_0 | with_reducible exact od_ixT at2_1 | with_reducible exact od_ixT at1_0
  | with_reducible apply od_catA | (with_reducible show _ + _ ≤ 100000; first | omega | (simp; done) | (simp; omega))
  | with_reducible exact ca_lenT | with_reducible exact ca_lenL
  | exact (show allS _ = true from rfl) | exact (show Nat.ble _ 100000 = true from rfl)))
theorem firstBad_lt {w : Nat} {sg : Bool} : ∀ {xs : List PyData} {k j : Nat}, firstBad w sg k xs = some j → j < k + xs.length
  | [], _, _, h => by cases h
  | y :: l, k, j, h => by
    unfold firstBad at h
    by_cases c : rowOk w sg y = true
    · rw [if_pos c] at h
      have := firstBad_lt h
      rw [List.length_cons]
      omega
    · rw [if_neg c] at h
      cases h
      rw [List.length_cons]
      omega
theorem needD_bad {sg : Bool} {d x : PyData} (h : needD sg d = .bad x) : x = .none ∨ ∃ k : Nat, k ≤ 5 ∧ x = natD k := by
  cases d with
  | tuple xs =>
    have h' : (if sideD (.tuple xs) then (match firstBad (widD xs) sg 0 xs with | some k => Ndt.bad (.int (k : Nat)) | none => if 12 < (xs.map sumR).sum then .great else .ok) else .bad .none) = .bad x := h
    by_cases hs : sideD (.tuple xs) = true
    · rw [if_pos hs] at h'
      cases hf : firstBad (widD xs) sg 0 xs with
      | some k =>
        rw [hf] at h'
        injection h' with e
        have hl := firstBad_lt hf
        have : (decide (2 ≤ xs.length) && decide (xs.length ≤ 5)) = true := hs
        simp at this
        exact .inr ⟨k, by omega, e.symm⟩
      | none =>
        rw [hf] at h'
        have h2 : (if 12 < (xs.map sumR).sum then Ndt.great else .ok) = .bad x := h'
        by_cases hg : 12 < (xs.map sumR).sum
        · rw [if_pos hg] at h2
          cases h2
        · rw [if_neg hg] at h2
          cases h2
    · rw [if_neg hs] at h'
      injection h' with e
      exact .inl e.symm
  | none => injection h with e; exact .inl e.symm
  | bool _ => injection h with e; exact .inl e.symm
  | int _ => injection h with e; exact .inl e.symm
  | str _ => injection h with e; exact .inl e.symm
  | list _ => injection h with e; exact .inl e.symm
  | dict _ => injection h with e; exact .inl e.symm
theorem sm_none : Sm 1 64 .none := ⟨rfl, by decide, by decide, rfl, rfl⟩
theorem sm_bad : Sm 1 64 (.str "bad") := ⟨by decide +kernel, by decide +kernel, by decide +kernel, rfl, rfl⟩
theorem sm_great : Sm 1 64 (.str "great") := ⟨by decide +kernel, by decide +kernel, by decide +kernel, rfl, rfl⟩
theorem due_sm {sg : Bool} {d : PyData} (h : needD sg d ≠ .ok) : Sm 2 130 (ndtL (needD sg d)) ∧ plainD (ndtL (needD sg d)) = true ∧ isNone (ndtL (needD sg d)) = false := by
  cases hx : needD sg d with
  | ok => exact absurd hx h
  | bad x =>
    have hsm : Sm 1 64 x ∧ plainD x = true := by
      rcases needD_bad hx with rfl | ⟨k, hk, rfl⟩
      · exact ⟨sm_none, rfl⟩
      · exact ⟨sm_nat (by omega), rfl⟩
    refine ⟨(sm_list (dp := 1) (w := 64) (L := 2) (fun z hz => ?_) (by simp)).mono (by decide) (by decide), plainL_all fun z hz => ?_, rfl⟩
    · simp only [List.mem_cons, List.not_mem_nil, or_false] at hz
      rcases hz with rfl | rfl
      · exact sm_bad
      · exact hsm.1
    · simp only [List.mem_cons, List.not_mem_nil, or_false] at hz
      rcases hz with rfl | rfl
      · rfl
      · exact hsm.2
  | great =>
    refine ⟨(sm_list (dp := 1) (w := 64) (L := 2) (fun z hz => ?_) (by simp)).mono (by decide) (by decide), rfl, rfl⟩
    simp only [List.mem_cons, List.not_mem_nil, or_false] at hz
    rcases hz with rfl | rfl
    · exact sm_great
    · exact sm_nat (k := 12) (by decide)
/-! l_refused -/
def pre_l_refused (n : Nat) (ds : List PyData) : Prop := ∃ (T : NT) (sg : Bool) (a b : Nat), ds = [tabN T, .bool sg] ∧ Rect T a b ∧ n < 2 ^ 39
def post_l_refused (n : Nat) (ds : List PyData) (n' : Nat) (d : PyData) : Prop := n ≤ n' ∧ n' ≤ n + 12 ∧ d = .bool true
def sp_l_refused (K : PySem.W.Frag) : Sp := SpSt pre_l_refused post_l_refused
def t_l_refused (K : PySem.W.Frag) : TS := tSeq (tFor (iRng1 (tCons (tC (.int 3)) (tNil))) (gName 3) (tSeq (tAsg (tCall (sp_l_bent K) [] E0 (tCons (tVar 0) (tCons (tVar 1) (tNil)))) (gName 4)) (tSeq (tAsg (tCall (sp_l_fault K) [] E0 (tCons (tVar 4) (tCons (tVar 2) (tNil)))) (gName 5)) (tIfS (tTest (tOp (rIsNo) (tVar 5) (tC .non))) (tSeq (tAsg (tOp (rEqD K) (tCall (sp_l_backs K) [] E0 (tCons (tVar 4) (tCons (tC (.bl true)) (tCons (tC (.bl true)) (tCons (tVar 2) (tNil)))))) (tLst (tNil))) (gName 5)) (tIfS (tNot (tB (tCall (sp_l_like K) [] E0 (tCons (tCall (sp_l_asked K) [] E0 (tCons (tC (.str "is")) (tCons (tVar 4) (tCons (tVar 2) (tNil))))) (tCons (tVar 5) (tNil)))))) (tRet (tC (.bl false))) (tNext))) (tIfS (tNot (tB (tCall (sp_l_like K) [] E0 (tCons (tLc (iTup K (tTup (tCons (tC (.str "is")) (tCons (tC (.str "names")) (tCons (tC (.str "columns")) (tCons (tC (.str "corner")) (tNil))))))) (gName 6) (tYes) (tCall (sp_l_asked K) [] E0 (tCons (tVar 6) (tCons (tVar 4) (tCons (tVar 2) (tNil))))) [6]) (tCons (tOp (rRep) (tLst (tCons (tVar 5) (tNil))) (tC (.int 4))) (tNil)))))) (tRet (tC (.bl false))) (tNext)))))) (tRet (tC (.bl true)))
theorem len_l_refused {K : PySem.W.Frag} {vs : List V} {H : Hp} {Q : VK} {E : XK} (h : sp_l_refused K vs H Q E) : vs.length = 3 := spSt_len h fun n ds ⟨_, _, _, _, e, _⟩ => by rw [e]; rfl
theorem run_l_refused (K : PySem.W.Frag) (S : StA) (A0 : Addr → Prop) (n : Nat) (ds : List PyData) (h : pre_l_refused n ds) : RunS (stW S A0) (t_l_refused K) n (.st S.st :: (ds.map Slot.d ++ List.replicate (7 - (ds.length + 1)) .non)) fun o => ∃ n' d, o = .rt n' d ∧ post_l_refused n ds n' d := by
  obtain ⟨TT, sg, a, b, rfl, hR, hn⟩ := h
  refine sfor (xs := List.range 3) (enc := natD) (f := fun k ss => ss.set 3 (.d (natD k)))
    (fun i n' ss' => n ≤ n' ∧ n' ≤ n + 4 * i ∧ ∃ s t u, ss' = [.st S.st, .d (tabN TT), .d (.bool sg), s, t, u, .non])
    (wk_rn (m := 3) (ea_cons ep_int ea_nil) (by decide)) (fun _ _ => tg_name) ⟨by omega, by omega, _, _, _, rfl⟩ ?_ ?_
  · rintro i k n1 _ hi ⟨h1, h2, s, t, u, rfl⟩
    have hi' : i < 3 := by
      have := (List.getElem?_eq_some_iff.mp hi).1
      simpa using this
    refine saS (P0 := fun n' d => n1 ≤ n' ∧ n' ≤ n1 + 4 ∧ plainD d = true) (es_callS (S := S) (A0 := A0) rfl (esa_of (PA0 := fun n' ds => n' = n1 ∧ ds = [tabN TT]) (ea_cons (ep_var rfl) ea_nil) ⟨rfl, rfl⟩) (fun n2 ds ⟨e1, e2⟩ => ⟨TT, a, b, e2, hR, by omega⟩) fun n2 ds n3 d ⟨e1, e2⟩ h => by
      subst e1
      exact h) ?_
    rintro n2 d ⟨h3, h4, hd⟩
    refine sa (ep_call (z := ndtL (needD sg d)) (ea_cons (ep_var rfl) (ea_cons (ep_var rfl) ea_nil)) ⟨d, sg, rfl, hd, rfl⟩) ?_
    by_cases hok : needD sg d = .ok
    · obtain ⟨U, a', b', rfl, gU⟩ := needD_ok hok
      rw [hok]
      refine rs_ifT (et_is (et_test (ep_op (ep_var (d := ndtL .ok) rfl) ep_non od_isN)) rfl) ?_
      refine sa (op_nilT (ep_call (z := .list ((backL sg a' b' true true U).map tabN)) (by walk_at "ev") ⟨U, sg, true, true, a', b', rfl, gU, rfl⟩)) ?_
      exact rs_ifF (et_is (et_not (et_b (ep_like (x := .bool (backL sg a' b' true true U).isEmpty) (ep_is (ep_ask gU ep_str (ep_var rfl) (ep_var rfl)) (ask_is gU)) (ep_var rfl) (.inl ⟨_, rfl⟩)))) rfl) (rs_next ⟨by omega, by omega, _, _, _, rfl⟩)
    · obtain ⟨sm, pl, nn⟩ := due_sm hok
      refine rs_ifF (et_is (et_test (ep_op (ep_var (d := ndtL (needD sg d)) rfl) ep_non od_isN)) nn) ?_
      have hlist : Showy (.list (List.replicate 4 (ndtL (needD sg d)))) := by
        refine .inr ⟨⟨_, .inl rfl⟩, plainL_all fun z hz => ?_, (sm_list (dp := 2) (w := 130) (L := 4) (fun z hz => ?_) (by simp)).mono (by decide) (by decide)⟩
        · rw [(List.mem_replicate.mp hz).2]
          exact pl
        · rw [(List.mem_replicate.mp hz).2]
          exact sm
      refine rs_ifF (et_is (et_not (et_b (ep_like (x := .list (List.replicate 4 (ndtL (needD sg d)))) ?_ (mul_one (k := 4) (ep_var rfl) ep_int (by decide)) hlist))) rfl) (rs_next ⟨by omega, by omega, _, _, _, rfl⟩)
      exact ep_is (EvF.p (ef_map (xs := [("is" : Str), "names", "columns", "corner"]) (enc := PyData.str) (f := fun w ss => ss.set 6 (.d (.str w))) (fun _ => ndtL (needD sg d)) (wk_tup (ep_tup (ea_cons ep_str (ea_cons ep_str (ea_cons ep_str (ea_cons ep_str ea_nil)))) (by simp))) (by simp) (fun _ _ => tc_name)
        fun w _ => ep_call (ea_cons (ep_var rfl) (ea_cons (ep_var (d := d) rfl) (ea_cons (ep_var (d := .bool sg) rfl) ea_nil))) ⟨w, d, sg, rfl, hd, .inr ⟨hok, rfl⟩⟩)) rfl
  · rintro n1 _ ⟨h1, h2, s, t, u, rfl⟩
    rw [List.length_range] at h2
    exact rs_ret ep_bl ⟨n1, _, rfl, h1, by omega, rfl⟩
theorem pure_l_refused {K : PySem.W.Frag} {vs : List V} {H : Hp} {Q : VK} {E : XK} (h : sp_l_refused K vs H Q E) : t_l_refused K { nx := fun _ H' => Q .non H', rt := Q } (L2.start ["_law_state", "_law_table_here", "_law_signed", "_law_turn", "_law_thing", "_law_due", "_law_word"] vs) H := pureS_of h fun S A0 n ds hp => run_l_refused K S A0 n ds hp
section
variable {P : Program} {w : World} {K : PySem.W.Frag} {mg : Str → Option Value} {base : Heap}
abbrev N_l_refused : List Str := ["_law_state", "_law_table_here", "_law_signed", "_law_turn", "_law_thing", "_law_due", "_law_word"]
theorem sc_l_refused : FnScope N_l_refused ["_law_state", "_law_table_here", "_law_signed"] (defScope s_l_refused) := ⟨rfl, rfl, rfl, by decide +kernel, rfl, by decide +kernel, by decide +kernel⟩
theorem ok_l_refused (T : Tx K mg) : ∃ fd, FnG P w K mg base 22 (He.ga K "_law_refused") fd ["_law_state", "_law_table_here", "_law_signed"] (sp_l_refused K) ∧ Binds K fd ["_law_state", "_law_table_here", "_law_signed"] [] := by
  have nd := sc_l_refused.nd
  obtain ⟨_, G_l_like, b_l_like⟩ := ok_l_like (P := P) (w := w) (base := base) T
  obtain ⟨_, G_l_asked, b_l_asked⟩ := ok_l_asked (P := P) (w := w) (base := base) T
  obtain ⟨_, G_l_backs, b_l_backs⟩ := ok_l_backs (P := P) (w := w) (base := base) T
  obtain ⟨_, G_l_fault, b_l_fault⟩ := ok_l_fault (P := P) (w := w) (base := base) T
  obtain ⟨_, G_l_bent, b_l_bent⟩ := ok_l_bent (P := P) (w := w) (base := base) T
  obtain ⟨fd, F⟩ := T.d_l_refused
  refine ⟨fd, FunD.okG F sc_l_refused (fun vs H Q E h => len_l_refused h) (fun cdv A outer s H vs Q E hG hr h => ⟨t_l_refused K, PSs.nox ?_, pure_l_refused h⟩), F.bindsN fun _ _ _ _ _ _ us hl => match us, hl with | [_, _, _], _ => rfl⟩
  exact pss_cons (ps_for PassesOwn.never rfl (pi_range1 rfl T.f_range (pa_cons (pe_int) (pa_nil))) (pg_name (i := 3) nd rfl (Or.inl rfl)) (pss_cons (ps_set (i := 4) nd rfl (Or.inr rfl) (pe_call G_l_bent (hr.mono (by omega)) rfl T.g_l_bent T.k_l_bent b_l_bent .nil pass0 (pa_cons (pv 0) (pa_cons (pv 1) (pa_nil))))) (pss_cons (ps_set (i := 5) nd rfl (Or.inl rfl) (pe_call G_l_fault (hr.mono (by omega)) rfl T.g_l_fault T.k_l_fault b_l_fault .nil pass0 (pa_cons (pv 4) (pa_cons (pv 2) (pa_nil))))) (pss_one (ps_if (pt_cmpR op_isN (pv 5) (pe_non) (nomark _)) (pss_cons (ps_set (i := 5) nd rfl (Or.inl rfl) (pe_cmpR (op_eqD hr.units) (pe_call G_l_backs (hr.mono (by omega)) rfl T.g_l_backs T.k_l_backs b_l_backs .nil pass0 (pa_cons (pv 4) (pa_cons (pe_bl) (pa_cons (pe_bl) (pa_cons (pv 2) (pa_nil)))))) (pe_lst (pa_nil)) (nomark _))) (pss_one (ps_if (pt_not (pt_val (pe_callG G_l_like hG (hr.mono (by omega)) rfl T.g_l_like T.k_l_like b_l_like (pa_cons (pe_call G_l_asked (hr.mono (by omega)) rfl T.g_l_asked T.k_l_asked b_l_asked .nil pass0 (pa_cons (pe_str) (pa_cons (pv 4) (pa_cons (pv 2) (pa_nil))))) (pa_cons (pv 5) (pa_nil)))))) (pss_one (ps_ret (pe_bl))) (pss_nil)))) (pss_one (ps_if (pt_not (pt_val (pe_callG G_l_like hG (hr.mono (by omega)) rfl T.g_l_like T.k_l_like b_l_like (pa_cons (pe_lc (own := [(("_law_word" : Str), 6)]) rfl nd (pi_tup (pe_tup (pa_cons (pe_str) (pa_cons (pe_str) (pa_cons (pe_str) (pa_cons (pe_str) (pa_nil))))))) (blkOk_by (N := N_l_refused) (sc := defScope s_l_refused) (by decide +kernel)) (fun _ _ _ _ _ => pg_name (i := 6) nd rfl (Or.inl rfl)) (fun _ _ _ _ _ => pts_nil) (fun _ _ _ _ _ => pe_call G_l_asked (hr.mono (by omega)) rfl T.g_l_asked T.k_l_asked b_l_asked .nil pass0 (pa_cons (pv 6) (pa_cons (pv 4) (pa_cons (pv 2) (pa_nil)))))) (pa_cons (pe_op op_rep (pe_lst (pa_cons (pv 5) (pa_nil))) (pe_int)) (pa_nil)))))) (pss_one (ps_ret (pe_bl))) (pss_nil)))))))) (pss_one (ps_ret (pe_bl)))
end
end Uh

set_option Elab.async false
set_option linter.all false
set_option maxRecDepth 100000
set_option maxHeartbeats 400000
namespace Uh
open PySem PySem.Spec PyProof.Rows L2
open Evl (Ex)
local macro_rules | `(tactic| walk_at "ev") => `(tactic| repeat (first
  | with_reducible exact ep_var rfl | with_reducible exact ep_int | with_reducible exact ep_bl | with_reducible exact ep_non | with_reducible exact ep_str
  | with_reducible exact ea_nil | with_reducible apply ea_cons | with_reducible apply ep_tupG | with_reducible apply ef_lstG | with_reducible exact et_yes
  | with_reducible apply ca_isiG | with_reducible exact kit_tuple _ | with_reducible exact kit_int _ | with_reducible exact kit_bool _ | with_reducible exact kit_str _
  | with_reducible apply et_test | with_reducible apply et_b | with_reducible apply et_not | with_reducible apply et_orG | with_reducible apply et_andG
  | with_reducible apply ep_orG | with_reducible apply ep_andG | with_reducible apply ep_notV | with_reducible apply ep_chainG
  | with_reducible apply ep_inG | with_reducible apply ep_op | with_reducible apply ep_un | with_reducible apply ep_cb
  | with_reducible exact od_i | with_reducible exact od_b | with_reducible exact od_eqI | with_reducible exact od_neI | with_reducible exact od_eqS | with_reducible exact od_eqB | with_reducible exact od_isN | with_reducible exact od_notN | with_reducible exact ud_i
  | with_reducible exact od_ixT at3_0 | with_reducible exact od_ixT at3_1 | with_reducible exact od_ixT at3_2 | with_reducible exact od_ixT at2_0 | with_reducible exact od_ixT at2_1 | with_reducible exact od_ixT at1_0
  | with_reducible apply od_catA | (with_reducible show _ + _ ≤ 100000; first | omega | (simp; done) | (simp; omega))
  | with_reducible exact ca_lenT | with_reducible exact ca_lenL
  | exact (show allS _ = true from rfl) | exact (show Nat.ble _ 100000 = true from rfl)))
theorem sql_ex {K : PySem.W.Frag} {H H' : Hp} {a : Addr} {xs : List V} (e : Ex H H') (h : SqL K H a xs) : SqL K H' a xs := by
  rcases h with (h | ⟨o, h⟩) | h
  · exact .inl (.inl (e a _ h))
  · exact .inl (.inr ⟨o, e a _ h⟩)
  · exact .inr h
theorem dp_ints {K : PySem.W.Frag} {H : Hp} {ns : List Int} : DpAll K H (ns.map V.int) (ns.map PyData.int) := DaL.dp (av := fun _ => False) _ _ (plainL_all ints_plain) DaL.ints
/-! l_begin -/
def sp_l_begin (K : PySem.W.Frag) : Sp := fun vs H Q _ => ∃ (a : Addr) (ns : List Int), vs = [.ref a] ∧ SqL K H a (ns.map V.int) ∧ ns.length ≤ 1000 ∧ ∀ (S : StA) (H' : Hp), S.scr = [] → stL S 0 H' → Ex H H' → H S.st = none → H S.pc = none → H S.pl = none → Q (.ref S.st) H'
def t_l_begin (K : PySem.W.Frag) : TS := tSeq (tAsg (tIf (tTest (tOp (rNeD K) (tVar 0) (tLst (tNil)))) (tCB (rListOf K) (tCons (tVar 0) (tNil))) (tLst (tCons (tC (.int 0)) (tNil)))) (gName 1)) (tRet (tDisp [(tC (.str "cells"), tVar 1), (tC (.str "lefts"), tLc (iList K (tVar 1)) (gName 2) (tYes) (tIf (tTest (tOp (rI0 fun i j => .bl (decide (j ≤ i))) (tVar 2) (tOp (rI CPow fun i j => .int (i ^ j.toNat)) (tC (.int 10)) (tC (.int 18))))) (tVar 2) (tC (.int 0))) [2]), (tC (.str "at"), tC (.int 0))]))
theorem len_l_begin {K : PySem.W.Frag} {vs : List V} {H : Hp} {Q : VK} {E : XK} (h : sp_l_begin K vs H Q E) : vs.length = 1 := by
  obtain ⟨a, ns, rfl, _⟩ := h
  rfl
theorem pure_l_begin {K : PySem.W.Frag} {vs : List V} {H : Hp} {Q : VK} {E : XK} (h : sp_l_begin K vs H Q E) : t_l_begin K { nx := fun _ H' => Q .non H', rt := Q } (L2.start ["_law_script", "_law_cells_so", "_law_cell"] vs) H := by
  obtain ⟨a, ns, rfl, hs, hl, hq⟩ := h
  -- the second statement
  have rest : ∀ (c : List Int) (pc : Addr) (H2 : Hp), c ≠ [] → c.length ≤ 1000 → Ex H H2 → H pc = none → H2 pc = some (.lst (c.map V.int)) →
      (tRet (tDisp [(tC (.str "cells"), tVar 1), (tC (.str "lefts"), tLc (iList K (tVar 1)) (gName 2) (tYes) (tIf (tTest (tOp (rI0 fun i j => .bl (decide (j ≤ i))) (tVar 2) (tOp (rI CPow fun i j => .int (i ^ j.toNat)) (tC (.int 10)) (tC (.int 18))))) (tVar 2) (tC (.int 0))) [2]), (tC (.str "at"), tC (.int 0))])) { nx := fun _ H' => Q .non H', rt := Q } [some (.ref a), some (.ref pc), none] H2 := fun c pc H2 hc hcl e2 hpc hlst => by
    intro p hp
    have nep : pc ≠ p := fun z => by rw [z, hp] at hlst; cases hlst
    have e3 : Ex H2 (upd H2 p (.dK [])) := Ex.new hp
    have hlst3 : upd H2 p (.dK []) pc = some (.lst (c.map V.int)) := e3 _ _ hlst
    simp only [tPairs]
    refine ⟨_, rfl, ?_⟩
    have fit3 : Fits (fun _ => False) (upd H2 p (.dK [])) [some (.ref a), some (.ref pc), none] [.non, .d (.list (c.map .int)), .non] :=
      ⟨trivial, ⟨_, rfl, by simp only [Da]; exact ⟨pc, _, rfl, fun z => z, hlst3, DaL.ints⟩⟩, trivial, trivial⟩
    have lefts := ef_map (wi := iList K (tVar 1)) (g := gName 2) (te := tIf (tTest (tOp (rI0 fun i j => .bl (decide (j ≤ i))) (tVar 2) (tOp (rI CPow fun i j => .int (i ^ j.toNat)) (tC (.int 10)) (tC (.int 18))))) (tVar 2) (tC (.int 0))) (vs := [2]) (ss := [.non, .d (.list (c.map .int)), .non])
      (xs := c) (enc := PyData.int) (f := fun z ss => ss.set 2 (.d (.int z))) (fun z => .int (if (10 : Int) ^ 18 ≤ z then z else 0)) (wk_list (ep_var rfl)) (by omega) (fun _ _ => tc_name) fun z _ => by
        refine ep_if (b := decide ((10 : Int) ^ 18 ≤ z)) (et_test (ep_op (ep_var rfl) (ep_op ep_int ep_int (od_c (g := fun i j => i ^ j.toNat) ⟨by decide, by decide, by decide⟩)) od_b)) (fun e => ?_) (fun e => ?_)
        · rw [if_pos (of_decide_eq_true e)]
          exact ep_var rfl
        · rw [if_neg (of_decide_eq_false e)]
          exact ep_int
    dsimp only [tC]
    refine lefts _ _ _ (fun _ z => z.elim) fit3 _ fun pl H4 us e4 hpl hpl4 hd => ?_
    have hm : (c.map fun z => PyData.int (if (10 : Int) ^ 18 ≤ z then z else 0)) = (c.map fun z => if (10 : Int) ^ 18 ≤ z then z else 0).map PyData.int := by rw [List.map_map]; rfl
    rw [hm] at hd
    have hus := hd.ints_eq
    subst hus
    have hp4 : H4 p = some (.dK []) := e4 _ _ upd_same
    have hpc4 := e4 _ _ hlst3
    have npl : pl ≠ p := fun z => by rw [z, upd_same] at hpl; cases hpl
    have ncl : pc ≠ pl := fun z => by rw [z, hpl] at hlst3; cases hlst3
    have hpl2 : H2 pl = none := by
      rw [upd_ne npl] at hpl
      exact hpl
    refine ⟨hp4, [(.inr "cells", .ref pc), (.inr "lefts", .ref pl), (.inr "at", .int 0)], rfl, Nat.le_of_ble_eq_true rfl, ?_⟩
    have em : mergeK [] [((.inr "cells" : Key), V.ref pc), (.inr "lefts", .ref pl), (.inr "at", .int 0)] = [(.inr "cells", .ref pc), (.inr "lefts", .ref pl), (.inr "at", .int 0)] := rfl
    rw [em]
    refine hq ⟨p, pc, pl, c, []⟩ _ rfl ⟨ncl, hc, hcl, upd_same, by rw [upd_ne nep]; exact hpc4, fun q hq => (by cases hq), (c.map fun z => if (10 : Int) ^ 18 ≤ z then z else 0), by rw [List.length_map], by rw [upd_ne npl]; exact hpl4⟩ (fun b o hb => ?_) (Evl.fresh_back e2 hp) hpc (Evl.fresh_back e2 hpl2)
    have nb : b ≠ p := fun z => by
      rw [z, Evl.fresh_back e2 hp] at hb
      cases hb
    rw [upd_ne nb]
    exact e4 _ _ (e3 _ _ (e2 _ _ hb))
  -- the first one
  refine ⟨.ref a, rfl, ?_⟩
  refine ⟨Evl.sz_of (n := 0) (by decide), fun b hb => ?_⟩
  have e1 : Ex H (upd H b (.lst [])) := Ex.new hb
  refine ⟨.list (ns.map .int), .list [], .lst (sql_ex e1 hs) dp_ints, .lst (SqL.of upd_same) .nil, shaped_list ints_can ints_depth, by decide, ?_⟩
  refine ⟨_, rfl, ?_⟩
  rw [eqv_nil, List.isEmpty_map]
  cases ns with
  | nil =>
    rw [if_neg (by simp)]
    refine ⟨Evl.sz_of (n := 1) (by decide), fun pc hpc => ?_⟩
    exact rest [0] pc _ (by simp) (by simp) (e1.trans (Ex.new hpc)) (Evl.fresh_back e1 hpc) upd_same
  | cons z ns =>
    rw [if_pos (by simp)]
    refine ⟨.ref a, rfl, a, _, rfl, .inl (sql_ex e1 hs), fun pc hpc => ?_⟩
    exact rest (z :: ns) pc _ (by simp) hl (e1.trans (Ex.new hpc)) (Evl.fresh_back e1 hpc) upd_same
section
variable {P : Program} {w : World} {K : PySem.W.Frag} {mg : Str → Option Value} {base : Heap}
abbrev N_l_begin : List Str := ["_law_script", "_law_cells_so", "_law_cell"]
theorem sc_l_begin : FnScope N_l_begin ["_law_script"] (defScope s_l_begin) := ⟨rfl, rfl, rfl, by decide +kernel, rfl, by decide +kernel, by decide +kernel⟩
theorem ok_l_begin (T : Tx K mg) : ∃ fd, FnOk P w K mg base CX0 1 (He.ga K "_law_begin") fd ["_law_script"] (sp_l_begin K) ∧ Binds K fd ["_law_script"] [] := by
  have nd := sc_l_begin.nd
  obtain ⟨fd, F⟩ := T.d_l_begin
  refine ⟨fd, FunD.ok F sc_l_begin (fun vs H Q E h => len_l_begin h) (fun cdv A outer s H vs Q E hr h => ⟨t_l_begin K, PSs.nox ?_, pure_l_begin h⟩), F.bindsN fun _ _ _ _ _ _ us hl => match us, hl with | [_], _ => rfl⟩
  exact pss_cons (ps_set (i := 1) nd rfl (Or.inl rfl) (pe_ifExp (pt_cmpR (op_neD hr.units) (pv 0) (pe_lst (pa_nil)) (nomark _)) (pe_callTy call_list_of (by rfl) T.f_list (by decide +kernel) (pa_cons (pv 0) (pa_nil))) (pe_lst (pa_cons (pe_int) (pa_nil))))) (pss_one (ps_ret (pe_disp (pps_cons (pe_str) (pv 1) (pps_cons (pe_str) (pe_lc (own := [(("_law_cell" : Str), 2)]) rfl nd (pi_list (pv 1)) (blkOk_by (N := N_l_begin) (sc := defScope s_l_begin) (by decide +kernel)) (fun _ _ _ _ _ => pg_name (i := 2) nd rfl (Or.inl rfl)) (fun _ _ _ _ _ => pts_nil) (fun _ _ _ _ _ => pe_ifExp (pt_cmpR op_ge (pv 2) (pe_op op_pow (pe_int) (pe_int)) (nomark _)) (pv 2) (pe_int))) (pps_cons (pe_str) (pe_int) (pps_nil)))) (by rfl) (by rfl) (fun z => by cases z) (by decide))))
end
end Uh

set_option Elab.async false
set_option linter.all false
set_option maxRecDepth 100000
set_option maxHeartbeats 400000
namespace Uh
open PySem PySem.Spec PyProof.Rows L2
open Evl (Ex)
local macro_rules | `(tactic| walk_at "ev") => `(tactic| repeat (first
  | with_reducible exact ep_var rfl | with_reducible exact ep_int | with_reducible exact ep_bl | with_reducible exact ep_non | with_reducible exact ep_str
  | with_reducible exact ea_nil | with_reducible apply ea_cons | with_reducible apply ep_tupG | with_reducible apply ef_lstG | with_reducible exact et_yes
  | with_reducible apply ca_isiG | with_reducible exact kit_tuple _ | with_reducible exact kit_int _ | with_reducible exact kit_bool _ | with_reducible exact kit_str _
  | with_reducible apply et_test | with_reducible apply et_b | with_reducible apply et_not | with_reducible apply et_orG | with_reducible apply et_andG
  | with_reducible apply ep_orG | with_reducible apply ep_andG | with_reducible apply ep_notV | with_reducible apply ep_chainG
  | with_reducible apply ep_inG | with_reducible apply ep_op | with_reducible apply ep_un | with_reducible apply ep_cb
  | with_reducible exact od_i | with_reducible exact od_b | with_reducible exact od_eqI | with_reducible exact od_neI | with_reducible exact od_eqS | with_reducible exact od_eqB | with_reducible exact od_isN | with_reducible exact od_notN | with_reducible exact ud_i
  | with_reducible exact od_ixT at3_0 | with_reducible exact od_ixT at3_1 | with_reducible exact od_ixT at3_2 | with_reducible exact od_ixT at2_0 | with_reducible exact od_ixT at2_1 | with_reducible exact od_ixT at1_0
  | with_reducible apply od_catA | (with_reducible show _ + _ ≤ 100000; first | omega | (simp; done) | (simp; omega))
  | with_reducible exact ca_lenT | with_reducible exact ca_lenL
  | exact (show allS _ = true from rfl) | exact (show Nat.ble _ 100000 = true from rfl)))
/-- the world ahead of the state: the script stands -/
def scW (scr : List (Addr × HO)) : Wd where
  A := fun a => ∃ o, (a, o) ∈ scr
  M := fun _ => False
  sub := fun _ h => h.elim
  stOk := fun _ H => ∀ p ∈ scr, H p.1 = some p.2
  live := fun _ H h a ⟨o, e⟩ => ⟨o, h _ e⟩
  stab := fun _ H H' k h p hp => k _ _ ⟨p.2, hp⟩ (h p hp)
  xk := fun _ _ _ _ => False
abbrev Yes : Out → Prop := fun o => ∃ n', o = .rt n' (.bool true)
/-- the state is made -/
theorem rs_begin {K : PySem.W.Frag} {scr : List (Addr × HO)} {n : Nat} {ss : List Slot} {a : Addr} {ns : List Int} {i j : Nat} {tu : TS} {E : XK} (ow : owns ss = []) (hi : ss[i]? = some (.st a)) (hs : ∀ H : Hp, (∀ p ∈ scr, H p.1 = some p.2) → SqL K H a (ns.map V.int)) (hl : ns.length ≤ 1000)
    (k : ∀ S : StA, S.scr = scr → RunS (stW S fun _ => False) tu 0 (ss.set j (.st S.st)) Yes) : RunS (scW scr) (tSeq (tAsg (tCall (sp_l_begin K) [] E (tCons (tVar i) tNil)) (gName j)) tu) n ss Yes := fun D H σ s g => by
  refine ⟨_, s.fits.state hi, a, ns, rfl, hs H s.ok, hl, fun S H1 e0 hL ex n1 n2 n3 => ?_⟩
  let S' : StA := { S with scr := scr }
  have hL' : stL S' 0 H1 := by
    obtain ⟨h0, hc, hcl, h1, h2, _, ls, h3, h4⟩ := hL
    refine ⟨h0, hc, hcl, h1, h2, fun p hp => ⟨ex _ _ (s.ok p hp), fun z => ?_, fun z => ?_⟩, ls, h3, h4⟩
    · have := s.ok p hp
      rw [z, n1] at this
      cases this
    · have := s.ok p hp
      rw [z, n3] at this
      cases this
  have ow2 : owns (ss.set j (.st S.st)) = [] := List.eq_nil_of_sublist_nil (ow ▸ owns_set_sub rfl)
  have s1 : Sl (stW S' fun _ => False) 0 H1 (σ.set j (some (.ref S.st))) (ss.set j (.st S.st)) := by
    refine ⟨?_, by rw [ow2]; simp, fun p hp => (by rw [ow2] at hp; cases hp), hL', fun _ z => z.elim⟩
    rw [ow2]
    have m : Mv (avd (scW scr) (owns ss)) H (avd (stW S' fun _ => False) []) H1 := by
      have key : ∀ (b : Addr) (o : HO), ¬ avd (scW scr) (owns ss) b → H b = some o → H1 b = some o ∧ ¬ avd (stW S' fun _ => False) [] b := fun b o nb hb => by
        refine ⟨ex _ _ hb, fun z => ?_⟩
        rcases z with (z | z | z | z | z) | z
        · exact z
        · rw [z] at hb
          exact absurd hb (by rw [show S'.st = S.st from rfl, n1]; simp)
        · rw [z] at hb
          exact absurd hb (by rw [show S'.pc = S.pc from rfl, n2]; simp)
        · rw [z] at hb
          exact absurd hb (by rw [show S'.pl = S.pl from rfl, n3]; simp)
        · exact nb (.inl z)
        · cases z
      exact ⟨fun b o _ hb => ex _ _ hb, fun b o nb hb => key b _ nb hb, fun b _ _ nb hb => key b _ nb hb⟩
    refine s.fits.set (fun q o sl _ hq f => fit_mv m (fun p xs es => ?_) f) rfl
    exfalso
    subst es
    have := owns_mem.mpr ⟨q, xs, hq⟩
    rw [ow] at this
    cases this
  refine k S' rfl D H1 _ s1 ⟨fun _ _ _ _ p => ?_, fun _ _ _ _ p => ?_, fun _ _ _ _ p => ?_, fun n' d v H' p t ok r => ?_, fun _ _ _ _ _ _ _ p => ?_⟩
  · obtain ⟨_, e⟩ := p; cases e
  · obtain ⟨_, e⟩ := p; cases e
  · obtain ⟨_, e⟩ := p; cases e
  · obtain ⟨n'', e⟩ := p
    cases e
    have back : ∀ (b : Addr) (o : HO), H b = some o → H' b = some o := fun b o hb => t.keep b o (fun z => by
      rcases z with z | z
      · rw [z] at hb
        exact absurd hb (by rw [show S'.st = S.st from rfl, n1]; simp)
      · rw [z] at hb
        exact absurd hb (by rw [show S'.pl = S.pl from rfl, n3]; simp)) (by rw [ow2]; simp) (ex _ _ hb)
    exact g.rt n' _ v H' ⟨n', rfl⟩ (.of_ex fun b o hb => back b o hb) (fun p hp => back _ _ (s.ok p hp)) (by simpa [Da] using r)
  · obtain ⟨_, e⟩ := p; cases e
/-- for k in range(m), where m is told by the world -/
theorem rs_forN {W : Wd} {n : Nat} {ss : List Slot} {ta : TA} {g : TG} {tb : TS} {P : Out → Prop} {m : Nat} (hm : m ≤ 1000) (h : ∀ (H : Hp) (σ : L2.St), Sl W n H σ ss → ∀ Q : List V → Hp → Prop, (∀ H2, Ex H H2 → Q [.int (m : Nat)] H2) → ta σ H Q)
    (k : RunS W (tFor (fun _ H R => R (Itr 0 m) H) g tb) n ss P) : RunS W (tFor (iRng1 ta) g tb) n ss P := fun D H σ s G => by
  refine h H σ s _ fun H2 e => ?_
  have := k D H2 σ (s.ext e) (G.later (.of_ex e) fun p hp => .inl hp)
  refine ⟨(m : Nat), rfl, by omega, by omega, ?_⟩
  rw [Int.toNat_natCast]
  exact this
theorem wk_itr {ss : List Slot} {m : Nat} : Wk (fun _ H R => R (Itr 0 m) H) ss ((List.range m).map natD) := fun av H σ l f R q => by
  refine q _ H (Ex.refl H) ?_
  have e : (List.range m).map natD = (irange 0 m).map PyData.int := by
    unfold irange
    rw [List.map_map]
    exact List.map_congr_left fun k _ => by simp
  rw [e]
  exact itr_ok
section
variable {K : PySem.W.Frag} {ss : List Slot} {S : StA} {A0 : Addr → Prop} {n : Nat} {sg : Bool} {T : NT} {a b : Nat} {tt ts : TE} {i : Nat}
theorem es_right (g : Good sg T a b) (ha : a ≤ 4) (hb : b ≤ 4) (hn : n < 2 ^ 39) (hi : ss[i]? = some (.st S.st)) (ht : EvP tt ss (tabN T)) (hs : EvP ts ss (.bool sg)) :
    EvS (stW S A0) (tCall (sp_l_right K) [] E0 (tCons (tVar i) (tCons tt (tCons ts tNil)))) n ss fun n' d => n ≤ n' ∧ n' ≤ n + 360 ∧ d = .bool true :=
  es_callS (S := S) (A0 := A0) hi (esa_of (PA0 := fun n' ds => n' = n ∧ ds = [tabN T, .bool sg]) (ea_cons ht (ea_cons hs ea_nil)) ⟨rfl, rfl⟩) (fun n1 ds ⟨e1, e2⟩ => ⟨T, sg, a, b, e2, g, ha, hb, by omega⟩) fun n1 ds n2 d ⟨e1, e2⟩ h => by
    subst e1
    exact h
theorem es_refused (g : Good sg T a b) (hn : n < 2 ^ 39) (hi : ss[i]? = some (.st S.st)) (ht : EvP tt ss (tabN T)) (hs : EvP ts ss (.bool sg)) :
    EvS (stW S A0) (tCall (sp_l_refused K) [] E0 (tCons (tVar i) (tCons tt (tCons ts tNil)))) n ss fun n' d => n ≤ n' ∧ n' ≤ n + 12 ∧ d = .bool true :=
  es_callS (S := S) (A0 := A0) hi (esa_of (PA0 := fun n' ds => n' = n ∧ ds = [tabN T, .bool sg]) (ea_cons ht (ea_cons hs ea_nil)) ⟨rfl, rfl⟩) (fun n1 ds ⟨e1, e2⟩ => ⟨T, sg, a, b, e2, g.rect, by omega⟩) fun n1 ds n2 d ⟨e1, e2⟩ h => by
    subst e1
    exact h
theorem es_table (hn : n < 2 ^ 40) (hi : ss[i]? = some (.st S.st)) (hs : EvP ts ss (.bool sg)) :
    EvS (stW S A0) (tCall (sp_l_table K) [] E0 (tCons (tVar i) (tCons ts tNil))) n ss fun n' d => n ≤ n' ∧ n' ≤ n + 60 ∧ ∃ (T : NT) (a b : Nat), d = tabN T ∧ Good sg T a b ∧ a ≤ 4 ∧ b ≤ 4 :=
  es_callS (S := S) (A0 := A0) hi (esa_of (PA0 := fun n' ds => n' = n ∧ ds = [.bool sg]) (ea_cons hs ea_nil) ⟨rfl, rfl⟩) (fun n1 ds ⟨e1, e2⟩ => ⟨sg, e2, by omega⟩) fun n1 ds n2 d ⟨e1, e2⟩ h => by
    subst e1
    exact h sg e2
theorem es_endV {al ac : Bool} {tl tc : TE} (g : Good sg T a b) (ha : a ≤ 4) (hb : b ≤ 4) (hn : n < 2 ^ 40) (hi : ss[i]? = some (.st S.st)) (ht : EvP tt ss (tabN T)) (h1 : EvP tl ss (.bool al)) (h2 : EvP tc ss (.bool ac)) (hs : EvP ts ss (.bool sg)) :
    EvS (stW S A0) (tCall (sp_l_end K) [] E0 (tCons (tVar i) (tCons tt (tCons tl (tCons tc (tCons ts tNil)))))) n ss fun n' d => n ≤ n' ∧ n' ≤ n + 120 ∧ d = tabN (endT sg a b al ac T) :=
  es_callS (S := S) (A0 := A0) hi (esa_of (PA0 := fun n' ds => n' = n ∧ ds = [tabN T, .bool al, .bool ac, .bool sg]) (ea_cons ht (ea_cons h1 (ea_cons h2 (ea_cons hs ea_nil)))) ⟨rfl, rfl⟩) (fun n1 ds ⟨e1, e2⟩ => ⟨T, sg, al, ac, a, b, e2, g, ha, hb, by omega⟩) fun n1 ds n2 d ⟨e1, e2⟩ h => by
    subst e1
    exact h T sg al ac a b e2 g
end
theorem end_good {sg al ac : Bool} {a b : Nat} {T : NT} (g : Good sg T a b) : Good sg (endT sg a b al ac T) a b := by
  unfold endT
  cases al <;> cases ac
  · exact g
  · exact upB_good g
  · exact upA_good g
  · exact corn_good g
theorem good_of {sg : Bool} {T : NT} {a b : Nat} (h : (decide (T.length = a) && T.all (fun r => decide (r.length = b)) && decide (2 ≤ a) && decide (a ≤ 4) && decide (2 ≤ b) && decide (b ≤ 4) && decide ((T.map List.sum).sum ≤ 12) && (!sg || T.all fun r => r.all fun n => decide (n ≤ 1))) = true) : Good sg T a b := by
  simp only [Bool.and_eq_true, decide_eq_true_eq, List.all_eq_true, Bool.or_eq_true, Bool.not_eq_true'] at h
  obtain ⟨⟨⟨⟨⟨⟨⟨h1, h2⟩, h3⟩, h4⟩, h5⟩, h6⟩, h7⟩, h8⟩ := h
  refine ⟨⟨h1, h2, by omega, by omega, by omega, by omega⟩, h3, h5, h7, fun hs r hr n hn => ?_⟩
  rcases h8 with e | e
  · rw [hs] at e
    cases e
  · exact e r hr n hn
def T1 : NT := [[1, 0], [0, 1]]
def T2 : NT := [[0, 1], [1, 0]]
def T3 : NT := [[0, 1, 1], [1, 0, 1]]
theorem g1 : Good true T1 2 2 := good_of (by decide)
theorem g2 : Good false T2 2 2 := good_of (by decide)
theorem g3 : Good true T3 2 3 := good_of (by decide)
theorem v1 : corn true 2 2 T1 = [[1, 0], [1, 0]] := by decide +kernel
theorem v2 : upA false 2 2 T2 = [[1, 1], [0, 0]] := by decide +kernel
theorem v3 : corn false 2 2 T2 = [[2, 0], [0, 0]] := by decide +kernel
/-! law -/
def sp_law (K : PySem.W.Frag) : Sp := fun vs H Q _ => ∃ (a : Addr) (ns : List Int), vs = [.ref a] ∧ SqL K H a (ns.map V.int) ∧ ns.length ≤ 1000 ∧ ∀ H', Q (.bl true) H'
def t_law (K : PySem.W.Frag) : TS := tSeq (tAsg (tLst (tCons (tTup (tCons (tTup (tCons (tTup (tCons (tC (.int 1)) (tCons (tC (.int 0)) (tNil)))) (tCons (tTup (tCons (tC (.int 0)) (tCons (tC (.int 1)) (tNil)))) (tNil)))) (tCons (tC (.bl true)) (tNil)))) (tCons (tTup (tCons (tTup (tCons (tTup (tCons (tC (.int 0)) (tCons (tC (.int 1)) (tNil)))) (tCons (tTup (tCons (tC (.int 1)) (tCons (tC (.int 0)) (tNil)))) (tNil)))) (tCons (tC (.bl false)) (tNil)))) (tCons (tTup (tCons (tTup (tCons (tTup (tCons (tC (.int 0)) (tCons (tC (.int 1)) (tCons (tC (.int 1)) (tNil))))) (tCons (tTup (tCons (tC (.int 1)) (tCons (tC (.int 0)) (tCons (tC (.int 1)) (tNil))))) (tNil)))) (tCons (tC (.bl true)) (tNil)))) (tNil))))) (gName 1)) (tSeq (tIfS (tNot (tB (tCall (sp_l_like K) [] E0 (tCons (tCall (sp_l_asked K) [] E0 (tCons (tC (.str "corner")) (tCons (tTup (tCons (tTup (tCons (tC (.int 1)) (tCons (tC (.int 0)) (tNil)))) (tCons (tTup (tCons (tC (.int 0)) (tCons (tC (.int 1)) (tNil)))) (tNil)))) (tCons (tC (.bl true)) (tNil))))) (tCons (tTup (tCons (tTup (tCons (tC (.int 1)) (tCons (tC (.int 0)) (tNil)))) (tCons (tTup (tCons (tC (.int 1)) (tCons (tC (.int 0)) (tNil)))) (tNil)))) (tNil)))))) (tRet (tC (.bl false))) (tNext)) (tSeq (tIfS (tNot (tB (tCall (sp_l_like K) [] E0 (tCons (tCall (sp_l_asked K) [] E0 (tCons (tC (.str "names")) (tCons (tTup (tCons (tTup (tCons (tC (.int 0)) (tCons (tC (.int 1)) (tNil)))) (tCons (tTup (tCons (tC (.int 1)) (tCons (tC (.int 0)) (tNil)))) (tNil)))) (tCons (tC (.bl false)) (tNil))))) (tCons (tTup (tCons (tTup (tCons (tC (.int 1)) (tCons (tC (.int 1)) (tNil)))) (tCons (tTup (tCons (tC (.int 0)) (tCons (tC (.int 0)) (tNil)))) (tNil)))) (tNil)))))) (tRet (tC (.bl false))) (tNext)) (tSeq (tIfS (tNot (tB (tCall (sp_l_like K) [] E0 (tCons (tCall (sp_l_asked K) [] E0 (tCons (tC (.str "corner")) (tCons (tTup (tCons (tTup (tCons (tC (.int 0)) (tCons (tC (.int 1)) (tNil)))) (tCons (tTup (tCons (tC (.int 1)) (tCons (tC (.int 0)) (tNil)))) (tNil)))) (tCons (tC (.bl false)) (tNil))))) (tCons (tTup (tCons (tTup (tCons (tC (.int 2)) (tCons (tC (.int 0)) (tNil)))) (tCons (tTup (tCons (tC (.int 0)) (tCons (tC (.int 0)) (tNil)))) (tNil)))) (tNil)))))) (tRet (tC (.bl false))) (tNext)) (tSeq (tAsg (tCall (sp_l_begin K) [] E0 (tCons (tVar 0) (tNil))) (gName 2)) (tSeq (tFor (iList K (tVar 1)) (gTup K 2 (gCons (gName 3) (gCons (gName 4) (gNil)))) (tIfS (tNot (tB (tCall (sp_l_right K) [] E0 (tCons (tVar 2) (tCons (tVar 3) (tCons (tVar 4) (tNil))))))) (tRet (tC (.bl false))) (tNext))) (tSeq (tFor (iRng1 (tCons (tCB (rMin) (tCons (tCB (rLen K) (tCons (tVar 0) (tNil))) (tCons (tC (.int 2)) (tNil)))) (tNil))) (gName 5) (tSeq (tAsg (tOp (rEq) (tCall (sp_l_draw K) [] E0 (tCons (tVar 2) (tCons (tC (.int 2)) (tNil)))) (tC (.int 0))) (gName 4)) (tSeq (tAsg (tCall (sp_l_table K) [] E0 (tCons (tVar 2) (tCons (tVar 4) (tNil)))) (gName 3)) (tSeq (tAsg (tCall (sp_l_draw K) [] E0 (tCons (tVar 2) (tCons (tC (.int 4)) (tNil)))) (gName 6)) (tSeq (tIfS (tTest (tOp (rI0 fun i j => .bl (decide (i < j))) (tVar 6) (tC (.int 2)))) (tAsg (tCall (sp_l_end K) [] E0 (tCons (tVar 2) (tCons (tVar 3) (tCons (tOp (rI0 fun i j => .bl (decide (i < j))) (tVar 6) (tC (.int 1))) (tCons (tC (.bl true)) (tCons (tVar 4) (tNil))))))) (gName 3)) (tNext)) (tIfS (tOr (tNot (tB (tCall (sp_l_right K) [] E0 (tCons (tVar 2) (tCons (tVar 3) (tCons (tVar 4) (tNil))))))) (tNot (tB (tCall (sp_l_refused K) [] E0 (tCons (tVar 2) (tCons (tVar 3) (tCons (tVar 4) (tNil)))))))) (tRet (tC (.bl false))) (tNext))))))) (tRet (tC (.bl true)))))))))
theorem len_law {K : PySem.W.Frag} {vs : List V} {H : Hp} {Q : VK} {E : XK} (h : sp_law K vs H Q E) : vs.length = 1 := by
  obtain ⟨a, ns, rfl, _⟩ := h
  rfl
theorem run_law (K : PySem.W.Frag) (scr : List (Addr × HO)) (a : Addr) (ns : List Int) (hs : ∀ H : Hp, (∀ p ∈ scr, H p.1 = some p.2) → SqL K H a (ns.map V.int)) (hl : ns.length ≤ 1000) : RunS (scW scr) (t_law K) 0 [.st a, .non, .non, .non, .non, .non, .non] Yes := by
  have show2 : ∀ {sg : Bool} {U : NT} {x y : Nat}, Good sg U x y → Showy (tabN U) := fun {sg U x y} g => .inr ⟨⟨_, .inr rfl⟩, plain_tabN, (sm_tab g).mono (by decide) (by decide)⟩
  refine sa (d := .list ([(T1, true), (T2, false), (T3, true)].map fun p => .tuple [tabN p.1, .bool p.2])) (EvF.p (ef_lst (ea_cons (ep_tup (ea_cons (ep_tup (ea_cons (ep_tup (ea_cons ep_int (ea_cons ep_int ea_nil)) (Nat.le_of_ble_eq_true rfl)) (ea_cons (ep_tup (ea_cons ep_int (ea_cons ep_int ea_nil)) (Nat.le_of_ble_eq_true rfl)) ea_nil)) (Nat.le_of_ble_eq_true rfl)) (ea_cons ep_bl ea_nil)) (Nat.le_of_ble_eq_true rfl))
    (ea_cons (ep_tup (ea_cons (ep_tup (ea_cons (ep_tup (ea_cons ep_int (ea_cons ep_int ea_nil)) (Nat.le_of_ble_eq_true rfl)) (ea_cons (ep_tup (ea_cons ep_int (ea_cons ep_int ea_nil)) (Nat.le_of_ble_eq_true rfl)) ea_nil)) (Nat.le_of_ble_eq_true rfl)) (ea_cons ep_bl ea_nil)) (Nat.le_of_ble_eq_true rfl))
    (ea_cons (ep_tup (ea_cons (ep_tup (ea_cons (ep_tup (ea_cons ep_int (ea_cons ep_int (ea_cons ep_int ea_nil))) (Nat.le_of_ble_eq_true rfl)) (ea_cons (ep_tup (ea_cons ep_int (ea_cons ep_int (ea_cons ep_int ea_nil))) (Nat.le_of_ble_eq_true rfl)) ea_nil)) (Nat.le_of_ble_eq_true rfl)) (ea_cons ep_bl ea_nil)) (Nat.le_of_ble_eq_true rfl)) ea_nil))) (Nat.le_of_ble_eq_true rfl))) ?_
  have t22 : ∀ {ss : List Slot} {p q r s : Int} {U : NT}, tabN U = .tuple [.tuple [.int p, .int q], .tuple [.int r, .int s]] → EvP (tTup (tCons (tTup (tCons (tC (.int p)) (tCons (tC (.int q)) (tNil)))) (tCons (tTup (tCons (tC (.int r)) (tCons (tC (.int s)) (tNil)))) (tNil)))) ss (tabN U) := fun {ss p q r s U} e => by
    rw [e]
    exact ep_tup (ea_cons (ep_tup (ea_cons ep_int (ea_cons ep_int ea_nil)) (by simp)) (ea_cons (ep_tup (ea_cons ep_int (ea_cons ep_int ea_nil)) (by simp)) ea_nil)) (by simp)
  refine sf (et_is (et_not (et_b (ep_like (x := tabN (corn true 2 2 T1)) (ep_is (ep_ask g1 ep_str (t22 rfl) ep_bl) ask_corner) (t22 (by rw [v1]; rfl)) (show2 (corn_good g1))))) rfl) ?_
  refine sf (et_is (et_not (et_b (ep_like (x := tabN (upA false 2 2 T2)) (ep_is (ep_ask g2 ep_str (t22 rfl) ep_bl) ask_names) (t22 (by rw [v2]; rfl)) (show2 (upA_good g2))))) rfl) ?_
  refine sf (et_is (et_not (et_b (ep_like (x := tabN (corn false 2 2 T2)) (ep_is (ep_ask g2 ep_str (t22 rfl) ep_bl) ask_corner) (t22 (by rw [v3]; rfl)) (show2 (corn_good g2))))) rfl) ?_
  refine rs_begin rfl rfl hs hl fun S hS => ?_
  refine sfor (xs := [(T1, true), (T2, false), (T3, true)]) (enc := fun p => .tuple [tabN p.1, .bool p.2]) (f := fun p ss => (ss.set 3 (.d (tabN p.1))).set 4 (.d (.bool p.2)))
    (fun i n' ss' => n' ≤ 360 * i ∧ ∃ s t, ss' = [.st a, .d (.list ([(T1, true), (T2, false), (T3, true)].map fun p => .tuple [tabN p.1, .bool p.2])), .st S.st, s, t, .non, .non]) (wk_list (ep_var rfl)) (fun _ _ => tg_two) ⟨Nat.le_refl _, _, _, rfl⟩ ?_ ?_
  · rintro i ⟨U, sg⟩ n1 _ hi ⟨h1, s, t, rfl⟩
    have hi' : i < 3 := (List.getElem?_eq_some_iff.mp hi).1
    obtain ⟨x, y, gU, hx, hy⟩ : ∃ x y, Good sg U x y ∧ x ≤ 4 ∧ y ≤ 4 := by
      have hm := List.mem_of_getElem? hi
      simp only [List.mem_cons, List.not_mem_nil, or_false, Prod.mk.injEq] at hm
      rcases hm with ⟨rfl, rfl⟩ | ⟨rfl, rfl⟩ | ⟨rfl, rfl⟩
      · exact ⟨2, 2, g1, by decide, by decide⟩
      · exact ⟨2, 2, g2, by decide, by decide⟩
      · exact ⟨2, 3, g3, by decide, by decide⟩
    refine rs_ifS (PT := fun n' b => n' ≤ n1 + 360 ∧ b = false) (et_notS (et_bS ((es_right gU hx hy (by omega) rfl (ep_var rfl) (ep_var rfl)).mono ?_))) ?_ ?_
    · rintro n2 d ⟨h2, h3, rfl⟩
      exact ⟨true, rfl, h3, rfl⟩
    · rintro n2 ⟨_, e⟩
      cases e
    · rintro n2 ⟨h2, _⟩
      exact rs_next ⟨by omega, _, _, rfl⟩
  · rintro n1 _ ⟨h1, s, t, rfl⟩
    have h1 : n1 ≤ 1080 := h1
    refine rs_seq (rs_forN (m := min ns.length 2) (by omega) (fun H σ sl Q q => ?_) ?_)
    · refine ⟨_, sl.fits.state (i := 0) rfl, a, ns.map V.int, rfl, .inl (hs H fun p hp => ?_), ?_⟩
      · have := sl.ok.1.2.2.2.2.2.1 p (by rw [hS]; exact hp)
        exact this.1
      · have hq := q H (Ex.refl H)
        refine ⟨(ns.length : Nat), 2, by rw [List.length_map], ?_⟩
        have e : (if (2 : Int) < (ns.length : Nat) then (2 : Int) else (ns.length : Nat)) = ((min ns.length 2 : Nat) : Int) := by
          split <;> omega
        rw [e]
        exact hq
    refine rs_for (xs := List.range (min ns.length 2)) (enc := natD) (f := fun k ss => ss.set 5 (.d (natD k)))
      wk_itr (fun _ _ => tg_name) (fun i n' ss' => n' ≤ 1080 + 600 * i ∧ ∃ s t u v, ss' = [.st a, .d (.list ([(T1, true), (T2, false), (T3, true)].map fun p => .tuple [tabN p.1, .bool p.2])), .st S.st, s, t, u, v]) ⟨h1, _, _, _, _, rfl⟩ ?_ ?_
    · rintro i k n2 _ hi ⟨h2, s, t, u, v, rfl⟩
      have hi' : i < 2 := by
        have := (List.getElem?_eq_some_iff.mp hi).1
        rw [List.length_range] at this
        omega
      refine saS (P0 := fun n' d => n' = n2 + 1 ∧ ∃ sg : Bool, d = .bool sg) (es_op (es_draw (lim := 2) rfl ep_int (by decide) (by decide) (by omega)) ?_) ?_
      · rintro n3 _ ⟨rfl, r, rfl, _⟩
        exact EvP.s ep_int ⟨_, od_eqI, rfl, _, rfl⟩
      rintro n3 _ ⟨rfl, sg, rfl⟩
      refine saS (es_table (by omega) rfl (ep_var rfl)) ?_
      rintro n4 _ ⟨h3, h4, U, x, y, rfl, gU, hx, hy⟩
      refine saS (es_draw (lim := 4) rfl ep_int (by decide) (by decide) (by omega)) ?_
      rintro n5 _ ⟨rfl, pk, rfl, _⟩
      have fin : ∀ (V : NT) (n6 : Nat), Good sg V x y → n6 ≤ n4 + 121 → RunS (stW S fun _ => False) (tIfS (tOr (tNot (tB (tCall (sp_l_right K) [] E0 (tCons (tVar 2) (tCons (tVar 3) (tCons (tVar 4) (tNil))))))) (tNot (tB (tCall (sp_l_refused K) [] E0 (tCons (tVar 2) (tCons (tVar 3) (tCons (tVar 4) (tNil)))))))) (tRet (tC (.bl false))) (tNext)) n6
          [.st a, .d (.list ([(T1, true), (T2, false), (T3, true)].map fun p => .tuple [tabN p.1, .bool p.2])), .st S.st, .d (tabN V), .d (.bool sg), .d (natD k), .d (natD pk)]
          (Turn' (Then (stW S fun _ => False) (tRet (tC (.bl true))) Yes) (fun n' ss' => n' ≤ 1080 + 600 * (i + 1) ∧ ∃ s t u v, ss' = [.st a, .d (.list ([(T1, true), (T2, false), (T3, true)].map fun p => .tuple [tabN p.1, .bool p.2])), .st S.st, s, t, u, v])) := fun V n6 gV hn6 => by
        refine rs_ifS (PT := fun n' b => n' ≤ n6 + 372 ∧ b = false) (et_orS (P2 := fun n' b => n' ≤ n6 + 360) (et_notS (et_bS ((es_right gV hx hy (by omega) rfl (ep_var rfl) (ep_var rfl)).mono ?_))) fun n7 h7 => et_notS (et_bS ((es_refused gV (by omega) rfl (ep_var rfl) (ep_var rfl)).mono ?_))) ?_ ?_
        · rintro n7 d ⟨h5, h6, rfl⟩
          exact ⟨true, rfl, rfl, h6⟩
        · rintro n8 d ⟨h5, h6, rfl⟩
          exact ⟨true, rfl, by omega, rfl⟩
        · rintro n8 ⟨_, e⟩
          cases e
        · rintro n8 ⟨h5, _⟩
          exact rs_next ⟨by omega, _, _, _, _, rfl⟩
      refine rs_seq (rs_if (b := decide (pk < 2)) (et_is (et_test (ep_op (ep_var rfl) ep_int od_b)) (decide_eq_decide.mpr (by omega))) (fun _ => ?_) fun _ => rs_next (fin U _ gU (by omega)))
      refine rs_asgS (es_endV (al := decide ((pk : Int) < 1)) (ac := true) gU hx hy (by omega) rfl (ep_var rfl) (ep_op (ep_var rfl) ep_int od_b) ep_bl (ep_var rfl)) ?_
      rintro n6 _ ⟨h5, h6, rfl⟩
      exact fin _ _ (end_good gU) (by omega)
    · rintro n2 _ ⟨h2, s, t, u, v, rfl⟩
      exact rs_ret ep_bl ⟨n2, rfl⟩
theorem pure_law {K : PySem.W.Frag} {vs : List V} {H : Hp} {Q : VK} {E : XK} (h : sp_law K vs H Q E) : t_law K { nx := fun _ H' => Q .non H', rt := Q } (L2.start ["_law_script", "_law_some", "_law_state", "_law_table_here", "_law_signed", "_law_turn", "_law_pick"] vs) H := by
  obtain ⟨a, ns, rfl, hs, hl, hq⟩ := h
  obtain ⟨scr, h0, hS⟩ : ∃ scr : List (Addr × HO), (∀ p ∈ scr, H p.1 = some p.2) ∧ ∀ H' : Hp, (∀ p ∈ scr, H' p.1 = some p.2) → SqL K H' a (ns.map V.int) := by
    rcases hs with (h | ⟨o, h⟩) | h
    · exact ⟨[(a, .lst (ns.map V.int))], fun p hp => by rw [List.mem_singleton.mp hp]; exact h, fun H' k => .inl (.inl (k (a, .lst (ns.map V.int)) (by simp)))⟩
    · exact ⟨[(a, .frz o (.lst (ns.map V.int)))], fun p hp => by rw [List.mem_singleton.mp hp]; exact h, fun H' k => .inl (.inr ⟨o, k (a, .frz o (.lst (ns.map V.int))) (by simp)⟩)⟩
    · exact ⟨[], fun p hp => (by cases hp), fun H' _ => .inr h⟩
  have sl : Sl (scW scr) 0 H (L2.start ["_law_script", "_law_some", "_law_state", "_law_table_here", "_law_signed", "_law_turn", "_law_pick"] [.ref a]) [.st a, .non, .non, .non, .non, .non, .non] :=
    ⟨⟨rfl, trivial, trivial, trivial, trivial, trivial, trivial, trivial⟩, by simp [owns, Slot.ow], fun p hp => by simp [owns, Slot.ow] at hp, h0⟩
  refine run_law K scr a ns hS hl _ H _ sl ⟨fun _ _ _ _ p => ?_, fun _ _ _ _ p => ?_, fun _ _ _ _ p => ?_, fun n' d v H' p t ok r => ?_, fun _ _ _ _ _ _ _ p => ?_⟩
  · obtain ⟨_, e⟩ := p; cases e
  · obtain ⟨_, e⟩ := p; cases e
  · obtain ⟨_, e⟩ := p; cases e
  · obtain ⟨n'', e⟩ := p
    cases e
    have ev : v = .bl true := by simpa [Da] using r
    subst ev
    exact hq H'
  · obtain ⟨_, e⟩ := p; cases e
section
variable {P : Program} {w : World} {K : PySem.W.Frag} {mg : Str → Option Value} {base : Heap}
abbrev N_law : List Str := ["_law_script", "_law_some", "_law_state", "_law_table_here", "_law_signed", "_law_turn", "_law_pick"]
theorem sc_law : FnScope N_law ["_law_script"] (defScope s_law) := ⟨rfl, rfl, rfl, by decide +kernel, rfl, by decide +kernel, by decide +kernel⟩
theorem ok_law (T : Tx K mg) {fd : FuncData} (F : FnP K "law" "law" s_law (He.ga K "law") fd) : FnG P w K mg base 23 (He.ga K "law") fd ["_law_script"] (sp_law K) := by
  have nd := sc_law.nd
  obtain ⟨_, G_l_right, b_l_right⟩ := ok_l_right (P := P) (w := w) (base := base) T
  obtain ⟨_, G_l_refused, b_l_refused⟩ := ok_l_refused (P := P) (w := w) (base := base) T
  obtain ⟨_, G_l_end, b_l_end⟩ := ok_l_end (P := P) (w := w) (base := base) T
  obtain ⟨_, G_l_draw, b_l_draw⟩ := ok_l_draw (P := P) (w := w) (base := base) T
  obtain ⟨_, G_l_table, b_l_table⟩ := ok_l_table (P := P) (w := w) (base := base) T
  obtain ⟨_, G_l_begin, b_l_begin⟩ := ok_l_begin (P := P) (w := w) (base := base) T
  obtain ⟨_, G_l_like, b_l_like⟩ := ok_l_like (P := P) (w := w) (base := base) T
  obtain ⟨_, G_l_asked, b_l_asked⟩ := ok_l_asked (P := P) (w := w) (base := base) T
  refine FunD.okG F sc_law (fun vs H Q E h => len_law h) (fun cdv A outer s H vs Q E hG hr h => ⟨t_law K, PSs.nox ?_, pure_law h⟩)
  exact pss_cons (ps_set (i := 1) nd rfl (Or.inl rfl) (pe_lst (pa_cons (pe_tup (pa_cons (pe_tup (pa_cons (pe_tup (pa_cons (pe_int) (pa_cons (pe_int) (pa_nil)))) (pa_cons (pe_tup (pa_cons (pe_int) (pa_cons (pe_int) (pa_nil)))) (pa_nil)))) (pa_cons (pe_bl) (pa_nil)))) (pa_cons (pe_tup (pa_cons (pe_tup (pa_cons (pe_tup (pa_cons (pe_int) (pa_cons (pe_int) (pa_nil)))) (pa_cons (pe_tup (pa_cons (pe_int) (pa_cons (pe_int) (pa_nil)))) (pa_nil)))) (pa_cons (pe_bl) (pa_nil)))) (pa_cons (pe_tup (pa_cons (pe_tup (pa_cons (pe_tup (pa_cons (pe_int) (pa_cons (pe_int) (pa_cons (pe_int) (pa_nil))))) (pa_cons (pe_tup (pa_cons (pe_int) (pa_cons (pe_int) (pa_cons (pe_int) (pa_nil))))) (pa_nil)))) (pa_cons (pe_bl) (pa_nil)))) (pa_nil)))))) (pss_cons (ps_if (pt_not (pt_val (pe_callG G_l_like hG (hr.mono (by omega)) rfl T.g_l_like T.k_l_like b_l_like (pa_cons (pe_call G_l_asked (hr.mono (by omega)) rfl T.g_l_asked T.k_l_asked b_l_asked .nil pass0 (pa_cons (pe_str) (pa_cons (pe_tup (pa_cons (pe_tup (pa_cons (pe_int) (pa_cons (pe_int) (pa_nil)))) (pa_cons (pe_tup (pa_cons (pe_int) (pa_cons (pe_int) (pa_nil)))) (pa_nil)))) (pa_cons (pe_bl) (pa_nil))))) (pa_cons (pe_tup (pa_cons (pe_tup (pa_cons (pe_int) (pa_cons (pe_int) (pa_nil)))) (pa_cons (pe_tup (pa_cons (pe_int) (pa_cons (pe_int) (pa_nil)))) (pa_nil)))) (pa_nil)))))) (pss_one (ps_ret (pe_bl))) (pss_nil)) (pss_cons (ps_if (pt_not (pt_val (pe_callG G_l_like hG (hr.mono (by omega)) rfl T.g_l_like T.k_l_like b_l_like (pa_cons (pe_call G_l_asked (hr.mono (by omega)) rfl T.g_l_asked T.k_l_asked b_l_asked .nil pass0 (pa_cons (pe_str) (pa_cons (pe_tup (pa_cons (pe_tup (pa_cons (pe_int) (pa_cons (pe_int) (pa_nil)))) (pa_cons (pe_tup (pa_cons (pe_int) (pa_cons (pe_int) (pa_nil)))) (pa_nil)))) (pa_cons (pe_bl) (pa_nil))))) (pa_cons (pe_tup (pa_cons (pe_tup (pa_cons (pe_int) (pa_cons (pe_int) (pa_nil)))) (pa_cons (pe_tup (pa_cons (pe_int) (pa_cons (pe_int) (pa_nil)))) (pa_nil)))) (pa_nil)))))) (pss_one (ps_ret (pe_bl))) (pss_nil)) (pss_cons (ps_if (pt_not (pt_val (pe_callG G_l_like hG (hr.mono (by omega)) rfl T.g_l_like T.k_l_like b_l_like (pa_cons (pe_call G_l_asked (hr.mono (by omega)) rfl T.g_l_asked T.k_l_asked b_l_asked .nil pass0 (pa_cons (pe_str) (pa_cons (pe_tup (pa_cons (pe_tup (pa_cons (pe_int) (pa_cons (pe_int) (pa_nil)))) (pa_cons (pe_tup (pa_cons (pe_int) (pa_cons (pe_int) (pa_nil)))) (pa_nil)))) (pa_cons (pe_bl) (pa_nil))))) (pa_cons (pe_tup (pa_cons (pe_tup (pa_cons (pe_int) (pa_cons (pe_int) (pa_nil)))) (pa_cons (pe_tup (pa_cons (pe_int) (pa_cons (pe_int) (pa_nil)))) (pa_nil)))) (pa_nil)))))) (pss_one (ps_ret (pe_bl))) (pss_nil)) (pss_cons (ps_set (i := 2) nd rfl (Or.inl rfl) (pe_call G_l_begin (hr.mono (by omega)) rfl T.g_l_begin T.k_l_begin b_l_begin .nil pass0 (pa_cons (pv 0) (pa_nil)))) (pss_cons (ps_for PassesOwn.never rfl (pi_list (pv 1)) (pg_tup rfl (pgs_cons (pg_name (i := 3) nd rfl (Or.inl rfl)) (pgs_cons (pg_name (i := 4) nd rfl (Or.inl rfl)) (pgs_nil)))) (pss_one (ps_if (pt_not (pt_val (pe_callG G_l_right hG (hr.mono (by omega)) rfl T.g_l_right T.k_l_right b_l_right (pa_cons (pv 2) (pa_cons (pv 3) (pa_cons (pv 4) (pa_nil))))))) (pss_one (ps_ret (pe_bl))) (pss_nil)))) (pss_cons (ps_for PassesOwn.never rfl (pi_range1 rfl T.f_range (pa_cons (pe_callB (call_min2 rfl) (by rfl) T.f_min (by decide +kernel) (pa_cons (pe_callB call_len_seq (by rfl) T.f_len (by decide +kernel) (pa_cons (pv 0) (pa_nil))) (pa_cons (pe_int) (pa_nil)))) (pa_nil))) (pg_name (i := 5) nd rfl (Or.inl rfl)) (pss_cons (ps_set (i := 4) nd rfl (Or.inl rfl) (pe_cmpR op_eq (pe_call G_l_draw (hr.mono (by omega)) rfl T.g_l_draw T.k_l_draw b_l_draw .nil pass0 (pa_cons (pv 2) (pa_cons (pe_int) (pa_nil)))) (pe_int) (nomark _))) (pss_cons (ps_set (i := 3) nd rfl (Or.inl rfl) (pe_call G_l_table (hr.mono (by omega)) rfl T.g_l_table T.k_l_table b_l_table .nil pass0 (pa_cons (pv 2) (pa_cons (pv 4) (pa_nil))))) (pss_cons (ps_set (i := 6) nd rfl (Or.inl rfl) (pe_call G_l_draw (hr.mono (by omega)) rfl T.g_l_draw T.k_l_draw b_l_draw .nil pass0 (pa_cons (pv 2) (pa_cons (pe_int) (pa_nil))))) (pss_cons (ps_if (pt_cmpR op_lt (pv 6) (pe_int) (nomark _)) (pss_one (ps_set (i := 3) nd rfl (Or.inl rfl) (pe_call G_l_end (hr.mono (by omega)) rfl T.g_l_end T.k_l_end b_l_end .nil pass0 (pa_cons (pv 2) (pa_cons (pv 3) (pa_cons (pe_cmpR op_lt (pv 6) (pe_int) (nomark _)) (pa_cons (pe_bl) (pa_cons (pv 4) (pa_nil))))))))) (pss_nil)) (pss_one (ps_if (PW.pt (pw_or (pt_not (pt_val (pe_callG G_l_right hG (hr.mono (by omega)) rfl T.g_l_right T.k_l_right b_l_right (pa_cons (pv 2) (pa_cons (pv 3) (pa_cons (pv 4) (pa_nil))))))) (pw_or1 (pt_not (pt_val (pe_callG G_l_refused hG (hr.mono (by omega)) rfl T.g_l_refused T.k_l_refused b_l_refused (pa_cons (pv 2) (pa_cons (pv 3) (pa_cons (pv 4) (pa_nil)))))))))) (pss_one (ps_ret (pe_bl))) (pss_nil)))))))) (pss_one (ps_ret (pe_bl)))))))))
end
end Uh

set_option Elab.async false
set_option linter.all false
set_option maxRecDepth 100000
set_option maxHeartbeats 0
namespace Uh
open PySem PySem.Spec PyProof.Rows L2
theorem tx_of {K : PySem.W.Frag} {h : Heap} {mg : Str → Option Value} (KI : K.In h) (G : h.Ns mainGlobals mg) (c : obsK K = valU) : Tx K mg := ⟨c, fun x v e => PySem.W.mg_of KI G e, fun x e => PySem.W.mg_none_of KI G e⟩
theorem facts {P : Program} {w : World} {K : PySem.W.Frag} {h : Heap} {mg : Str → Option Value} {f : Addr} (KI : K.In h) (G : h.Ns mainGlobals mg) (hfa : mg ("law" : Str) = some (.ref f)) (c : obsK K = valU) :
    ∃ fd : FuncData, (∀ (s : Shared) (v : Value), BindsTo s fd ⟨[v], []⟩ [("_law_script", v)]) ∧ ∀ base : Heap, K.In base → base.Ns mainGlobals mg → FnG P w K mg base 23 f fd ["_law_script"] (sp_law K) := by
  have T := tx_of KI G c
  have e := hfa.symm.trans T.g_law
  cases e
  obtain ⟨fd, F⟩ := T.d_law
  have b := FunD.bindsA (ps := ["_law_script"]) F fun _ _ _ _ _ _ us hl => match us, hl with | [_], _ => rfl
  refine ⟨fd, fun s v => b s [v] rfl, fun base KB GB => ?_⟩
  exact ok_law T F
end Uh
open PySem PySem.W PySem.Calls PyProof.Rows
theorem PySem.Challenge.cw_unithouse_k62_whole_corners_holds : PySem.Challenge.rw_unithouse_k62_whole_corners.Holds := by
  w_on; o_law
  refine HandSHeadRun.head_any (r := OpenLaw.row PySem.Challenge.rw_unithouse_k62_whole_corners) (q := view (OpenLaw.row PySem.Challenge.rw_unithouse_k62_whole_corners).prog [113]) (H := Uh.hkU) (ob := Uh.ob) (M := 6000) (loose := Uh.nms) (d := HandSHeadRun.topDef (OpenLaw.row PySem.Challenge.rw_unithouse_k62_whole_corners).prog 113) (kwd := []) Uh.ob_eq
    (by kernel_rfl) (fun s => by kernel_rfl) Uh.run (by kernel_rfl) (by kernel_rfl) (by kernel_rfl) (by rfl) (by first | assumption | decide +kernel) (by decide +kernel) ⟨rfl, rfl, rfl, rfl, rfl, by decide +kernel⟩ ?hw ?hc
  case hw => w_witness2
  case hc =>
    refine Uh.walk_ofG (l := PySem.Challenge.rw_unithouse_k62_whole_corners) (n := 63) (k := 23) (x := "_law_script") rfl (by decide) (by kernel_rfl) ⟨rfl, by decide, by decide⟩ ?F
    intro w mg fa h Y G hmg0
    obtain ⟨K, KX, c⟩ := Y
    have hmg : mg ("law" : PySem.Str) = some (.ref fa) := by
      have e : (HandSHeadRun.topDef (OpenLaw.row PySem.Challenge.rw_unithouse_k62_whole_corners).prog 113).name = ("law" : PySem.Str) := by kernel_rfl
      rw [← e]
      exact hmg0
    obtain ⟨fd, hb, hF⟩ := Uh.facts (P := (PySem.Challenge.rw_unithouse_k62_whole_corners).prog) (w := w) KX G hmg c
    exact ⟨K, fd, Uh.sp_law K, KX, hb, fun H a ns hl _ hS => ⟨a, ns, rfl, hS, by omega, fun _ => rfl⟩, hF⟩

