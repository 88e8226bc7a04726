/-
 Each function that the law reaches is as its plain model says, second part. No condition.
-/
import Derived.Test.YtcoofjaonlccjaaGreatDoorRw
set_option linter.all false
set_option maxRecDepth 100000
namespace Go.Proofs.SeatA
open Go.Dn Go.Md Go.Proofs

def anns_order_LinesAt : List (Nat × Ann) := [(6, ⟨[(10, .own 52 t_api_State), (24, .rowR 60688), (25, .val tI), (26, .val tI)], [], [.rowC 60688 101 .hnd, .ar t_order_line], fuelOf _⟩),
 (200006, ⟨[(10, .own 52 t_api_State)], [], [.ar t_order_line], fun _ => 0⟩)]

noncomputable def sp_order_LinesAt : FSpec := ⟨[.val t_api_Order, .val (.slice t_api_Deed), .val tI], [.val (.slice t_api_State), .val tI], fun x => order_LinesAt x.1 x.2.1 x.2.2.1⟩

noncomputable def cx_order_LinesAt : Cx := ⟨Tryz.prog, [(55, sp_order_at_e), (55, sp_order_at), (56, sp_order_follower_sorted), (57, sp_order_line_state)], []⟩

theorem den_order_LinesAt : ∀ x, denF cx_order_LinesAt anns_order_LinesAt (some t_order_line) Tryz.f23 sp_order_LinesAt x = sp_order_LinesAt.m x := by intro x; kernel_rfl

theorem hb_order_LinesAt : HasBody Tryz.prog 23 := has_body (fn := Tryz.f23) (by kernel_rfl) rfl (by decide)

theorem ok_order_LinesAt : FunOk Tryz.prog 23 sp_order_LinesAt := fun_ok (X := cx_order_LinesAt) (.cons ok_order_at_e hb_order_at_e (.cons ok_order_at hb_order_at (.cons ok_order_follower_sorted hb_order_follower_sorted (.cons ok_order_line_state hb_order_line_state (.nil _))))) (by kernel_rfl) sp_order_LinesAt anns_order_LinesAt (some t_order_line) (by kernel_rfl) (fun x y h => (den_order_LinesAt x).trans h)

def anns_internal_stringslite_HasSuffix : List (Nat × Ann) := []

noncomputable def sp_internal_stringslite_HasSuffix : FSpec := ⟨[.val .str, .val .str], [.val .bool], fun x => internal_stringslite_HasSuffix x.1 x.2.1⟩

noncomputable def cx_internal_stringslite_HasSuffix : Cx := ⟨Tryz.prog, [], []⟩

theorem den_internal_stringslite_HasSuffix : ∀ x, denF cx_internal_stringslite_HasSuffix anns_internal_stringslite_HasSuffix none Tryz.f196 sp_internal_stringslite_HasSuffix x = sp_internal_stringslite_HasSuffix.m x := by intro x; kernel_rfl

theorem hb_internal_stringslite_HasSuffix : HasBody Tryz.prog 196 := has_body (fn := Tryz.f196) (by kernel_rfl) rfl (by decide)

theorem ok_internal_stringslite_HasSuffix : FunOk Tryz.prog 196 sp_internal_stringslite_HasSuffix := fun_ok (X := cx_internal_stringslite_HasSuffix) (.nil _) (by kernel_rfl) sp_internal_stringslite_HasSuffix anns_internal_stringslite_HasSuffix none (by kernel_rfl) (fun x y h => (den_internal_stringslite_HasSuffix x).trans h)

def anns_internal_stringslite_CutSuffix : List (Nat × Ann) := []

noncomputable def sp_internal_stringslite_CutSuffix : FSpec := ⟨[.val .str, .val .str], [.val .str, .val .bool], fun x => internal_stringslite_CutSuffix x.1 x.2.1⟩

noncomputable def cx_internal_stringslite_CutSuffix : Cx := ⟨Tryz.prog, [(196, sp_internal_stringslite_HasSuffix)], []⟩

theorem den_internal_stringslite_CutSuffix : ∀ x, denF cx_internal_stringslite_CutSuffix anns_internal_stringslite_CutSuffix none Tryz.f172 sp_internal_stringslite_CutSuffix x = sp_internal_stringslite_CutSuffix.m x := by intro x; kernel_rfl

theorem hb_internal_stringslite_CutSuffix : HasBody Tryz.prog 172 := has_body (fn := Tryz.f172) (by kernel_rfl) rfl (by decide)

theorem ok_internal_stringslite_CutSuffix : FunOk Tryz.prog 172 sp_internal_stringslite_CutSuffix := fun_ok (X := cx_internal_stringslite_CutSuffix) (.cons ok_internal_stringslite_HasSuffix hb_internal_stringslite_HasSuffix (.nil _)) (by kernel_rfl) sp_internal_stringslite_CutSuffix anns_internal_stringslite_CutSuffix none (by kernel_rfl) (fun x y h => (den_internal_stringslite_CutSuffix x).trans h)

def anns_strings_CutSuffix : List (Nat × Ann) := []

noncomputable def sp_strings_CutSuffix : FSpec := ⟨[.val .str, .val .str], [.val .str, .val .bool], fun x => strings_CutSuffix x.1 x.2.1⟩

noncomputable def cx_strings_CutSuffix : Cx := ⟨Tryz.prog, [(172, sp_internal_stringslite_CutSuffix)], []⟩

theorem den_strings_CutSuffix : ∀ x, denF cx_strings_CutSuffix anns_strings_CutSuffix none Tryz.f121 sp_strings_CutSuffix x = sp_strings_CutSuffix.m x := by intro x; kernel_rfl

theorem hb_strings_CutSuffix : HasBody Tryz.prog 121 := has_body (fn := Tryz.f121) (by kernel_rfl) rfl (by decide)

theorem ok_strings_CutSuffix : FunOk Tryz.prog 121 sp_strings_CutSuffix := fun_ok (X := cx_strings_CutSuffix) (.cons ok_internal_stringslite_CutSuffix hb_internal_stringslite_CutSuffix (.nil _)) (by kernel_rfl) sp_strings_CutSuffix anns_strings_CutSuffix none (by kernel_rfl) (fun x y h => (den_strings_CutSuffix x).trans h)

def anns_kit_Lines : List (Nat × Ann) := []

noncomputable def sp_kit_Lines : FSpec := ⟨[.val .str], [.val (.slice .str), .val .bool], fun x => kit_Lines x.1⟩

noncomputable def cx_kit_Lines : Cx := ⟨Tryz.prog, [(121, sp_strings_CutSuffix), (122, sp_strings_Split)], []⟩

theorem den_kit_Lines : ∀ x, denF cx_kit_Lines anns_kit_Lines none Tryz.f81 sp_kit_Lines x = sp_kit_Lines.m x := by intro x; kernel_rfl

theorem hb_kit_Lines : HasBody Tryz.prog 81 := has_body (fn := Tryz.f81) (by kernel_rfl) rfl (by decide)

theorem ok_kit_Lines : FunOk Tryz.prog 81 sp_kit_Lines := fun_ok (X := cx_kit_Lines) (.cons ok_strings_CutSuffix hb_strings_CutSuffix (.cons ok_strings_Split hb_strings_Split (.nil _))) (by kernel_rfl) sp_kit_Lines anns_kit_Lines none (by kernel_rfl) (fun x y h => (den_kit_Lines x).trans h)

def anns_kit_Words : List (Nat × Ann) := [(3, ⟨[(4, .rowR 27920), (9, .rowR 27920), (10, .val tI), (11, .val tI)], [], [.rowC 27920 9 .str], fuelOf _⟩),
 (200003, ⟨[(4, .rowR 27920)], [], [.rowC 27920 9 .str], fun _ => 0⟩)]

noncomputable def sp_kit_Words : FSpec := ⟨[.val .str], [.val (.slice .str), .val .bool], fun x => kit_Words x.1⟩

noncomputable def cx_kit_Words : Cx := ⟨Tryz.prog, [(122, sp_strings_Split)], []⟩

theorem den_kit_Words : ∀ x, denF cx_kit_Words anns_kit_Words none Tryz.f123 sp_kit_Words x = sp_kit_Words.m x := by intro x; kernel_rfl

theorem hb_kit_Words : HasBody Tryz.prog 123 := has_body (fn := Tryz.f123) (by kernel_rfl) rfl (by decide)

theorem ok_kit_Words : FunOk Tryz.prog 123 sp_kit_Words := fun_ok (X := cx_kit_Words) (.cons ok_strings_Split hb_strings_Split (.nil _)) (by kernel_rfl) sp_kit_Words anns_kit_Words none (by kernel_rfl) (fun x y h => (den_kit_Words x).trans h)

def anns_order_words_next : List (Nat × Ann) := []

noncomputable def sp_order_words_next : FSpec := ⟨[.box [.val (.slice .str), .val .bool]], [.val .str], fun x => order_words_next x.1⟩

noncomputable def cx_order_words_next : Cx := ⟨Tryz.prog, [], []⟩

theorem den_order_words_next : ∀ x, denF cx_order_words_next anns_order_words_next none Tryz.f128 sp_order_words_next x = sp_order_words_next.m x := by intro x; kernel_rfl

theorem hb_order_words_next : HasBody Tryz.prog 128 := has_body (fn := Tryz.f128) (by kernel_rfl) rfl (by decide)

theorem ok_order_words_next : FunOk Tryz.prog 128 sp_order_words_next := fun_ok (X := cx_order_words_next) (.nil _) (by kernel_rfl) sp_order_words_next anns_order_words_next none (by kernel_rfl) (fun x y h => (den_order_words_next x).trans h)

def anns_order_words_number : List (Nat × Ann) := []

noncomputable def sp_order_words_number : FSpec := ⟨[.box [.val (.slice .str), .val .bool]], [.val tI], fun x => order_words_number x.1⟩

noncomputable def cx_order_words_number : Cx := ⟨Tryz.prog, [(128, sp_order_words_next), (174, sp_kit_Number)], []⟩

theorem den_order_words_number : ∀ x, denF cx_order_words_number anns_order_words_number none Tryz.f124 sp_order_words_number x = sp_order_words_number.m x := by intro x; kernel_rfl

theorem hb_order_words_number : HasBody Tryz.prog 124 := has_body (fn := Tryz.f124) (by kernel_rfl) rfl (by decide)

theorem ok_order_words_number : FunOk Tryz.prog 124 sp_order_words_number := fun_ok (X := cx_order_words_number) (.cons ok_order_words_next hb_order_words_next (.cons ok_kit_Number hb_kit_Number (.nil _))) (by kernel_rfl) sp_order_words_number anns_order_words_number none (by kernel_rfl) (fun x y h => (den_order_words_number x).trans h)

def anns_order_byWords : List (Nat × Ann) := []

noncomputable def sp_order_byWords : FSpec := ⟨[], [.val (.slice .str)], fun x => order_byWords ⟩

noncomputable def cx_order_byWords : Cx := ⟨Tryz.prog, [], []⟩

theorem den_order_byWords : ∀ x, denF cx_order_byWords anns_order_byWords none Tryz.f126 sp_order_byWords x = sp_order_byWords.m x := by intro x; kernel_rfl

theorem hb_order_byWords : HasBody Tryz.prog 126 := has_body (fn := Tryz.f126) (by kernel_rfl) rfl (by decide)

theorem ok_order_byWords : FunOk Tryz.prog 126 sp_order_byWords := fun_ok (X := cx_order_byWords) (.nil _) (by kernel_rfl) sp_order_byWords anns_order_byWords none (by kernel_rfl) (fun x y h => (den_order_byWords x).trans h)

def anns_slices_Index_string : List (Nat × Ann) := [(2, ⟨[(0, .val (.slice .str)), (1, .val .str), (7, .val tI), (8, .val tI)], [], [], fuelOf _⟩),
 (200002, ⟨[], [], [], fun _ => 0⟩)]

noncomputable def sp_slices_Index_string : FSpec := ⟨[.val (.slice .str), .val .str], [.val tI], fun x => slices_Index_string x.1 x.2.1⟩

noncomputable def cx_slices_Index_string : Cx := ⟨Tryz.prog, [], []⟩

theorem den_slices_Index_string : ∀ x, denF cx_slices_Index_string anns_slices_Index_string none Tryz.f175 sp_slices_Index_string x = sp_slices_Index_string.m x := by intro x; kernel_rfl

theorem hb_slices_Index_string : HasBody Tryz.prog 175 := has_body (fn := Tryz.f175) (by kernel_rfl) rfl (by decide)

theorem ok_slices_Index_string : FunOk Tryz.prog 175 sp_slices_Index_string := fun_ok (X := cx_slices_Index_string) (.nil _) (by kernel_rfl) sp_slices_Index_string anns_slices_Index_string none (by kernel_rfl) (fun x y h => (den_slices_Index_string x).trans h)

def anns_order_words_index : List (Nat × Ann) := []

noncomputable def sp_order_words_index : FSpec := ⟨[.box [.val (.slice .str), .val .bool], .val (.slice .str)], [.val tI], fun x => order_words_index x.1 x.2.1⟩

noncomputable def cx_order_words_index : Cx := ⟨Tryz.prog, [(128, sp_order_words_next), (175, sp_slices_Index_string)], []⟩

theorem den_order_words_index : ∀ x, denF cx_order_words_index anns_order_words_index none Tryz.f125 sp_order_words_index x = sp_order_words_index.m x := by intro x; kernel_rfl

theorem hb_order_words_index : HasBody Tryz.prog 125 := has_body (fn := Tryz.f125) (by kernel_rfl) rfl (by decide)

theorem ok_order_words_index : FunOk Tryz.prog 125 sp_order_words_index := fun_ok (X := cx_order_words_index) (.cons ok_order_words_next hb_order_words_next (.cons ok_slices_Index_string hb_slices_Index_string (.nil _))) (by kernel_rfl) sp_order_words_index anns_order_words_index none (by kernel_rfl) (fun x y h => (den_order_words_index x).trans h)

def anns_order_kindWords : List (Nat × Ann) := []

noncomputable def sp_order_kindWords : FSpec := ⟨[], [.val (.slice .str)], fun x => order_kindWords ⟩

noncomputable def cx_order_kindWords : Cx := ⟨Tryz.prog, [], []⟩

theorem den_order_kindWords : ∀ x, denF cx_order_kindWords anns_order_kindWords none Tryz.f127 sp_order_kindWords x = sp_order_kindWords.m x := by intro x; kernel_rfl

theorem hb_order_kindWords : HasBody Tryz.prog 127 := has_body (fn := Tryz.f127) (by kernel_rfl) rfl (by decide)

theorem ok_order_kindWords : FunOk Tryz.prog 127 sp_order_kindWords := fun_ok (X := cx_order_kindWords) (.nil _) (by kernel_rfl) sp_order_kindWords anns_order_kindWords none (by kernel_rfl) (fun x y h => (den_order_kindWords x).trans h)

def anns_internal_stringslite_HasPrefix : List (Nat × Ann) := []

noncomputable def sp_internal_stringslite_HasPrefix : FSpec := ⟨[.val .str, .val .str], [.val .bool], fun x => internal_stringslite_HasPrefix x.1 x.2.1⟩

noncomputable def cx_internal_stringslite_HasPrefix : Cx := ⟨Tryz.prog, [], []⟩

theorem den_internal_stringslite_HasPrefix : ∀ x, denF cx_internal_stringslite_HasPrefix anns_internal_stringslite_HasPrefix none Tryz.f235 sp_internal_stringslite_HasPrefix x = sp_internal_stringslite_HasPrefix.m x := by intro x; kernel_rfl

theorem hb_internal_stringslite_HasPrefix : HasBody Tryz.prog 235 := has_body (fn := Tryz.f235) (by kernel_rfl) rfl (by decide)

theorem ok_internal_stringslite_HasPrefix : FunOk Tryz.prog 235 sp_internal_stringslite_HasPrefix := fun_ok (X := cx_internal_stringslite_HasPrefix) (.nil _) (by kernel_rfl) sp_internal_stringslite_HasPrefix anns_internal_stringslite_HasPrefix none (by kernel_rfl) (fun x y h => (den_internal_stringslite_HasPrefix x).trans h)

def anns_internal_stringslite_CutPrefix : List (Nat × Ann) := []

noncomputable def sp_internal_stringslite_CutPrefix : FSpec := ⟨[.val .str, .val .str], [.val .str, .val .bool], fun x => internal_stringslite_CutPrefix x.1 x.2.1⟩

noncomputable def cx_internal_stringslite_CutPrefix : Cx := ⟨Tryz.prog, [(235, sp_internal_stringslite_HasPrefix)], []⟩

theorem den_internal_stringslite_CutPrefix : ∀ x, denF cx_internal_stringslite_CutPrefix anns_internal_stringslite_CutPrefix none Tryz.f223 sp_internal_stringslite_CutPrefix x = sp_internal_stringslite_CutPrefix.m x := by intro x; kernel_rfl

theorem hb_internal_stringslite_CutPrefix : HasBody Tryz.prog 223 := has_body (fn := Tryz.f223) (by kernel_rfl) rfl (by decide)

theorem ok_internal_stringslite_CutPrefix : FunOk Tryz.prog 223 sp_internal_stringslite_CutPrefix := fun_ok (X := cx_internal_stringslite_CutPrefix) (.cons ok_internal_stringslite_HasPrefix hb_internal_stringslite_HasPrefix (.nil _)) (by kernel_rfl) sp_internal_stringslite_CutPrefix anns_internal_stringslite_CutPrefix none (by kernel_rfl) (fun x y h => (den_internal_stringslite_CutPrefix x).trans h)

def anns_strings_CutPrefix : List (Nat × Ann) := []

noncomputable def sp_strings_CutPrefix : FSpec := ⟨[.val .str, .val .str], [.val .str, .val .bool], fun x => strings_CutPrefix x.1 x.2.1⟩

noncomputable def cx_strings_CutPrefix : Cx := ⟨Tryz.prog, [(223, sp_internal_stringslite_CutPrefix)], []⟩

theorem den_strings_CutPrefix : ∀ x, denF cx_strings_CutPrefix anns_strings_CutPrefix none Tryz.f202 sp_strings_CutPrefix x = sp_strings_CutPrefix.m x := by intro x; kernel_rfl

theorem hb_strings_CutPrefix : HasBody Tryz.prog 202 := has_body (fn := Tryz.f202) (by kernel_rfl) rfl (by decide)

theorem ok_strings_CutPrefix : FunOk Tryz.prog 202 sp_strings_CutPrefix := fun_ok (X := cx_strings_CutPrefix) (.cons ok_internal_stringslite_CutPrefix hb_internal_stringslite_CutPrefix (.nil _)) (by kernel_rfl) sp_strings_CutPrefix anns_strings_CutPrefix none (by kernel_rfl) (fun x y h => (den_strings_CutPrefix x).trans h)

def anns_internal_stringslite_Index : List (Nat × Ann) := []

noncomputable def sp_internal_stringslite_Index : FSpec := ⟨[.val .str, .val .str], [.val tI], fun x => internal_stringslite_Index x.1 x.2.1⟩

noncomputable def cx_internal_stringslite_Index : Cx := ⟨Tryz.prog, [(228, sp_internal_stringslite_IndexByte)], []⟩

theorem den_internal_stringslite_Index : ∀ x, denF cx_internal_stringslite_Index anns_internal_stringslite_Index none Tryz.f219 sp_internal_stringslite_Index x = sp_internal_stringslite_Index.m x := by intro x; kernel_rfl

theorem hb_internal_stringslite_Index : HasBody Tryz.prog 219 := has_body (fn := Tryz.f219) (by kernel_rfl) rfl (by decide)

theorem ok_internal_stringslite_Index : FunOk Tryz.prog 219 sp_internal_stringslite_Index := fun_ok (X := cx_internal_stringslite_Index) (.cons ok_internal_stringslite_IndexByte hb_internal_stringslite_IndexByte (.nil _)) (by kernel_rfl) sp_internal_stringslite_Index anns_internal_stringslite_Index none (by kernel_rfl) (fun x y h => (den_internal_stringslite_Index x).trans h)

def anns_internal_stringslite_Cut : List (Nat × Ann) := []

noncomputable def sp_internal_stringslite_Cut : FSpec := ⟨[.val .str, .val .str], [.val .str, .val .str, .val .bool], fun x => internal_stringslite_Cut x.1 x.2.1⟩

noncomputable def cx_internal_stringslite_Cut : Cx := ⟨Tryz.prog, [(219, sp_internal_stringslite_Index)], []⟩

theorem den_internal_stringslite_Cut : ∀ x, denF cx_internal_stringslite_Cut anns_internal_stringslite_Cut none Tryz.f224 sp_internal_stringslite_Cut x = sp_internal_stringslite_Cut.m x := by intro x; kernel_rfl

theorem hb_internal_stringslite_Cut : HasBody Tryz.prog 224 := has_body (fn := Tryz.f224) (by kernel_rfl) rfl (by decide)

theorem ok_internal_stringslite_Cut : FunOk Tryz.prog 224 sp_internal_stringslite_Cut := fun_ok (X := cx_internal_stringslite_Cut) (.cons ok_internal_stringslite_Index hb_internal_stringslite_Index (.nil _)) (by kernel_rfl) sp_internal_stringslite_Cut anns_internal_stringslite_Cut none (by kernel_rfl) (fun x y h => (den_internal_stringslite_Cut x).trans h)

def anns_strings_Cut : List (Nat × Ann) := []

noncomputable def sp_strings_Cut : FSpec := ⟨[.val .str, .val .str], [.val .str, .val .str, .val .bool], fun x => strings_Cut x.1 x.2.1⟩

noncomputable def cx_strings_Cut : Cx := ⟨Tryz.prog, [(224, sp_internal_stringslite_Cut)], []⟩

theorem den_strings_Cut : ∀ x, denF cx_strings_Cut anns_strings_Cut none Tryz.f203 sp_strings_Cut x = sp_strings_Cut.m x := by intro x; kernel_rfl

theorem hb_strings_Cut : HasBody Tryz.prog 203 := has_body (fn := Tryz.f203) (by kernel_rfl) rfl (by decide)

theorem ok_strings_Cut : FunOk Tryz.prog 203 sp_strings_Cut := fun_ok (X := cx_strings_Cut) (.cons ok_internal_stringslite_Cut hb_internal_stringslite_Cut (.nil _)) (by kernel_rfl) sp_strings_Cut anns_strings_Cut none (by kernel_rfl) (fun x y h => (den_strings_Cut x).trans h)

def anns_amount_isWhole : List (Nat × Ann) := [(300001, ⟨[(2, .val .bool)], [], [], fun _ => 0⟩)]

noncomputable def sp_amount_isWhole : FSpec := ⟨[.val .str], [.val .bool], fun x => amount_isWhole x.1⟩

noncomputable def cx_amount_isWhole : Cx := ⟨Tryz.prog, [(200, sp_kit_IsDigits)], []⟩

theorem den_amount_isWhole : ∀ x, denF cx_amount_isWhole anns_amount_isWhole none Tryz.f204 sp_amount_isWhole x = sp_amount_isWhole.m x := by intro x; kernel_rfl

theorem hb_amount_isWhole : HasBody Tryz.prog 204 := has_body (fn := Tryz.f204) (by kernel_rfl) rfl (by decide)

theorem ok_amount_isWhole : FunOk Tryz.prog 204 sp_amount_isWhole := fun_ok (X := cx_amount_isWhole) (.cons ok_kit_IsDigits hb_kit_IsDigits (.nil _)) (by kernel_rfl) sp_amount_isWhole anns_amount_isWhole none (by kernel_rfl) (fun x y h => (den_amount_isWhole x).trans h)

def anns_whole_Int_Times : List (Nat × Ann) := [(3, ⟨[(2, .ref 2 0), (3, .ref 3 0), (4, .ref 4 0), (5, .rowR 18), (20, .val (.slice (.int .u32))), (21, .val tI), (22, .val tI)], [(2, [.val .bool, .val (.slice (.int .u32))]), (3, [.val .bool, .val (.slice (.int .u32))]), (4, [.val .bool, .own 163 (.int .u32)])], [.rowC 18 163 (.int .u32)], fuelOf _⟩),
 (7, ⟨[(2, .ref 2 0), (3, .ref 3 0), (4, .ref 4 0), (5, .rowR 18), (6, .val tI), (7, .val (.int .u32)), (8, .val (.int .u64)), (20, .val (.slice (.int .u32))), (21, .val tI), (22, .val tI), (28, .val (.slice (.int .u32))), (29, .val tI), (30, .val tI)], [(2, [.val .bool, .val (.slice (.int .u32))]), (3, [.val .bool, .val (.slice (.int .u32))]), (4, [.val .bool, .own 163 (.int .u32)])], [.rowC 18 163 (.int .u32)], fuelOf _⟩),
 (200003, ⟨[(2, .ref 2 0), (3, .ref 3 0), (4, .ref 4 0), (5, .rowR 18)], [(2, [.val .bool, .val (.slice (.int .u32))]), (3, [.val .bool, .val (.slice (.int .u32))]), (4, [.val .bool, .own 163 (.int .u32)])], [.rowC 18 163 (.int .u32)], fun _ => 0⟩),
 (200007, ⟨[(2, .ref 2 0), (3, .ref 3 0), (4, .ref 4 0), (5, .rowR 18), (6, .val tI), (8, .val (.int .u64)), (20, .val (.slice (.int .u32))), (21, .val tI), (22, .val tI)], [(2, [.val .bool, .val (.slice (.int .u32))]), (3, [.val .bool, .val (.slice (.int .u32))]), (4, [.val .bool, .own 163 (.int .u32)])], [.rowC 18 163 (.int .u32)], fun _ => 0⟩)]

noncomputable def sp_whole_Int_Times : FSpec := ⟨[.val t_whole_Int, .val t_whole_Int], [.val t_whole_Int], fun x => whole_Int_Times x.1 x.2.1⟩

noncomputable def cx_whole_Int_Times : Cx := ⟨Tryz.prog, [(184, sp_whole_made)], []⟩

theorem den_whole_Int_Times : ∀ x, denF cx_whole_Int_Times anns_whole_Int_Times none Tryz.f225 sp_whole_Int_Times x = sp_whole_Int_Times.m x := by intro x; kernel_rfl

theorem hb_whole_Int_Times : HasBody Tryz.prog 225 := has_body (fn := Tryz.f225) (by kernel_rfl) rfl (by decide)

theorem ok_whole_Int_Times : FunOk Tryz.prog 225 sp_whole_Int_Times := fun_ok (X := cx_whole_Int_Times) (.cons ok_whole_made hb_whole_made (.nil _)) (by kernel_rfl) sp_whole_Int_Times anns_whole_Int_Times none (by kernel_rfl) (fun x y h => (den_whole_Int_Times x).trans h)

def anns_whole_Int_Plus : List (Nat × Ann) := []

noncomputable def sp_whole_Int_Plus : FSpec := ⟨[.val t_whole_Int, .val t_whole_Int], [.val t_whole_Int], fun x => whole_Int_Plus x.1 x.2.1⟩

noncomputable def cx_whole_Int_Plus : Cx := ⟨Tryz.prog, [(184, sp_whole_made), (207, sp_whole_sum_v), (209, sp_whole_compare), (210, sp_whole_less)], []⟩

theorem den_whole_Int_Plus : ∀ x, denF cx_whole_Int_Plus anns_whole_Int_Plus none Tryz.f226 sp_whole_Int_Plus x = sp_whole_Int_Plus.m x := by intro x; kernel_rfl

theorem hb_whole_Int_Plus : HasBody Tryz.prog 226 := has_body (fn := Tryz.f226) (by kernel_rfl) rfl (by decide)

theorem ok_whole_Int_Plus : FunOk Tryz.prog 226 sp_whole_Int_Plus := fun_ok (X := cx_whole_Int_Plus) (.cons ok_whole_made hb_whole_made (.cons ok_whole_sum_v hb_whole_sum_v (.cons ok_whole_compare hb_whole_compare (.cons ok_whole_less hb_whole_less (.nil _))))) (by kernel_rfl) sp_whole_Int_Plus anns_whole_Int_Plus none (by kernel_rfl) (fun x y h => (den_whole_Int_Plus x).trans h)

def anns_amount_read : List (Nat × Ann) := [(3, ⟨[(0, .val .bool), (1, .val .str), (2, .val .str), (6, .ref 6 0), (8, .ref 8 0), (14, .val tI), (15, .val tI)], [(6, [.val tI, .val tI]), (8, [.val .bool, .val (.slice (.int .u32))])], [], fuelOf _⟩),
 (200003, ⟨[(0, .val .bool), (2, .val .str), (6, .ref 6 0), (8, .ref 8 0)], [(6, [.val tI, .val tI]), (8, [.val .bool, .val (.slice (.int .u32))])], [], fun _ => 0⟩)]

noncomputable def sp_amount_read : FSpec := ⟨[.val .bool, .val .str, .val .str], [.val t_api_Decimal, .val tI], fun x => amount_read x.1 x.2.1 x.2.2.1⟩

noncomputable def cx_amount_read : Cx := ⟨Tryz.prog, [(146, sp_whole_Of), (181, sp_whole_Int_Sign), (182, sp_whole_Int_Minus), (183, sp_amount_Made), (225, sp_whole_Int_Times), (226, sp_whole_Int_Plus)], []⟩

theorem den_amount_read : ∀ x, denF cx_amount_read anns_amount_read none Tryz.f205 sp_amount_read x = sp_amount_read.m x := by intro x; kernel_rfl

theorem hb_amount_read : HasBody Tryz.prog 205 := has_body (fn := Tryz.f205) (by kernel_rfl) rfl (by decide)

theorem ok_amount_read : FunOk Tryz.prog 205 sp_amount_read := fun_ok (X := cx_amount_read) (.cons ok_whole_Of hb_whole_Of (.cons ok_whole_Int_Sign hb_whole_Int_Sign (.cons ok_whole_Int_Minus hb_whole_Int_Minus (.cons ok_amount_Made hb_amount_Made (.cons ok_whole_Int_Times hb_whole_Int_Times (.cons ok_whole_Int_Plus hb_whole_Int_Plus (.nil _))))))) (by kernel_rfl) sp_amount_read anns_amount_read none (by kernel_rfl) (fun x y h => (den_amount_read x).trans h)

def anns_amount_ReadText : List (Nat × Ann) := [(300003, ⟨[(40, .val .bool)], [], [], fun _ => 0⟩)]

noncomputable def sp_amount_ReadText : FSpec := ⟨[.val .str], [.val t_api_Decimal, .val tI], fun x => amount_ReadText x.1⟩

noncomputable def cx_amount_ReadText : Cx := ⟨Tryz.prog, [(200, sp_kit_IsDigits), (202, sp_strings_CutPrefix), (203, sp_strings_Cut), (204, sp_amount_isWhole), (205, sp_amount_read)], []⟩

theorem den_amount_ReadText : ∀ x, denF cx_amount_ReadText anns_amount_ReadText none Tryz.f176 sp_amount_ReadText x = sp_amount_ReadText.m x := by intro x; kernel_rfl

theorem hb_amount_ReadText : HasBody Tryz.prog 176 := has_body (fn := Tryz.f176) (by kernel_rfl) rfl (by decide)

theorem ok_amount_ReadText : FunOk Tryz.prog 176 sp_amount_ReadText := fun_ok (X := cx_amount_ReadText) (.cons ok_kit_IsDigits hb_kit_IsDigits (.cons ok_strings_CutPrefix hb_strings_CutPrefix (.cons ok_strings_Cut hb_strings_Cut (.cons ok_amount_isWhole hb_amount_isWhole (.cons ok_amount_read hb_amount_read (.nil _)))))) (by kernel_rfl) sp_amount_ReadText anns_amount_ReadText none (by kernel_rfl) (fun x y h => (den_amount_ReadText x).trans h)

def anns_order_words_decimal : List (Nat × Ann) := []

noncomputable def sp_order_words_decimal : FSpec := ⟨[.box [.val (.slice .str), .val .bool]], [.val t_api_Decimal], fun x => order_words_decimal x.1⟩

noncomputable def cx_order_words_decimal : Cx := ⟨Tryz.prog, [(128, sp_order_words_next), (176, sp_amount_ReadText)], []⟩

theorem den_order_words_decimal : ∀ x, denF cx_order_words_decimal anns_order_words_decimal none Tryz.f129 sp_order_words_decimal x = sp_order_words_decimal.m x := by intro x; kernel_rfl

theorem hb_order_words_decimal : HasBody Tryz.prog 129 := has_body (fn := Tryz.f129) (by kernel_rfl) rfl (by decide)

theorem ok_order_words_decimal : FunOk Tryz.prog 129 sp_order_words_decimal := fun_ok (X := cx_order_words_decimal) (.cons ok_order_words_next hb_order_words_next (.cons ok_amount_ReadText hb_amount_ReadText (.nil _))) (by kernel_rfl) sp_order_words_decimal anns_order_words_decimal none (by kernel_rfl) (fun x y h => (den_order_words_decimal x).trans h)

def anns_order_readDeed : List (Nat × Ann) := [(100008, ⟨[(2, .ref 2 0), (6, .ref 19 0), (7, .ref 7 0), (8, .ref 8 0)], [(2, [.val tI, .val tI, .val tI, .val tI, .val tI, .val .str, .val tI, .val tI, .val .str, .val tI, .val tI, .val tI, .val tI]), (7, [.val tI, .val tI, .val tI, .val tI, .val tI, .val .str, .val tI, .val tI, .val .str, .val tI, .val tI, .val tI, .val tI]), (8, [.val .bool, .val .bool, .val .bool, .val .bool, .val .bool, .val .bool]), (19, [.val (.slice .str), .val .bool])], [], fun _ => 0⟩),
 (100010, ⟨[(2, .ref 2 0), (6, .ref 19 0), (7, .ref 7 0), (8, .ref 8 0)], [(2, [.val tI, .val tI, .val tI, .val tI, .val tI, .val .str, .val tI, .val tI, .val .str, .val tI, .val tI, .val tI, .val tI]), (7, [.val tI, .val tI, .val tI, .val tI, .val tI, .val .str, .val tI, .val tI, .val .str, .val tI, .val tI, .val tI, .val tI]), (8, [.val .bool, .val .bool, .val .bool, .val .bool, .val .bool, .val .bool]), (19, [.val (.slice .str), .val .bool])], [], fun _ => 0⟩),
 (100012, ⟨[(2, .ref 2 0), (6, .ref 19 0), (7, .ref 7 0), (8, .ref 8 0)], [(2, [.val tI, .val tI, .val tI, .val tI, .val tI, .val .str, .val tI, .val tI, .val .str, .val tI, .val tI, .val tI, .val tI]), (7, [.val tI, .val tI, .val tI, .val tI, .val tI, .val .str, .val tI, .val tI, .val .str, .val tI, .val tI, .val tI, .val tI]), (8, [.val .bool, .val .bool, .val .bool, .val .bool, .val .bool, .val .bool]), (19, [.val (.slice .str), .val .bool])], [], fun _ => 0⟩),
 (100014, ⟨[(2, .ref 2 0), (6, .ref 19 0), (7, .ref 7 0), (8, .ref 8 0)], [(2, [.val tI, .val tI, .val tI, .val tI, .val tI, .val .str, .val tI, .val tI, .val .str, .val tI, .val tI, .val tI, .val tI]), (7, [.val tI, .val tI, .val tI, .val tI, .val tI, .val .str, .val tI, .val tI, .val .str, .val tI, .val tI, .val tI, .val tI]), (8, [.val .bool, .val .bool, .val .bool, .val .bool, .val .bool, .val .bool]), (19, [.val (.slice .str), .val .bool])], [], fun _ => 0⟩),
 (100016, ⟨[(2, .ref 2 0), (6, .ref 19 0), (7, .ref 7 0), (8, .ref 8 0)], [(2, [.val tI, .val tI, .val tI, .val tI, .val tI, .val .str, .val tI, .val tI, .val .str, .val tI, .val tI, .val tI, .val tI]), (7, [.val tI, .val tI, .val tI, .val tI, .val tI, .val .str, .val tI, .val tI, .val .str, .val tI, .val tI, .val tI, .val tI]), (8, [.val .bool, .val .bool, .val .bool, .val .bool, .val .bool, .val .bool]), (19, [.val (.slice .str), .val .bool])], [], fun _ => 0⟩),
 (100018, ⟨[(2, .ref 2 0), (6, .ref 19 0), (7, .ref 7 0)], [(2, [.val tI, .val tI, .val tI, .val tI, .val tI, .val .str, .val tI, .val tI, .val .str, .val tI, .val tI, .val tI, .val tI]), (7, [.val tI, .val tI, .val tI, .val tI, .val tI, .val .str, .val tI, .val tI, .val .str, .val tI, .val tI, .val tI, .val tI]), (19, [.val (.slice .str), .val .bool])], [], fun _ => 0⟩)]

noncomputable def sp_order_readDeed : FSpec := ⟨[.val .str], [.val t_api_Deed, .val .bool], fun x => order_readDeed x.1⟩

noncomputable def cx_order_readDeed : Cx := ⟨Tryz.prog, [(63, sp_order_usesOf), (123, sp_kit_Words), (124, sp_order_words_number), (125, sp_order_words_index), (126, sp_order_byWords), (127, sp_order_kindWords), (128, sp_order_words_next), (129, sp_order_words_decimal)], []⟩

theorem den_order_readDeed : ∀ x, denF cx_order_readDeed anns_order_readDeed none Tryz.f82 sp_order_readDeed x = sp_order_readDeed.m x := by intro x; kernel_rfl

theorem hb_order_readDeed : HasBody Tryz.prog 82 := has_body (fn := Tryz.f82) (by kernel_rfl) rfl (by decide)

theorem ok_order_readDeed : FunOk Tryz.prog 82 sp_order_readDeed := fun_ok (X := cx_order_readDeed) (.cons ok_order_usesOf hb_order_usesOf (.cons ok_kit_Words hb_kit_Words (.cons ok_order_words_number hb_order_words_number (.cons ok_order_words_index hb_order_words_index (.cons ok_order_byWords hb_order_byWords (.cons ok_order_kindWords hb_order_kindWords (.cons ok_order_words_next hb_order_words_next (.cons ok_order_words_decimal hb_order_words_decimal (.nil _))))))))) (by kernel_rfl) sp_order_readDeed anns_order_readDeed none (by kernel_rfl) (fun x y h => (den_order_readDeed x).trans h)

def anns_order_Read : List (Nat × Ann) := [(6, ⟨[(5, .val (.slice .str)), (6, .val .bool), (7, .own 35 t_api_Deed), (21, .val (.slice .str)), (22, .val tI), (23, .val tI)], [], [], fuelOf _⟩),
 (200006, ⟨[(7, .own 35 t_api_Deed)], [], [], fun _ => 0⟩),
 (300009, ⟨[(45, .val .bool)], [], [], fun _ => 0⟩)]

noncomputable def sp_order_Read : FSpec := ⟨[.val .str], [.row 35 t_api_Deed, .val tI, .val tI], fun x => order_Read x.1⟩

noncomputable def cx_order_Read : Cx := ⟨Tryz.prog, [(13, sp_order_CheckDeeds), (81, sp_kit_Lines), (82, sp_order_readDeed)], []⟩

theorem den_order_Read : ∀ x, denF cx_order_Read anns_order_Read none Tryz.f48 sp_order_Read x = sp_order_Read.m x := by intro x; kernel_rfl

theorem hb_order_Read : HasBody Tryz.prog 48 := has_body (fn := Tryz.f48) (by kernel_rfl) rfl (by decide)

theorem ok_order_Read : FunOk Tryz.prog 48 sp_order_Read := fun_ok (X := cx_order_Read) (.cons ok_order_CheckDeeds hb_order_CheckDeeds (.cons ok_kit_Lines hb_kit_Lines (.cons ok_order_readDeed hb_order_readDeed (.nil _)))) (by kernel_rfl) sp_order_Read anns_order_Read none (by kernel_rfl) (fun x y h => (den_order_Read x).trans h)

def anns_l9_awake : List (Nat × Ann) := [(300002, ⟨[(0, .val .bool)], [], [], fun _ => 0⟩)]

noncomputable def sp_l9_awake : FSpec := ⟨[], [.val .bool], fun x => l9_awake ⟩

noncomputable def cx_l9_awake : Cx := ⟨Tryz.prog, [(48, sp_order_Read)], []⟩

theorem den_l9_awake : ∀ x, denF cx_l9_awake anns_l9_awake none Tryz.f16 sp_l9_awake x = sp_l9_awake.m x := by intro x; kernel_rfl

theorem hb_l9_awake : HasBody Tryz.prog 16 := has_body (fn := Tryz.f16) (by kernel_rfl) rfl (by decide)

theorem ok_l9_awake : FunOk Tryz.prog 16 sp_l9_awake := fun_ok (X := cx_l9_awake) (.cons ok_order_Read hb_order_Read (.nil _)) (by kernel_rfl) sp_l9_awake anns_l9_awake none (by kernel_rfl) (fun x y h => (den_l9_awake x).trans h)



end Go.Proofs.SeatA

set_option maxRecDepth 100000
namespace Go.Proofs.SeatA
open Go.Dn Go.Md Go.Proofs

def anns_slices_Equal_api_State : List (Nat × Ann) := [(4, ⟨[(0, .val (.slice t_api_State)), (1, .val (.slice t_api_State)), (12, .val tI), (13, .val tI)], [], [], fuelOf _⟩),
 (200004, ⟨[], [], [], fun _ => 0⟩)]

noncomputable def sp_slices_Equal_api_State : FSpec := ⟨[.val (.slice t_api_State), .val (.slice t_api_State)], [.val .bool], fun x => slices_Equal_api_State x.1 x.2.1⟩

noncomputable def cx_slices_Equal_api_State : Cx := ⟨Tryz.prog, [], []⟩

theorem den_slices_Equal_api_State : ∀ x, denF cx_slices_Equal_api_State anns_slices_Equal_api_State none Tryz.f24 sp_slices_Equal_api_State x = sp_slices_Equal_api_State.m x := by intro x; kernel_rfl

theorem hb_slices_Equal_api_State : HasBody Tryz.prog 24 := has_body (fn := Tryz.f24) (by kernel_rfl) rfl (by decide)

theorem ok_slices_Equal_api_State : FunOk Tryz.prog 24 sp_slices_Equal_api_State := fun_ok (X := cx_slices_Equal_api_State) (.nil _) (by kernel_rfl) sp_slices_Equal_api_State anns_slices_Equal_api_State none (by kernel_rfl) (fun x y h => (den_slices_Equal_api_State x).trans h)

def anns_l9_OrderLaterDeedsChangeNothing : List (Nat × Ann) := [(300004, ⟨[(54, .val .bool)], [], [], fun _ => 0⟩),
 (300006, ⟨[(8, .val .bool)], [], [], fun _ => 0⟩)]

noncomputable def sp_l9_OrderLaterDeedsChangeNothing : FSpec := ⟨[.val t_api_Order, .val (.slice t_api_Deed), .val tI, .val tI], [.val .bool], fun x => l9_OrderLaterDeedsChangeNothing x.1 x.2.1 x.2.2.1 x.2.2.2.1⟩

noncomputable def cx_l9_OrderLaterDeedsChangeNothing : Cx := ⟨Tryz.prog, [(16, sp_l9_awake), (22, sp_r9_Below), (23, sp_order_LinesAt), (24, sp_slices_Equal_api_State)], []⟩

theorem den_l9_OrderLaterDeedsChangeNothing : ∀ x, denF cx_l9_OrderLaterDeedsChangeNothing anns_l9_OrderLaterDeedsChangeNothing none Tryz.f5 sp_l9_OrderLaterDeedsChangeNothing x = sp_l9_OrderLaterDeedsChangeNothing.m x := by intro x; kernel_rfl

theorem ok_l9_OrderLaterDeedsChangeNothing : FunOk Tryz.prog 5 sp_l9_OrderLaterDeedsChangeNothing := fun_ok (X := cx_l9_OrderLaterDeedsChangeNothing) (.cons ok_l9_awake hb_l9_awake (.cons ok_r9_Below hb_r9_Below (.cons ok_order_LinesAt hb_order_LinesAt (.cons ok_slices_Equal_api_State hb_slices_Equal_api_State (.nil _))))) (by kernel_rfl) sp_l9_OrderLaterDeedsChangeNothing anns_l9_OrderLaterDeedsChangeNothing none (by kernel_rfl) (fun x y h => (den_l9_OrderLaterDeedsChangeNothing x).trans h)

def anns_r9_milli : List (Nat × Ann) := [(3, ⟨[(3, .val tI), (8, .val tI), (9, .val tI)], [], [], fuelOf _⟩),
 (200003, ⟨[(3, .val tI)], [], [], fun _ => 0⟩)]

noncomputable def sp_r9_milli : FSpec := ⟨[.val t_api_Decimal], [.val tI], fun x => r9_milli x.1⟩

noncomputable def cx_r9_milli : Cx := ⟨Tryz.prog, [], []⟩

theorem den_r9_milli : ∀ x, denF cx_r9_milli anns_r9_milli none Tryz.f137 sp_r9_milli x = sp_r9_milli.m x := by intro x; kernel_rfl

theorem hb_r9_milli : HasBody Tryz.prog 137 := has_body (fn := Tryz.f137) (by kernel_rfl) rfl (by decide)

theorem ok_r9_milli : FunOk Tryz.prog 137 sp_r9_milli := fun_ok (X := cx_r9_milli) (.nil _) (by kernel_rfl) sp_r9_milli anns_r9_milli none (by kernel_rfl) (fun x y h => (den_r9_milli x).trans h)

def anns_r1_Normal : List (Nat × Ann) := [(1, ⟨[(1, .ref 1 0), (2, .ref 2 0)], [(1, [.val tI, .val tI]), (2, [.val tI, .val tI])], [], fuelOf _⟩),
 (200001, ⟨[(1, .ref 1 0), (2, .ref 2 0)], [(1, [.val tI, .val tI]), (2, [.val tI, .val tI])], [], fun _ => 0⟩)]

noncomputable def sp_r1_Normal : FSpec := ⟨[.val t_api_Decimal], [.val t_api_Decimal], fun x => r1_Normal x.1⟩

noncomputable def cx_r1_Normal : Cx := ⟨Tryz.prog, [], []⟩

theorem den_r1_Normal : ∀ x, denF cx_r1_Normal anns_r1_Normal none Tryz.f85 sp_r1_Normal x = sp_r1_Normal.m x := by intro x; kernel_rfl

theorem hb_r1_Normal : HasBody Tryz.prog 85 := has_body (fn := Tryz.f85) (by kernel_rfl) rfl (by decide)

theorem ok_r1_Normal : FunOk Tryz.prog 85 sp_r1_Normal := fun_ok (X := cx_r1_Normal) (.nil _) (by kernel_rfl) sp_r1_Normal anns_r1_Normal none (by kernel_rfl) (fun x y h => (den_r1_Normal x).trans h)

def anns_r9_plus : List (Nat × Ann) := []

noncomputable def sp_r9_plus : FSpec := ⟨[.val t_api_Decimal, .val t_api_Decimal], [.val t_api_Decimal], fun x => r9_plus x.1 x.2.1⟩

noncomputable def cx_r9_plus : Cx := ⟨Tryz.prog, [(85, sp_r1_Normal), (137, sp_r9_milli)], []⟩

theorem den_r9_plus : ∀ x, denF cx_r9_plus anns_r9_plus none Tryz.f139 sp_r9_plus x = sp_r9_plus.m x := by intro x; kernel_rfl

theorem hb_r9_plus : HasBody Tryz.prog 139 := has_body (fn := Tryz.f139) (by kernel_rfl) rfl (by decide)

theorem ok_r9_plus : FunOk Tryz.prog 139 sp_r9_plus := fun_ok (X := cx_r9_plus) (.cons ok_r1_Normal hb_r1_Normal (.cons ok_r9_milli hb_r9_milli (.nil _))) (by kernel_rfl) sp_r9_plus anns_r9_plus none (by kernel_rfl) (fun x y h => (den_r9_plus x).trans h)

def anns_r9_minus : List (Nat × Ann) := []

noncomputable def sp_r9_minus : FSpec := ⟨[.val t_api_Decimal, .val t_api_Decimal], [.val t_api_Decimal], fun x => r9_minus x.1 x.2.1⟩

noncomputable def cx_r9_minus : Cx := ⟨Tryz.prog, [(139, sp_r9_plus)], []⟩

theorem den_r9_minus : ∀ x, denF cx_r9_minus anns_r9_minus none Tryz.f93 sp_r9_minus x = sp_r9_minus.m x := by intro x; kernel_rfl

theorem hb_r9_minus : HasBody Tryz.prog 93 := has_body (fn := Tryz.f93) (by kernel_rfl) rfl (by decide)

theorem ok_r9_minus : FunOk Tryz.prog 93 sp_r9_minus := fun_ok (X := cx_r9_minus) (.cons ok_r9_plus hb_r9_plus (.nil _)) (by kernel_rfl) sp_r9_minus anns_r9_minus none (by kernel_rfl) (fun x y h => (den_r9_minus x).trans h)

def anns_r9_away : List (Nat × Ann) := []

noncomputable def sp_r9_away : FSpec := ⟨[.val t_api_State], [.val t_api_Decimal], fun x => r9_away x.1⟩

noncomputable def cx_r9_away : Cx := ⟨Tryz.prog, [(93, sp_r9_minus)], []⟩

theorem den_r9_away : ∀ x, denF cx_r9_away anns_r9_away none Tryz.f94 sp_r9_away x = sp_r9_away.m x := by intro x; kernel_rfl

theorem hb_r9_away : HasBody Tryz.prog 94 := has_body (fn := Tryz.f94) (by kernel_rfl) rfl (by decide)

theorem ok_r9_away : FunOk Tryz.prog 94 sp_r9_away := fun_ok (X := cx_r9_away) (.cons ok_r9_minus hb_r9_minus (.nil _)) (by kernel_rfl) sp_r9_away anns_r9_away none (by kernel_rfl) (fun x y h => (den_r9_away x).trans h)

def anns_r9_reopened : List (Nat × Ann) := []

noncomputable def sp_r9_reopened : FSpec := ⟨[.val t_api_State], [.val t_api_State], fun x => r9_reopened x.1⟩

noncomputable def cx_r9_reopened : Cx := ⟨Tryz.prog, [(93, sp_r9_minus), (94, sp_r9_away)], []⟩

theorem den_r9_reopened : ∀ x, denF cx_r9_reopened anns_r9_reopened none Tryz.f58 sp_r9_reopened x = sp_r9_reopened.m x := by intro x; kernel_rfl

theorem hb_r9_reopened : HasBody Tryz.prog 58 := has_body (fn := Tryz.f58) (by kernel_rfl) rfl (by decide)

theorem ok_r9_reopened : FunOk Tryz.prog 58 sp_r9_reopened := fun_ok (X := cx_r9_reopened) (.cons ok_r9_minus hb_r9_minus (.cons ok_r9_away hb_r9_away (.nil _))) (by kernel_rfl) sp_r9_reopened anns_r9_reopened none (by kernel_rfl) (fun x y h => (den_r9_reopened x).trans h)

def anns_r1_Of : List (Nat × Ann) := [(2, ⟨[(0, .val tI), (2, .ref 2 0), (3, .ref 3 0)], [(2, [.val .bool, .own 3 tI]), (3, [.val .bool, .own 3 tI])], [], fuelOf _⟩),
 (200002, ⟨[(2, .ref 2 0), (3, .ref 3 0)], [(2, [.val .bool, .own 3 tI]), (3, [.val .bool, .own 3 tI])], [], fun _ => 0⟩)]

noncomputable def sp_r1_Of : FSpec := ⟨[.val tI], [.val t_interchangeref1_Num], fun x => r1_Of x.1⟩

noncomputable def cx_r1_Of : Cx := ⟨Tryz.prog, [], []⟩

theorem den_r1_Of : ∀ x, denF cx_r1_Of anns_r1_Of none Tryz.f151 sp_r1_Of x = sp_r1_Of.m x := by intro x; kernel_rfl

theorem hb_r1_Of : HasBody Tryz.prog 151 := has_body (fn := Tryz.f151) (by kernel_rfl) rfl (by decide)

theorem ok_r1_Of : FunOk Tryz.prog 151 sp_r1_Of := fun_ok (X := cx_r1_Of) (.nil _) (by kernel_rfl) sp_r1_Of anns_r1_Of none (by kernel_rfl) (fun x y h => (den_r1_Of x).trans h)

def anns_r1_trimmed : List (Nat × Ann) := [(1, ⟨[(1, .ref 1 0), (2, .ref 2 0)], [(1, [.val .bool, .val (.slice tI)]), (2, [.val .bool, .own 3 tI])], [], fuelOf _⟩),
 (200001, ⟨[(1, .ref 1 0), (2, .ref 2 0)], [(1, [.val .bool, .val (.slice tI)]), (2, [.val .bool, .own 3 tI])], [], fun _ => 0⟩)]

noncomputable def sp_r1_trimmed : FSpec := ⟨[.val t_interchangeref1_Num], [.val t_interchangeref1_Num], fun x => r1_trimmed x.1⟩

noncomputable def cx_r1_trimmed : Cx := ⟨Tryz.prog, [], []⟩

theorem den_r1_trimmed : ∀ x, denF cx_r1_trimmed anns_r1_trimmed none Tryz.f187 sp_r1_trimmed x = sp_r1_trimmed.m x := by intro x; kernel_rfl

theorem hb_r1_trimmed : HasBody Tryz.prog 187 := has_body (fn := Tryz.f187) (by kernel_rfl) rfl (by decide)

theorem ok_r1_trimmed : FunOk Tryz.prog 187 sp_r1_trimmed := fun_ok (X := cx_r1_trimmed) (.nil _) (by kernel_rfl) sp_r1_trimmed anns_r1_trimmed none (by kernel_rfl) (fun x y h => (den_r1_trimmed x).trans h)

def anns_r1_TimesOf : List (Nat × Ann) := [(3, ⟨[(3, .ref 3 0), (4, .ref 4 0), (5, .ref 5 0), (27, .val (.slice tI)), (28, .val tI), (29, .val tI)], [(3, [.val .bool, .val (.slice tI)]), (4, [.val .bool, .own 3 tI]), (5, [.val .bool, .rowR 24])], [.rowC 24 3 tI], fuelOf _⟩),
 (6, ⟨[(3, .ref 3 0), (4, .ref 4 0), (5, .ref 5 0), (6, .val tI), (7, .val tI), (27, .val (.slice tI)), (28, .val tI), (29, .val tI), (35, .val (.slice tI)), (36, .val tI), (37, .val tI)], [(3, [.val .bool, .val (.slice tI)]), (4, [.val .bool, .own 3 tI]), (5, [.val .bool, .rowR 24])], [.rowC 24 3 tI], fuelOf _⟩),
 (14, ⟨[(4, .ref 4 0), (5, .ref 5 0), (86, .val tI), (87, .val tI)], [(4, [.val .bool, .own 3 tI]), (5, [.val .bool, .rowR 24])], [.rowC 24 3 tI], fuelOf _⟩),
 (200003, ⟨[(4, .ref 4 0), (5, .ref 5 0)], [(4, [.val .bool, .own 3 tI]), (5, [.val .bool, .rowR 24])], [.rowC 24 3 tI], fun _ => 0⟩),
 (200006, ⟨[(3, .ref 3 0), (4, .ref 4 0), (5, .ref 5 0), (27, .val (.slice tI)), (28, .val tI), (29, .val tI)], [(3, [.val .bool, .val (.slice tI)]), (4, [.val .bool, .own 3 tI]), (5, [.val .bool, .rowR 24])], [.rowC 24 3 tI], fun _ => 0⟩),
 (200014, ⟨[(4, .ref 4 0), (5, .ref 5 0)], [(4, [.val .bool, .own 3 tI]), (5, [.val .bool, .rowR 24])], [.rowC 24 3 tI], fun _ => 0⟩)]

noncomputable def sp_r1_TimesOf : FSpec := ⟨[.val t_interchangeref1_Num, .val t_interchangeref1_Num], [.val t_interchangeref1_Num], fun x => r1_TimesOf x.1 x.2.1⟩

noncomputable def cx_r1_TimesOf : Cx := ⟨Tryz.prog, [(187, sp_r1_trimmed)], []⟩

theorem den_r1_TimesOf : ∀ x, denF cx_r1_TimesOf anns_r1_TimesOf none Tryz.f150 sp_r1_TimesOf x = sp_r1_TimesOf.m x := by intro x; kernel_rfl

theorem hb_r1_TimesOf : HasBody Tryz.prog 150 := has_body (fn := Tryz.f150) (by kernel_rfl) rfl (by decide)

theorem ok_r1_TimesOf : FunOk Tryz.prog 150 sp_r1_TimesOf := fun_ok (X := cx_r1_TimesOf) (.cons ok_r1_trimmed hb_r1_trimmed (.nil _)) (by kernel_rfl) sp_r1_TimesOf anns_r1_TimesOf none (by kernel_rfl) (fun x y h => (den_r1_TimesOf x).trans h)

def anns_r1_Power : List (Nat × Ann) := [(3, ⟨[(2, .ref 2 0), (3, .ref 3 0), (5, .val tI), (6, .val tI)], [(2, [.val .bool, .own 3 tI]), (3, [.val .bool, .val (.slice tI)])], [], fuelOf _⟩),
 (200003, ⟨[(2, .ref 2 0), (3, .ref 3 0)], [(2, [.val .bool, .own 3 tI]), (3, [.val .bool, .val (.slice tI)])], [], fun _ => 0⟩)]

noncomputable def sp_r1_Power : FSpec := ⟨[.val tI], [.val t_interchangeref1_Num], fun x => r1_Power x.1⟩

noncomputable def cx_r1_Power : Cx := ⟨Tryz.prog, [(150, sp_r1_TimesOf), (151, sp_r1_Of)], []⟩

theorem den_r1_Power : ∀ x, denF cx_r1_Power anns_r1_Power none Tryz.f152 sp_r1_Power x = sp_r1_Power.m x := by intro x; kernel_rfl

theorem hb_r1_Power : HasBody Tryz.prog 152 := has_body (fn := Tryz.f152) (by kernel_rfl) rfl (by decide)

theorem ok_r1_Power : FunOk Tryz.prog 152 sp_r1_Power := fun_ok (X := cx_r1_Power) (.cons ok_r1_TimesOf hb_r1_TimesOf (.cons ok_r1_Of hb_r1_Of (.nil _))) (by kernel_rfl) sp_r1_Power anns_r1_Power none (by kernel_rfl) (fun x y h => (den_r1_Power x).trans h)

def anns_r1_At : List (Nat × Ann) := []

noncomputable def sp_r1_At : FSpec := ⟨[.val t_api_Decimal, .val tI], [.val t_interchangeref1_Num], fun x => r1_At x.1 x.2.1⟩

noncomputable def cx_r1_At : Cx := ⟨Tryz.prog, [(150, sp_r1_TimesOf), (151, sp_r1_Of), (152, sp_r1_Power)], []⟩

theorem den_r1_At : ∀ x, denF cx_r1_At anns_r1_At none Tryz.f96 sp_r1_At x = sp_r1_At.m x := by intro x; kernel_rfl

theorem hb_r1_At : HasBody Tryz.prog 96 := has_body (fn := Tryz.f96) (by kernel_rfl) rfl (by decide)

theorem ok_r1_At : FunOk Tryz.prog 96 sp_r1_At := fun_ok (X := cx_r1_At) (.cons ok_r1_TimesOf hb_r1_TimesOf (.cons ok_r1_Of hb_r1_Of (.cons ok_r1_Power hb_r1_Power (.nil _)))) (by kernel_rfl) sp_r1_At anns_r1_At none (by kernel_rfl) (fun x y h => (den_r1_At x).trans h)

def anns_r1_Minus : List (Nat × Ann) := []

noncomputable def sp_r1_Minus : FSpec := ⟨[.val t_interchangeref1_Num], [.val t_interchangeref1_Num], fun x => r1_Minus x.1⟩

noncomputable def cx_r1_Minus : Cx := ⟨Tryz.prog, [], []⟩

theorem den_r1_Minus : ∀ x, denF cx_r1_Minus anns_r1_Minus none Tryz.f149 sp_r1_Minus x = sp_r1_Minus.m x := by intro x; kernel_rfl

theorem hb_r1_Minus : HasBody Tryz.prog 149 := has_body (fn := Tryz.f149) (by kernel_rfl) rfl (by decide)

theorem ok_r1_Minus : FunOk Tryz.prog 149 sp_r1_Minus := fun_ok (X := cx_r1_Minus) (.nil _) (by kernel_rfl) sp_r1_Minus anns_r1_Minus none (by kernel_rfl) (fun x y h => (den_r1_Minus x).trans h)

def anns_r1_sizes : List (Nat × Ann) := [(4, ⟨[(0, .val (.slice tI)), (1, .val (.slice tI)), (5, .val tI)], [], [], fuelOf _⟩),
 (200004, ⟨[], [], [], fun _ => 0⟩)]

noncomputable def sp_r1_sizes : FSpec := ⟨[.val (.slice tI), .val (.slice tI)], [.val tI], fun x => r1_sizes x.1 x.2.1⟩

noncomputable def cx_r1_sizes : Cx := ⟨Tryz.prog, [], []⟩

theorem den_r1_sizes : ∀ x, denF cx_r1_sizes anns_r1_sizes none Tryz.f185 sp_r1_sizes x = sp_r1_sizes.m x := by intro x; kernel_rfl

theorem hb_r1_sizes : HasBody Tryz.prog 185 := has_body (fn := Tryz.f185) (by kernel_rfl) rfl (by decide)

theorem ok_r1_sizes : FunOk Tryz.prog 185 sp_r1_sizes := fun_ok (X := cx_r1_sizes) (.nil _) (by kernel_rfl) sp_r1_sizes anns_r1_sizes none (by kernel_rfl) (fun x y h => (den_r1_sizes x).trans h)

def anns_r1_digit : List (Nat × Ann) := []

noncomputable def sp_r1_digit : FSpec := ⟨[.val (.slice tI), .val tI], [.val tI], fun x => r1_digit x.1 x.2.1⟩

noncomputable def cx_r1_digit : Cx := ⟨Tryz.prog, [], []⟩

theorem den_r1_digit : ∀ x, denF cx_r1_digit anns_r1_digit none Tryz.f186 sp_r1_digit x = sp_r1_digit.m x := by intro x; kernel_rfl

theorem hb_r1_digit : HasBody Tryz.prog 186 := has_body (fn := Tryz.f186) (by kernel_rfl) rfl (by decide)

theorem ok_r1_digit : FunOk Tryz.prog 186 sp_r1_digit := fun_ok (X := cx_r1_digit) (.nil _) (by kernel_rfl) sp_r1_digit anns_r1_digit none (by kernel_rfl) (fun x y h => (den_r1_digit x).trans h)

def anns_r1_Plus : List (Nat × Ann) := [(7, ⟨[(2, .ref 2 0), (3, .ref 3 0), (4, .ref 4 0), (5, .ref 5 0), (6, .val tI), (31, .val tI), (32, .val tI)], [(2, [.val .bool, .val (.slice tI)]), (3, [.val .bool, .val (.slice tI)]), (4, [.val .bool, .own 3 tI]), (5, [.val .bool, .own 3 tI])], [], fuelOf _⟩),
 (19, ⟨[(2, .ref 2 0), (3, .ref 3 0), (4, .ref 4 0), (9, .ref 9 0), (10, .val tI), (70, .val tI), (71, .val tI)], [(2, [.val .bool, .val (.slice tI)]), (3, [.val .bool, .val (.slice tI)]), (4, [.val .bool, .own 3 tI]), (9, [.val .bool, .own 3 tI])], [], fuelOf _⟩),
 (100003, ⟨[(2, .ref 2 0), (3, .ref 3 0), (4, .ref 4 0)], [(2, [.val .bool, .val (.slice tI)]), (3, [.val .bool, .val (.slice tI)]), (4, [.val .bool, .own 3 tI])], [], fun _ => 0⟩),
 (100012, ⟨[(2, .ref 2 0), (3, .ref 3 0), (4, .ref 4 0), (5, .ref 5 0), (6, .val tI), (8, .val tI), (31, .val tI), (32, .val tI)], [(2, [.val .bool, .val (.slice tI)]), (3, [.val .bool, .val (.slice tI)]), (4, [.val .bool, .own 3 tI]), (5, [.val .bool, .own 3 tI])], [], fun _ => 0⟩),
 (200007, ⟨[(4, .ref 4 0), (5, .ref 5 0)], [(4, [.val .bool, .own 3 tI]), (5, [.val .bool, .own 3 tI])], [], fun _ => 0⟩),
 (200019, ⟨[(4, .ref 4 0), (9, .ref 9 0)], [(4, [.val .bool, .own 3 tI]), (9, [.val .bool, .own 3 tI])], [], fun _ => 0⟩)]

noncomputable def sp_r1_Plus : FSpec := ⟨[.val t_interchangeref1_Num, .val t_interchangeref1_Num], [.val t_interchangeref1_Num], fun x => r1_Plus x.1 x.2.1⟩

noncomputable def cx_r1_Plus : Cx := ⟨Tryz.prog, [(185, sp_r1_sizes), (186, sp_r1_digit), (187, sp_r1_trimmed)], []⟩

theorem den_r1_Plus : ∀ x, denF cx_r1_Plus anns_r1_Plus none Tryz.f148 sp_r1_Plus x = sp_r1_Plus.m x := by intro x; kernel_rfl

theorem hb_r1_Plus : HasBody Tryz.prog 148 := has_body (fn := Tryz.f148) (by kernel_rfl) rfl (by decide)

theorem ok_r1_Plus : FunOk Tryz.prog 148 sp_r1_Plus := fun_ok (X := cx_r1_Plus) (.cons ok_r1_sizes hb_r1_sizes (.cons ok_r1_digit hb_r1_digit (.cons ok_r1_trimmed hb_r1_trimmed (.nil _)))) (by kernel_rfl) sp_r1_Plus anns_r1_Plus none (by kernel_rfl) (fun x y h => (den_r1_Plus x).trans h)

def anns_r1_Sign : List (Nat × Ann) := []

noncomputable def sp_r1_Sign : FSpec := ⟨[.val t_interchangeref1_Num], [.val tI], fun x => r1_Sign x.1⟩

noncomputable def cx_r1_Sign : Cx := ⟨Tryz.prog, [], []⟩

theorem den_r1_Sign : ∀ x, denF cx_r1_Sign anns_r1_Sign none Tryz.f147 sp_r1_Sign x = sp_r1_Sign.m x := by intro x; kernel_rfl

theorem hb_r1_Sign : HasBody Tryz.prog 147 := has_body (fn := Tryz.f147) (by kernel_rfl) rfl (by decide)

theorem ok_r1_Sign : FunOk Tryz.prog 147 sp_r1_Sign := fun_ok (X := cx_r1_Sign) (.nil _) (by kernel_rfl) sp_r1_Sign anns_r1_Sign none (by kernel_rfl) (fun x y h => (den_r1_Sign x).trans h)

def anns_r1_Cmp : List (Nat × Ann) := []

noncomputable def sp_r1_Cmp : FSpec := ⟨[.val t_interchangeref1_Num, .val t_interchangeref1_Num], [.val tI], fun x => r1_Cmp x.1 x.2.1⟩

noncomputable def cx_r1_Cmp : Cx := ⟨Tryz.prog, [(147, sp_r1_Sign), (148, sp_r1_Plus), (149, sp_r1_Minus)], []⟩

theorem den_r1_Cmp : ∀ x, denF cx_r1_Cmp anns_r1_Cmp none Tryz.f95 sp_r1_Cmp x = sp_r1_Cmp.m x := by intro x; kernel_rfl

theorem hb_r1_Cmp : HasBody Tryz.prog 95 := has_body (fn := Tryz.f95) (by kernel_rfl) rfl (by decide)

theorem ok_r1_Cmp : FunOk Tryz.prog 95 sp_r1_Cmp := fun_ok (X := cx_r1_Cmp) (.cons ok_r1_Sign hb_r1_Sign (.cons ok_r1_Plus hb_r1_Plus (.cons ok_r1_Minus hb_r1_Minus (.nil _)))) (by kernel_rfl) sp_r1_Cmp anns_r1_Cmp none (by kernel_rfl) (fun x y h => (den_r1_Cmp x).trans h)

def anns_r9_cmp : List (Nat × Ann) := []

noncomputable def sp_r9_cmp : FSpec := ⟨[.val t_api_Decimal, .val t_api_Decimal], [.val tI], fun x => r9_cmp x.1 x.2.1⟩

noncomputable def cx_r9_cmp : Cx := ⟨Tryz.prog, [(95, sp_r1_Cmp), (96, sp_r1_At)], []⟩

theorem den_r9_cmp : ∀ x, denF cx_r9_cmp anns_r9_cmp none Tryz.f59 sp_r9_cmp x = sp_r9_cmp.m x := by intro x; kernel_rfl

theorem hb_r9_cmp : HasBody Tryz.prog 59 := has_body (fn := Tryz.f59) (by kernel_rfl) rfl (by decide)

theorem ok_r9_cmp : FunOk Tryz.prog 59 sp_r9_cmp := fun_ok (X := cx_r9_cmp) (.cons ok_r1_Cmp hb_r1_Cmp (.cons ok_r1_At hb_r1_At (.nil _))) (by kernel_rfl) sp_r9_cmp anns_r9_cmp none (by kernel_rfl) (fun x y h => (den_r9_cmp x).trans h)

def anns_r9_AddsUp : List (Nat × Ann) := [(300001, ⟨[(2, .val .bool)], [], [], fun _ => 0⟩)]

noncomputable def sp_r9_AddsUp : FSpec := ⟨[.val t_api_State], [.val .bool], fun x => r9_AddsUp x.1⟩

noncomputable def cx_r9_AddsUp : Cx := ⟨Tryz.prog, [(58, sp_r9_reopened), (59, sp_r9_cmp)], []⟩

theorem den_r9_AddsUp : ∀ x, denF cx_r9_AddsUp anns_r9_AddsUp none Tryz.f25 sp_r9_AddsUp x = sp_r9_AddsUp.m x := by intro x; kernel_rfl

theorem hb_r9_AddsUp : HasBody Tryz.prog 25 := has_body (fn := Tryz.f25) (by kernel_rfl) rfl (by decide)

theorem ok_r9_AddsUp : FunOk Tryz.prog 25 sp_r9_AddsUp := fun_ok (X := cx_r9_AddsUp) (.cons ok_r9_reopened hb_r9_reopened (.cons ok_r9_cmp hb_r9_cmp (.nil _))) (by kernel_rfl) sp_r9_AddsUp anns_r9_AddsUp none (by kernel_rfl) (fun x y h => (den_r9_AddsUp x).trans h)

def anns_l9_OrderQuantitiesAddUp : List (Nat × Ann) := [(5, ⟨[(7, .val (.slice t_api_State)), (26, .val (.slice t_api_State)), (27, .val tI), (28, .val tI)], [], [], fuelOf _⟩),
 (200005, ⟨[(7, .val (.slice t_api_State))], [], [], fun _ => 0⟩),
 (300003, ⟨[(6, .val .bool)], [], [], fun _ => 0⟩),
 (300007, ⟨[(50, .val .bool)], [], [], fun _ => 0⟩),
 (300010, ⟨[(6, .val .bool)], [], [], fun _ => 0⟩)]

noncomputable def sp_l9_OrderQuantitiesAddUp : FSpec := ⟨[.val t_api_Order, .val (.slice t_api_Deed), .val tI], [.val .bool], fun x => l9_OrderQuantitiesAddUp x.1 x.2.1 x.2.2.1⟩

noncomputable def cx_l9_OrderQuantitiesAddUp : Cx := ⟨Tryz.prog, [(16, sp_l9_awake), (23, sp_order_LinesAt), (25, sp_r9_AddsUp)], []⟩

theorem den_l9_OrderQuantitiesAddUp : ∀ x, denF cx_l9_OrderQuantitiesAddUp anns_l9_OrderQuantitiesAddUp none Tryz.f6 sp_l9_OrderQuantitiesAddUp x = sp_l9_OrderQuantitiesAddUp.m x := by intro x; kernel_rfl

theorem ok_l9_OrderQuantitiesAddUp : FunOk Tryz.prog 6 sp_l9_OrderQuantitiesAddUp := fun_ok (X := cx_l9_OrderQuantitiesAddUp) (.cons ok_l9_awake hb_l9_awake (.cons ok_order_LinesAt hb_order_LinesAt (.cons ok_r9_AddsUp hb_r9_AddsUp (.nil _)))) (by kernel_rfl) sp_l9_OrderQuantitiesAddUp anns_l9_OrderQuantitiesAddUp none (by kernel_rfl) (fun x y h => (den_l9_OrderQuantitiesAddUp x).trans h)

def anns_order_Latest : List (Nat × Ann) := [(7, ⟨[(4, .ref 4 0), (8, .ref 8 0), (25, .rowR 62736), (26, .val tI), (27, .val tI)], [(4, [.val .str, .val .str, .val .str, .val tI, .val tI, .own 110 t_api_Line]), (8, [.val .str, .val .str, .val .str, .val tI, .val tI, .own 110 t_api_Line])], [.rowC 62736 101 .hnd, .ar t_order_line], fuelOf _⟩),
 (200007, ⟨[(4, .ref 4 0), (8, .ref 8 0)], [(4, [.val .str, .val .str, .val .str, .val tI, .val tI, .own 110 t_api_Line]), (8, [.val .str, .val .str, .val .str, .val tI, .val tI, .own 110 t_api_Line])], [.ar t_order_line], fun _ => 0⟩)]

noncomputable def sp_order_Latest : FSpec := ⟨[.val t_api_Order, .val (.slice t_api_Deed)], [.val t_api_Order, .val tI], fun x => order_Latest x.1 x.2.1⟩

noncomputable def cx_order_Latest : Cx := ⟨Tryz.prog, [(55, sp_order_at_e), (55, sp_order_at), (56, sp_order_follower_sorted), (57, sp_order_line_state)], []⟩

theorem den_order_Latest : ∀ x, denF cx_order_Latest anns_order_Latest (some t_order_line) Tryz.f26 sp_order_Latest x = sp_order_Latest.m x := by intro x; kernel_rfl

theorem hb_order_Latest : HasBody Tryz.prog 26 := has_body (fn := Tryz.f26) (by kernel_rfl) rfl (by decide)

theorem ok_order_Latest : FunOk Tryz.prog 26 sp_order_Latest := fun_ok (X := cx_order_Latest) (.cons ok_order_at_e hb_order_at_e (.cons ok_order_at hb_order_at (.cons ok_order_follower_sorted hb_order_follower_sorted (.cons ok_order_line_state hb_order_line_state (.nil _))))) (by kernel_rfl) sp_order_Latest anns_order_Latest (some t_order_line) (by kernel_rfl) (fun x y h => (den_order_Latest x).trans h)

def anns_slices_Equal_api_Line : List (Nat × Ann) := [(4, ⟨[(0, .val (.slice t_api_Line)), (1, .val (.slice t_api_Line)), (12, .val tI), (13, .val tI)], [], [], fuelOf _⟩),
 (200004, ⟨[], [], [], fun _ => 0⟩)]

noncomputable def sp_slices_Equal_api_Line : FSpec := ⟨[.val (.slice t_api_Line), .val (.slice t_api_Line)], [.val .bool], fun x => slices_Equal_api_Line x.1 x.2.1⟩

noncomputable def cx_slices_Equal_api_Line : Cx := ⟨Tryz.prog, [], []⟩

theorem den_slices_Equal_api_Line : ∀ x, denF cx_slices_Equal_api_Line anns_slices_Equal_api_Line none Tryz.f60 sp_slices_Equal_api_Line x = sp_slices_Equal_api_Line.m x := by intro x; kernel_rfl

theorem hb_slices_Equal_api_Line : HasBody Tryz.prog 60 := has_body (fn := Tryz.f60) (by kernel_rfl) rfl (by decide)

theorem ok_slices_Equal_api_Line : FunOk Tryz.prog 60 sp_slices_Equal_api_Line := fun_ok (X := cx_slices_Equal_api_Line) (.nil _) (by kernel_rfl) sp_slices_Equal_api_Line anns_slices_Equal_api_Line none (by kernel_rfl) (fun x y h => (den_slices_Equal_api_Line x).trans h)

def anns_r9_SameOrder : List (Nat × Ann) := [(300001, ⟨[(4, .val .bool)], [], [], fun _ => 0⟩)]

noncomputable def sp_r9_SameOrder : FSpec := ⟨[.val t_api_Order, .val t_api_Order], [.val .bool], fun x => r9_SameOrder x.1 x.2.1⟩

noncomputable def cx_r9_SameOrder : Cx := ⟨Tryz.prog, [(60, sp_slices_Equal_api_Line)], []⟩

theorem den_r9_SameOrder : ∀ x, denF cx_r9_SameOrder anns_r9_SameOrder none Tryz.f27 sp_r9_SameOrder x = sp_r9_SameOrder.m x := by intro x; kernel_rfl

theorem hb_r9_SameOrder : HasBody Tryz.prog 27 := has_body (fn := Tryz.f27) (by kernel_rfl) rfl (by decide)

theorem ok_r9_SameOrder : FunOk Tryz.prog 27 sp_r9_SameOrder := fun_ok (X := cx_r9_SameOrder) (.cons ok_slices_Equal_api_Line hb_slices_Equal_api_Line (.nil _)) (by kernel_rfl) sp_r9_SameOrder anns_r9_SameOrder none (by kernel_rfl) (fun x y h => (den_r9_SameOrder x).trans h)

def anns_l9_OrderLatestIsAnOrder : List (Nat × Ann) := [(300003, ⟨[(4, .val .bool)], [], [], fun _ => 0⟩),
 (300005, ⟨[(4, .val .bool)], [], [], fun _ => 0⟩)]

noncomputable def sp_l9_OrderLatestIsAnOrder : FSpec := ⟨[.val t_api_Order, .val (.slice t_api_Deed)], [.val .bool], fun x => l9_OrderLatestIsAnOrder x.1 x.2.1⟩

noncomputable def cx_l9_OrderLatestIsAnOrder : Cx := ⟨Tryz.prog, [(11, sp_order_CheckOrder), (16, sp_l9_awake), (26, sp_order_Latest), (27, sp_r9_SameOrder)], []⟩

theorem den_l9_OrderLatestIsAnOrder : ∀ x, denF cx_l9_OrderLatestIsAnOrder anns_l9_OrderLatestIsAnOrder none Tryz.f7 sp_l9_OrderLatestIsAnOrder x = sp_l9_OrderLatestIsAnOrder.m x := by intro x; kernel_rfl

theorem ok_l9_OrderLatestIsAnOrder : FunOk Tryz.prog 7 sp_l9_OrderLatestIsAnOrder := fun_ok (X := cx_l9_OrderLatestIsAnOrder) (.cons ok_order_CheckOrder hb_order_CheckOrder (.cons ok_l9_awake hb_l9_awake (.cons ok_order_Latest hb_order_Latest (.cons ok_r9_SameOrder hb_r9_SameOrder (.nil _))))) (by kernel_rfl) sp_l9_OrderLatestIsAnOrder anns_l9_OrderLatestIsAnOrder none (by kernel_rfl) (fun x y h => (den_l9_OrderLatestIsAnOrder x).trans h)

end Go.Proofs.SeatA
