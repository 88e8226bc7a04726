/-
 Each function that the law reaches is as its plain model says, second part. No condition.
-/
import Derived.Test.YtcoofjaonlccjaaGreatDoorUw
set_option linter.all false
set_option maxRecDepth 100000
namespace Go.Proofs.SeatA
open Go.Dn Go.Md Go.Proofs

def anns_internal_stringslite_HasSuffix : List (Nat × Ann) := []

noncomputable def sp_internal_stringslite_HasSuffix : FSpec := ⟨[.val .str, .val .str], [.val .bool], fun x => internal_stringslite_HasSuffix x.1 x.2.1⟩

noncomputable def cx_internal_stringslite_HasSuffix : Cx := ⟨Tryz.prog, [], []⟩

theorem den_internal_stringslite_HasSuffix : ∀ x, denF cx_internal_stringslite_HasSuffix anns_internal_stringslite_HasSuffix none Tryz.f196 sp_internal_stringslite_HasSuffix x = sp_internal_stringslite_HasSuffix.m x := by intro x; kernel_rfl

theorem hb_internal_stringslite_HasSuffix : HasBody Tryz.prog 196 := has_body (fn := Tryz.f196) (by kernel_rfl) rfl (by decide)

theorem ok_internal_stringslite_HasSuffix : FunOk Tryz.prog 196 sp_internal_stringslite_HasSuffix := fun_ok (X := cx_internal_stringslite_HasSuffix) (.nil _) (by kernel_rfl) sp_internal_stringslite_HasSuffix anns_internal_stringslite_HasSuffix none (by kernel_rfl) (fun x y h => (den_internal_stringslite_HasSuffix x).trans h)

def anns_internal_stringslite_CutSuffix : List (Nat × Ann) := []

noncomputable def sp_internal_stringslite_CutSuffix : FSpec := ⟨[.val .str, .val .str], [.val .str, .val .bool], fun x => internal_stringslite_CutSuffix x.1 x.2.1⟩

noncomputable def cx_internal_stringslite_CutSuffix : Cx := ⟨Tryz.prog, [(196, sp_internal_stringslite_HasSuffix)], []⟩

theorem den_internal_stringslite_CutSuffix : ∀ x, denF cx_internal_stringslite_CutSuffix anns_internal_stringslite_CutSuffix none Tryz.f172 sp_internal_stringslite_CutSuffix x = sp_internal_stringslite_CutSuffix.m x := by intro x; kernel_rfl

theorem hb_internal_stringslite_CutSuffix : HasBody Tryz.prog 172 := has_body (fn := Tryz.f172) (by kernel_rfl) rfl (by decide)

theorem ok_internal_stringslite_CutSuffix : FunOk Tryz.prog 172 sp_internal_stringslite_CutSuffix := fun_ok (X := cx_internal_stringslite_CutSuffix) (.cons ok_internal_stringslite_HasSuffix hb_internal_stringslite_HasSuffix (.nil _)) (by kernel_rfl) sp_internal_stringslite_CutSuffix anns_internal_stringslite_CutSuffix none (by kernel_rfl) (fun x y h => (den_internal_stringslite_CutSuffix x).trans h)

def anns_strings_CutSuffix : List (Nat × Ann) := []

noncomputable def sp_strings_CutSuffix : FSpec := ⟨[.val .str, .val .str], [.val .str, .val .bool], fun x => strings_CutSuffix x.1 x.2.1⟩

noncomputable def cx_strings_CutSuffix : Cx := ⟨Tryz.prog, [(172, sp_internal_stringslite_CutSuffix)], []⟩

theorem den_strings_CutSuffix : ∀ x, denF cx_strings_CutSuffix anns_strings_CutSuffix none Tryz.f121 sp_strings_CutSuffix x = sp_strings_CutSuffix.m x := by intro x; kernel_rfl

theorem hb_strings_CutSuffix : HasBody Tryz.prog 121 := has_body (fn := Tryz.f121) (by kernel_rfl) rfl (by decide)

theorem ok_strings_CutSuffix : FunOk Tryz.prog 121 sp_strings_CutSuffix := fun_ok (X := cx_strings_CutSuffix) (.cons ok_internal_stringslite_CutSuffix hb_internal_stringslite_CutSuffix (.nil _)) (by kernel_rfl) sp_strings_CutSuffix anns_strings_CutSuffix none (by kernel_rfl) (fun x y h => (den_strings_CutSuffix x).trans h)

def anns_kit_Lines : List (Nat × Ann) := []

noncomputable def sp_kit_Lines : FSpec := ⟨[.val .str], [.val (.slice .str), .val .bool], fun x => kit_Lines x.1⟩

noncomputable def cx_kit_Lines : Cx := ⟨Tryz.prog, [(121, sp_strings_CutSuffix), (122, sp_strings_Split)], []⟩

theorem den_kit_Lines : ∀ x, denF cx_kit_Lines anns_kit_Lines none Tryz.f81 sp_kit_Lines x = sp_kit_Lines.m x := by intro x; kernel_rfl

theorem hb_kit_Lines : HasBody Tryz.prog 81 := has_body (fn := Tryz.f81) (by kernel_rfl) rfl (by decide)

theorem ok_kit_Lines : FunOk Tryz.prog 81 sp_kit_Lines := fun_ok (X := cx_kit_Lines) (.cons ok_strings_CutSuffix hb_strings_CutSuffix (.cons ok_strings_Split hb_strings_Split (.nil _))) (by kernel_rfl) sp_kit_Lines anns_kit_Lines none (by kernel_rfl) (fun x y h => (den_kit_Lines x).trans h)

def anns_kit_Words : List (Nat × Ann) := [(3, ⟨[(4, .rowR 27920), (9, .rowR 27920), (10, .val tI), (11, .val tI)], [], [.rowC 27920 9 .str], fuelOf _⟩),
 (200003, ⟨[(4, .rowR 27920)], [], [.rowC 27920 9 .str], fun _ => 0⟩)]

noncomputable def sp_kit_Words : FSpec := ⟨[.val .str], [.val (.slice .str), .val .bool], fun x => kit_Words x.1⟩

noncomputable def cx_kit_Words : Cx := ⟨Tryz.prog, [(122, sp_strings_Split)], []⟩

theorem den_kit_Words : ∀ x, denF cx_kit_Words anns_kit_Words none Tryz.f123 sp_kit_Words x = sp_kit_Words.m x := by intro x; kernel_rfl

theorem hb_kit_Words : HasBody Tryz.prog 123 := has_body (fn := Tryz.f123) (by kernel_rfl) rfl (by decide)

theorem ok_kit_Words : FunOk Tryz.prog 123 sp_kit_Words := fun_ok (X := cx_kit_Words) (.cons ok_strings_Split hb_strings_Split (.nil _)) (by kernel_rfl) sp_kit_Words anns_kit_Words none (by kernel_rfl) (fun x y h => (den_kit_Words x).trans h)

def anns_order_words_next : List (Nat × Ann) := []

noncomputable def sp_order_words_next : FSpec := ⟨[.box [.val (.slice .str), .val .bool]], [.val .str], fun x => order_words_next x.1⟩

noncomputable def cx_order_words_next : Cx := ⟨Tryz.prog, [], []⟩

theorem den_order_words_next : ∀ x, denF cx_order_words_next anns_order_words_next none Tryz.f128 sp_order_words_next x = sp_order_words_next.m x := by intro x; kernel_rfl

theorem hb_order_words_next : HasBody Tryz.prog 128 := has_body (fn := Tryz.f128) (by kernel_rfl) rfl (by decide)

theorem ok_order_words_next : FunOk Tryz.prog 128 sp_order_words_next := fun_ok (X := cx_order_words_next) (.nil _) (by kernel_rfl) sp_order_words_next anns_order_words_next none (by kernel_rfl) (fun x y h => (den_order_words_next x).trans h)

def anns_order_words_number : List (Nat × Ann) := []

noncomputable def sp_order_words_number : FSpec := ⟨[.box [.val (.slice .str), .val .bool]], [.val tI], fun x => order_words_number x.1⟩

noncomputable def cx_order_words_number : Cx := ⟨Tryz.prog, [(128, sp_order_words_next), (174, sp_kit_Number)], []⟩

theorem den_order_words_number : ∀ x, denF cx_order_words_number anns_order_words_number none Tryz.f124 sp_order_words_number x = sp_order_words_number.m x := by intro x; kernel_rfl

theorem hb_order_words_number : HasBody Tryz.prog 124 := has_body (fn := Tryz.f124) (by kernel_rfl) rfl (by decide)

theorem ok_order_words_number : FunOk Tryz.prog 124 sp_order_words_number := fun_ok (X := cx_order_words_number) (.cons ok_order_words_next hb_order_words_next (.cons ok_kit_Number hb_kit_Number (.nil _))) (by kernel_rfl) sp_order_words_number anns_order_words_number none (by kernel_rfl) (fun x y h => (den_order_words_number x).trans h)

def anns_order_byWords : List (Nat × Ann) := []

noncomputable def sp_order_byWords : FSpec := ⟨[], [.val (.slice .str)], fun x => order_byWords ⟩

noncomputable def cx_order_byWords : Cx := ⟨Tryz.prog, [], []⟩

theorem den_order_byWords : ∀ x, denF cx_order_byWords anns_order_byWords none Tryz.f126 sp_order_byWords x = sp_order_byWords.m x := by intro x; kernel_rfl

theorem hb_order_byWords : HasBody Tryz.prog 126 := has_body (fn := Tryz.f126) (by kernel_rfl) rfl (by decide)

theorem ok_order_byWords : FunOk Tryz.prog 126 sp_order_byWords := fun_ok (X := cx_order_byWords) (.nil _) (by kernel_rfl) sp_order_byWords anns_order_byWords none (by kernel_rfl) (fun x y h => (den_order_byWords x).trans h)

def anns_slices_Index_string : List (Nat × Ann) := [(2, ⟨[(0, .val (.slice .str)), (1, .val .str), (7, .val tI), (8, .val tI)], [], [], fuelOf _⟩),
 (200002, ⟨[], [], [], fun _ => 0⟩)]

noncomputable def sp_slices_Index_string : FSpec := ⟨[.val (.slice .str), .val .str], [.val tI], fun x => slices_Index_string x.1 x.2.1⟩

noncomputable def cx_slices_Index_string : Cx := ⟨Tryz.prog, [], []⟩

theorem den_slices_Index_string : ∀ x, denF cx_slices_Index_string anns_slices_Index_string none Tryz.f175 sp_slices_Index_string x = sp_slices_Index_string.m x := by intro x; kernel_rfl

theorem hb_slices_Index_string : HasBody Tryz.prog 175 := has_body (fn := Tryz.f175) (by kernel_rfl) rfl (by decide)

theorem ok_slices_Index_string : FunOk Tryz.prog 175 sp_slices_Index_string := fun_ok (X := cx_slices_Index_string) (.nil _) (by kernel_rfl) sp_slices_Index_string anns_slices_Index_string none (by kernel_rfl) (fun x y h => (den_slices_Index_string x).trans h)

def anns_order_words_index : List (Nat × Ann) := []

noncomputable def sp_order_words_index : FSpec := ⟨[.box [.val (.slice .str), .val .bool], .val (.slice .str)], [.val tI], fun x => order_words_index x.1 x.2.1⟩

noncomputable def cx_order_words_index : Cx := ⟨Tryz.prog, [(128, sp_order_words_next), (175, sp_slices_Index_string)], []⟩

theorem den_order_words_index : ∀ x, denF cx_order_words_index anns_order_words_index none Tryz.f125 sp_order_words_index x = sp_order_words_index.m x := by intro x; kernel_rfl

theorem hb_order_words_index : HasBody Tryz.prog 125 := has_body (fn := Tryz.f125) (by kernel_rfl) rfl (by decide)

theorem ok_order_words_index : FunOk Tryz.prog 125 sp_order_words_index := fun_ok (X := cx_order_words_index) (.cons ok_order_words_next hb_order_words_next (.cons ok_slices_Index_string hb_slices_Index_string (.nil _))) (by kernel_rfl) sp_order_words_index anns_order_words_index none (by kernel_rfl) (fun x y h => (den_order_words_index x).trans h)

def anns_order_kindWords : List (Nat × Ann) := []

noncomputable def sp_order_kindWords : FSpec := ⟨[], [.val (.slice .str)], fun x => order_kindWords ⟩

noncomputable def cx_order_kindWords : Cx := ⟨Tryz.prog, [], []⟩

theorem den_order_kindWords : ∀ x, denF cx_order_kindWords anns_order_kindWords none Tryz.f127 sp_order_kindWords x = sp_order_kindWords.m x := by intro x; kernel_rfl

theorem hb_order_kindWords : HasBody Tryz.prog 127 := has_body (fn := Tryz.f127) (by kernel_rfl) rfl (by decide)

theorem ok_order_kindWords : FunOk Tryz.prog 127 sp_order_kindWords := fun_ok (X := cx_order_kindWords) (.nil _) (by kernel_rfl) sp_order_kindWords anns_order_kindWords none (by kernel_rfl) (fun x y h => (den_order_kindWords x).trans h)

def anns_internal_stringslite_HasPrefix : List (Nat × Ann) := []

noncomputable def sp_internal_stringslite_HasPrefix : FSpec := ⟨[.val .str, .val .str], [.val .bool], fun x => internal_stringslite_HasPrefix x.1 x.2.1⟩

noncomputable def cx_internal_stringslite_HasPrefix : Cx := ⟨Tryz.prog, [], []⟩

theorem den_internal_stringslite_HasPrefix : ∀ x, denF cx_internal_stringslite_HasPrefix anns_internal_stringslite_HasPrefix none Tryz.f235 sp_internal_stringslite_HasPrefix x = sp_internal_stringslite_HasPrefix.m x := by intro x; kernel_rfl

theorem hb_internal_stringslite_HasPrefix : HasBody Tryz.prog 235 := has_body (fn := Tryz.f235) (by kernel_rfl) rfl (by decide)

theorem ok_internal_stringslite_HasPrefix : FunOk Tryz.prog 235 sp_internal_stringslite_HasPrefix := fun_ok (X := cx_internal_stringslite_HasPrefix) (.nil _) (by kernel_rfl) sp_internal_stringslite_HasPrefix anns_internal_stringslite_HasPrefix none (by kernel_rfl) (fun x y h => (den_internal_stringslite_HasPrefix x).trans h)

def anns_internal_stringslite_CutPrefix : List (Nat × Ann) := []

noncomputable def sp_internal_stringslite_CutPrefix : FSpec := ⟨[.val .str, .val .str], [.val .str, .val .bool], fun x => internal_stringslite_CutPrefix x.1 x.2.1⟩

noncomputable def cx_internal_stringslite_CutPrefix : Cx := ⟨Tryz.prog, [(235, sp_internal_stringslite_HasPrefix)], []⟩

theorem den_internal_stringslite_CutPrefix : ∀ x, denF cx_internal_stringslite_CutPrefix anns_internal_stringslite_CutPrefix none Tryz.f223 sp_internal_stringslite_CutPrefix x = sp_internal_stringslite_CutPrefix.m x := by intro x; kernel_rfl

theorem hb_internal_stringslite_CutPrefix : HasBody Tryz.prog 223 := has_body (fn := Tryz.f223) (by kernel_rfl) rfl (by decide)

theorem ok_internal_stringslite_CutPrefix : FunOk Tryz.prog 223 sp_internal_stringslite_CutPrefix := fun_ok (X := cx_internal_stringslite_CutPrefix) (.cons ok_internal_stringslite_HasPrefix hb_internal_stringslite_HasPrefix (.nil _)) (by kernel_rfl) sp_internal_stringslite_CutPrefix anns_internal_stringslite_CutPrefix none (by kernel_rfl) (fun x y h => (den_internal_stringslite_CutPrefix x).trans h)

def anns_strings_CutPrefix : List (Nat × Ann) := []

noncomputable def sp_strings_CutPrefix : FSpec := ⟨[.val .str, .val .str], [.val .str, .val .bool], fun x => strings_CutPrefix x.1 x.2.1⟩

noncomputable def cx_strings_CutPrefix : Cx := ⟨Tryz.prog, [(223, sp_internal_stringslite_CutPrefix)], []⟩

theorem den_strings_CutPrefix : ∀ x, denF cx_strings_CutPrefix anns_strings_CutPrefix none Tryz.f202 sp_strings_CutPrefix x = sp_strings_CutPrefix.m x := by intro x; kernel_rfl

theorem hb_strings_CutPrefix : HasBody Tryz.prog 202 := has_body (fn := Tryz.f202) (by kernel_rfl) rfl (by decide)

theorem ok_strings_CutPrefix : FunOk Tryz.prog 202 sp_strings_CutPrefix := fun_ok (X := cx_strings_CutPrefix) (.cons ok_internal_stringslite_CutPrefix hb_internal_stringslite_CutPrefix (.nil _)) (by kernel_rfl) sp_strings_CutPrefix anns_strings_CutPrefix none (by kernel_rfl) (fun x y h => (den_strings_CutPrefix x).trans h)

def anns_internal_stringslite_Index : List (Nat × Ann) := []

noncomputable def sp_internal_stringslite_Index : FSpec := ⟨[.val .str, .val .str], [.val tI], fun x => internal_stringslite_Index x.1 x.2.1⟩

noncomputable def cx_internal_stringslite_Index : Cx := ⟨Tryz.prog, [(228, sp_internal_stringslite_IndexByte)], []⟩

theorem den_internal_stringslite_Index : ∀ x, denF cx_internal_stringslite_Index anns_internal_stringslite_Index none Tryz.f219 sp_internal_stringslite_Index x = sp_internal_stringslite_Index.m x := by intro x; kernel_rfl

theorem hb_internal_stringslite_Index : HasBody Tryz.prog 219 := has_body (fn := Tryz.f219) (by kernel_rfl) rfl (by decide)

theorem ok_internal_stringslite_Index : FunOk Tryz.prog 219 sp_internal_stringslite_Index := fun_ok (X := cx_internal_stringslite_Index) (.cons ok_internal_stringslite_IndexByte hb_internal_stringslite_IndexByte (.nil _)) (by kernel_rfl) sp_internal_stringslite_Index anns_internal_stringslite_Index none (by kernel_rfl) (fun x y h => (den_internal_stringslite_Index x).trans h)

def anns_internal_stringslite_Cut : List (Nat × Ann) := []

noncomputable def sp_internal_stringslite_Cut : FSpec := ⟨[.val .str, .val .str], [.val .str, .val .str, .val .bool], fun x => internal_stringslite_Cut x.1 x.2.1⟩

noncomputable def cx_internal_stringslite_Cut : Cx := ⟨Tryz.prog, [(219, sp_internal_stringslite_Index)], []⟩

theorem den_internal_stringslite_Cut : ∀ x, denF cx_internal_stringslite_Cut anns_internal_stringslite_Cut none Tryz.f224 sp_internal_stringslite_Cut x = sp_internal_stringslite_Cut.m x := by intro x; kernel_rfl

theorem hb_internal_stringslite_Cut : HasBody Tryz.prog 224 := has_body (fn := Tryz.f224) (by kernel_rfl) rfl (by decide)

theorem ok_internal_stringslite_Cut : FunOk Tryz.prog 224 sp_internal_stringslite_Cut := fun_ok (X := cx_internal_stringslite_Cut) (.cons ok_internal_stringslite_Index hb_internal_stringslite_Index (.nil _)) (by kernel_rfl) sp_internal_stringslite_Cut anns_internal_stringslite_Cut none (by kernel_rfl) (fun x y h => (den_internal_stringslite_Cut x).trans h)

def anns_strings_Cut : List (Nat × Ann) := []

noncomputable def sp_strings_Cut : FSpec := ⟨[.val .str, .val .str], [.val .str, .val .str, .val .bool], fun x => strings_Cut x.1 x.2.1⟩

noncomputable def cx_strings_Cut : Cx := ⟨Tryz.prog, [(224, sp_internal_stringslite_Cut)], []⟩

theorem den_strings_Cut : ∀ x, denF cx_strings_Cut anns_strings_Cut none Tryz.f203 sp_strings_Cut x = sp_strings_Cut.m x := by intro x; kernel_rfl

theorem hb_strings_Cut : HasBody Tryz.prog 203 := has_body (fn := Tryz.f203) (by kernel_rfl) rfl (by decide)

theorem ok_strings_Cut : FunOk Tryz.prog 203 sp_strings_Cut := fun_ok (X := cx_strings_Cut) (.cons ok_internal_stringslite_Cut hb_internal_stringslite_Cut (.nil _)) (by kernel_rfl) sp_strings_Cut anns_strings_Cut none (by kernel_rfl) (fun x y h => (den_strings_Cut x).trans h)

def anns_amount_isWhole : List (Nat × Ann) := [(300001, ⟨[(2, .val .bool)], [], [], fun _ => 0⟩)]

noncomputable def sp_amount_isWhole : FSpec := ⟨[.val .str], [.val .bool], fun x => amount_isWhole x.1⟩

noncomputable def cx_amount_isWhole : Cx := ⟨Tryz.prog, [(200, sp_kit_IsDigits)], []⟩

theorem den_amount_isWhole : ∀ x, denF cx_amount_isWhole anns_amount_isWhole none Tryz.f204 sp_amount_isWhole x = sp_amount_isWhole.m x := by intro x; kernel_rfl

theorem hb_amount_isWhole : HasBody Tryz.prog 204 := has_body (fn := Tryz.f204) (by kernel_rfl) rfl (by decide)

theorem ok_amount_isWhole : FunOk Tryz.prog 204 sp_amount_isWhole := fun_ok (X := cx_amount_isWhole) (.cons ok_kit_IsDigits hb_kit_IsDigits (.nil _)) (by kernel_rfl) sp_amount_isWhole anns_amount_isWhole none (by kernel_rfl) (fun x y h => (den_amount_isWhole x).trans h)

def anns_whole_Int_Times : List (Nat × Ann) := [(3, ⟨[(2, .ref 2 0), (3, .ref 3 0), (4, .ref 4 0), (5, .rowR 18), (20, .val (.slice (.int .u32))), (21, .val tI), (22, .val tI)], [(2, [.val .bool, .val (.slice (.int .u32))]), (3, [.val .bool, .val (.slice (.int .u32))]), (4, [.val .bool, .own 163 (.int .u32)])], [.rowC 18 163 (.int .u32)], fuelOf _⟩),
 (7, ⟨[(2, .ref 2 0), (3, .ref 3 0), (4, .ref 4 0), (5, .rowR 18), (6, .val tI), (7, .val (.int .u32)), (8, .val (.int .u64)), (20, .val (.slice (.int .u32))), (21, .val tI), (22, .val tI), (28, .val (.slice (.int .u32))), (29, .val tI), (30, .val tI)], [(2, [.val .bool, .val (.slice (.int .u32))]), (3, [.val .bool, .val (.slice (.int .u32))]), (4, [.val .bool, .own 163 (.int .u32)])], [.rowC 18 163 (.int .u32)], fuelOf _⟩),
 (200003, ⟨[(2, .ref 2 0), (3, .ref 3 0), (4, .ref 4 0), (5, .rowR 18)], [(2, [.val .bool, .val (.slice (.int .u32))]), (3, [.val .bool, .val (.slice (.int .u32))]), (4, [.val .bool, .own 163 (.int .u32)])], [.rowC 18 163 (.int .u32)], fun _ => 0⟩),
 (200007, ⟨[(2, .ref 2 0), (3, .ref 3 0), (4, .ref 4 0), (5, .rowR 18), (6, .val tI), (8, .val (.int .u64)), (20, .val (.slice (.int .u32))), (21, .val tI), (22, .val tI)], [(2, [.val .bool, .val (.slice (.int .u32))]), (3, [.val .bool, .val (.slice (.int .u32))]), (4, [.val .bool, .own 163 (.int .u32)])], [.rowC 18 163 (.int .u32)], fun _ => 0⟩)]

noncomputable def sp_whole_Int_Times : FSpec := ⟨[.val t_whole_Int, .val t_whole_Int], [.val t_whole_Int], fun x => whole_Int_Times x.1 x.2.1⟩

noncomputable def cx_whole_Int_Times : Cx := ⟨Tryz.prog, [(184, sp_whole_made)], []⟩

theorem den_whole_Int_Times : ∀ x, denF cx_whole_Int_Times anns_whole_Int_Times none Tryz.f225 sp_whole_Int_Times x = sp_whole_Int_Times.m x := by intro x; kernel_rfl

theorem hb_whole_Int_Times : HasBody Tryz.prog 225 := has_body (fn := Tryz.f225) (by kernel_rfl) rfl (by decide)

theorem ok_whole_Int_Times : FunOk Tryz.prog 225 sp_whole_Int_Times := fun_ok (X := cx_whole_Int_Times) (.cons ok_whole_made hb_whole_made (.nil _)) (by kernel_rfl) sp_whole_Int_Times anns_whole_Int_Times none (by kernel_rfl) (fun x y h => (den_whole_Int_Times x).trans h)

def anns_whole_Int_Plus : List (Nat × Ann) := []

noncomputable def sp_whole_Int_Plus : FSpec := ⟨[.val t_whole_Int, .val t_whole_Int], [.val t_whole_Int], fun x => whole_Int_Plus x.1 x.2.1⟩

noncomputable def cx_whole_Int_Plus : Cx := ⟨Tryz.prog, [(184, sp_whole_made), (207, sp_whole_sum_v), (209, sp_whole_compare), (210, sp_whole_less)], []⟩

theorem den_whole_Int_Plus : ∀ x, denF cx_whole_Int_Plus anns_whole_Int_Plus none Tryz.f226 sp_whole_Int_Plus x = sp_whole_Int_Plus.m x := by intro x; kernel_rfl

theorem hb_whole_Int_Plus : HasBody Tryz.prog 226 := has_body (fn := Tryz.f226) (by kernel_rfl) rfl (by decide)

theorem ok_whole_Int_Plus : FunOk Tryz.prog 226 sp_whole_Int_Plus := fun_ok (X := cx_whole_Int_Plus) (.cons ok_whole_made hb_whole_made (.cons ok_whole_sum_v hb_whole_sum_v (.cons ok_whole_compare hb_whole_compare (.cons ok_whole_less hb_whole_less (.nil _))))) (by kernel_rfl) sp_whole_Int_Plus anns_whole_Int_Plus none (by kernel_rfl) (fun x y h => (den_whole_Int_Plus x).trans h)

def anns_amount_read : List (Nat × Ann) := [(3, ⟨[(0, .val .bool), (1, .val .str), (2, .val .str), (6, .ref 6 0), (8, .ref 8 0), (14, .val tI), (15, .val tI)], [(6, [.val tI, .val tI]), (8, [.val .bool, .val (.slice (.int .u32))])], [], fuelOf _⟩),
 (200003, ⟨[(0, .val .bool), (2, .val .str), (6, .ref 6 0), (8, .ref 8 0)], [(6, [.val tI, .val tI]), (8, [.val .bool, .val (.slice (.int .u32))])], [], fun _ => 0⟩)]

noncomputable def sp_amount_read : FSpec := ⟨[.val .bool, .val .str, .val .str], [.val t_api_Decimal, .val tI], fun x => amount_read x.1 x.2.1 x.2.2.1⟩

noncomputable def cx_amount_read : Cx := ⟨Tryz.prog, [(146, sp_whole_Of), (181, sp_whole_Int_Sign), (182, sp_whole_Int_Minus), (183, sp_amount_Made), (225, sp_whole_Int_Times), (226, sp_whole_Int_Plus)], []⟩

theorem den_amount_read : ∀ x, denF cx_amount_read anns_amount_read none Tryz.f205 sp_amount_read x = sp_amount_read.m x := by intro x; kernel_rfl

theorem hb_amount_read : HasBody Tryz.prog 205 := has_body (fn := Tryz.f205) (by kernel_rfl) rfl (by decide)

theorem ok_amount_read : FunOk Tryz.prog 205 sp_amount_read := fun_ok (X := cx_amount_read) (.cons ok_whole_Of hb_whole_Of (.cons ok_whole_Int_Sign hb_whole_Int_Sign (.cons ok_whole_Int_Minus hb_whole_Int_Minus (.cons ok_amount_Made hb_amount_Made (.cons ok_whole_Int_Times hb_whole_Int_Times (.cons ok_whole_Int_Plus hb_whole_Int_Plus (.nil _))))))) (by kernel_rfl) sp_amount_read anns_amount_read none (by kernel_rfl) (fun x y h => (den_amount_read x).trans h)

def anns_amount_ReadText : List (Nat × Ann) := [(300003, ⟨[(40, .val .bool)], [], [], fun _ => 0⟩)]

noncomputable def sp_amount_ReadText : FSpec := ⟨[.val .str], [.val t_api_Decimal, .val tI], fun x => amount_ReadText x.1⟩

noncomputable def cx_amount_ReadText : Cx := ⟨Tryz.prog, [(200, sp_kit_IsDigits), (202, sp_strings_CutPrefix), (203, sp_strings_Cut), (204, sp_amount_isWhole), (205, sp_amount_read)], []⟩

theorem den_amount_ReadText : ∀ x, denF cx_amount_ReadText anns_amount_ReadText none Tryz.f176 sp_amount_ReadText x = sp_amount_ReadText.m x := by intro x; kernel_rfl

theorem hb_amount_ReadText : HasBody Tryz.prog 176 := has_body (fn := Tryz.f176) (by kernel_rfl) rfl (by decide)

theorem ok_amount_ReadText : FunOk Tryz.prog 176 sp_amount_ReadText := fun_ok (X := cx_amount_ReadText) (.cons ok_kit_IsDigits hb_kit_IsDigits (.cons ok_strings_CutPrefix hb_strings_CutPrefix (.cons ok_strings_Cut hb_strings_Cut (.cons ok_amount_isWhole hb_amount_isWhole (.cons ok_amount_read hb_amount_read (.nil _)))))) (by kernel_rfl) sp_amount_ReadText anns_amount_ReadText none (by kernel_rfl) (fun x y h => (den_amount_ReadText x).trans h)

def anns_order_words_decimal : List (Nat × Ann) := []

noncomputable def sp_order_words_decimal : FSpec := ⟨[.box [.val (.slice .str), .val .bool]], [.val t_api_Decimal], fun x => order_words_decimal x.1⟩

noncomputable def cx_order_words_decimal : Cx := ⟨Tryz.prog, [(128, sp_order_words_next), (176, sp_amount_ReadText)], []⟩

theorem den_order_words_decimal : ∀ x, denF cx_order_words_decimal anns_order_words_decimal none Tryz.f129 sp_order_words_decimal x = sp_order_words_decimal.m x := by intro x; kernel_rfl

theorem hb_order_words_decimal : HasBody Tryz.prog 129 := has_body (fn := Tryz.f129) (by kernel_rfl) rfl (by decide)

theorem ok_order_words_decimal : FunOk Tryz.prog 129 sp_order_words_decimal := fun_ok (X := cx_order_words_decimal) (.cons ok_order_words_next hb_order_words_next (.cons ok_amount_ReadText hb_amount_ReadText (.nil _))) (by kernel_rfl) sp_order_words_decimal anns_order_words_decimal none (by kernel_rfl) (fun x y h => (den_order_words_decimal x).trans h)

def anns_order_readDeed : List (Nat × Ann) := [(100008, ⟨[(2, .ref 2 0), (6, .ref 19 0), (7, .ref 7 0), (8, .ref 8 0)], [(2, [.val tI, .val tI, .val tI, .val tI, .val tI, .val .str, .val tI, .val tI, .val .str, .val tI, .val tI, .val tI, .val tI]), (7, [.val tI, .val tI, .val tI, .val tI, .val tI, .val .str, .val tI, .val tI, .val .str, .val tI, .val tI, .val tI, .val tI]), (8, [.val .bool, .val .bool, .val .bool, .val .bool, .val .bool, .val .bool]), (19, [.val (.slice .str), .val .bool])], [], fun _ => 0⟩),
 (100010, ⟨[(2, .ref 2 0), (6, .ref 19 0), (7, .ref 7 0), (8, .ref 8 0)], [(2, [.val tI, .val tI, .val tI, .val tI, .val tI, .val .str, .val tI, .val tI, .val .str, .val tI, .val tI, .val tI, .val tI]), (7, [.val tI, .val tI, .val tI, .val tI, .val tI, .val .str, .val tI, .val tI, .val .str, .val tI, .val tI, .val tI, .val tI]), (8, [.val .bool, .val .bool, .val .bool, .val .bool, .val .bool, .val .bool]), (19, [.val (.slice .str), .val .bool])], [], fun _ => 0⟩),
 (100012, ⟨[(2, .ref 2 0), (6, .ref 19 0), (7, .ref 7 0), (8, .ref 8 0)], [(2, [.val tI, .val tI, .val tI, .val tI, .val tI, .val .str, .val tI, .val tI, .val .str, .val tI, .val tI, .val tI, .val tI]), (7, [.val tI, .val tI, .val tI, .val tI, .val tI, .val .str, .val tI, .val tI, .val .str, .val tI, .val tI, .val tI, .val tI]), (8, [.val .bool, .val .bool, .val .bool, .val .bool, .val .bool, .val .bool]), (19, [.val (.slice .str), .val .bool])], [], fun _ => 0⟩),
 (100014, ⟨[(2, .ref 2 0), (6, .ref 19 0), (7, .ref 7 0), (8, .ref 8 0)], [(2, [.val tI, .val tI, .val tI, .val tI, .val tI, .val .str, .val tI, .val tI, .val .str, .val tI, .val tI, .val tI, .val tI]), (7, [.val tI, .val tI, .val tI, .val tI, .val tI, .val .str, .val tI, .val tI, .val .str, .val tI, .val tI, .val tI, .val tI]), (8, [.val .bool, .val .bool, .val .bool, .val .bool, .val .bool, .val .bool]), (19, [.val (.slice .str), .val .bool])], [], fun _ => 0⟩),
 (100016, ⟨[(2, .ref 2 0), (6, .ref 19 0), (7, .ref 7 0), (8, .ref 8 0)], [(2, [.val tI, .val tI, .val tI, .val tI, .val tI, .val .str, .val tI, .val tI, .val .str, .val tI, .val tI, .val tI, .val tI]), (7, [.val tI, .val tI, .val tI, .val tI, .val tI, .val .str, .val tI, .val tI, .val .str, .val tI, .val tI, .val tI, .val tI]), (8, [.val .bool, .val .bool, .val .bool, .val .bool, .val .bool, .val .bool]), (19, [.val (.slice .str), .val .bool])], [], fun _ => 0⟩),
 (100018, ⟨[(2, .ref 2 0), (6, .ref 19 0), (7, .ref 7 0)], [(2, [.val tI, .val tI, .val tI, .val tI, .val tI, .val .str, .val tI, .val tI, .val .str, .val tI, .val tI, .val tI, .val tI]), (7, [.val tI, .val tI, .val tI, .val tI, .val tI, .val .str, .val tI, .val tI, .val .str, .val tI, .val tI, .val tI, .val tI]), (19, [.val (.slice .str), .val .bool])], [], fun _ => 0⟩)]

noncomputable def sp_order_readDeed : FSpec := ⟨[.val .str], [.val t_api_Deed, .val .bool], fun x => order_readDeed x.1⟩

noncomputable def cx_order_readDeed : Cx := ⟨Tryz.prog, [(63, sp_order_usesOf), (123, sp_kit_Words), (124, sp_order_words_number), (125, sp_order_words_index), (126, sp_order_byWords), (127, sp_order_kindWords), (128, sp_order_words_next), (129, sp_order_words_decimal)], []⟩

theorem den_order_readDeed : ∀ x, denF cx_order_readDeed anns_order_readDeed none Tryz.f82 sp_order_readDeed x = sp_order_readDeed.m x := by intro x; kernel_rfl

theorem hb_order_readDeed : HasBody Tryz.prog 82 := has_body (fn := Tryz.f82) (by kernel_rfl) rfl (by decide)

theorem ok_order_readDeed : FunOk Tryz.prog 82 sp_order_readDeed := fun_ok (X := cx_order_readDeed) (.cons ok_order_usesOf hb_order_usesOf (.cons ok_kit_Words hb_kit_Words (.cons ok_order_words_number hb_order_words_number (.cons ok_order_words_index hb_order_words_index (.cons ok_order_byWords hb_order_byWords (.cons ok_order_kindWords hb_order_kindWords (.cons ok_order_words_next hb_order_words_next (.cons ok_order_words_decimal hb_order_words_decimal (.nil _))))))))) (by kernel_rfl) sp_order_readDeed anns_order_readDeed none (by kernel_rfl) (fun x y h => (den_order_readDeed x).trans h)

def anns_order_Read : List (Nat × Ann) := [(6, ⟨[(5, .val (.slice .str)), (6, .val .bool), (7, .own 35 t_api_Deed), (21, .val (.slice .str)), (22, .val tI), (23, .val tI)], [], [], fuelOf _⟩),
 (200006, ⟨[(7, .own 35 t_api_Deed)], [], [], fun _ => 0⟩),
 (300009, ⟨[(45, .val .bool)], [], [], fun _ => 0⟩)]

noncomputable def sp_order_Read : FSpec := ⟨[.val .str], [.row 35 t_api_Deed, .val tI, .val tI], fun x => order_Read x.1⟩

noncomputable def cx_order_Read : Cx := ⟨Tryz.prog, [(13, sp_order_CheckDeeds), (81, sp_kit_Lines), (82, sp_order_readDeed)], []⟩

theorem den_order_Read : ∀ x, denF cx_order_Read anns_order_Read none Tryz.f48 sp_order_Read x = sp_order_Read.m x := by intro x; kernel_rfl

theorem hb_order_Read : HasBody Tryz.prog 48 := has_body (fn := Tryz.f48) (by kernel_rfl) rfl (by decide)

theorem ok_order_Read : FunOk Tryz.prog 48 sp_order_Read := fun_ok (X := cx_order_Read) (.cons ok_order_CheckDeeds hb_order_CheckDeeds (.cons ok_kit_Lines hb_kit_Lines (.cons ok_order_readDeed hb_order_readDeed (.nil _)))) (by kernel_rfl) sp_order_Read anns_order_Read none (by kernel_rfl) (fun x y h => (den_order_Read x).trans h)

def anns_l9_awake : List (Nat × Ann) := [(300002, ⟨[(0, .val .bool)], [], [], fun _ => 0⟩)]

noncomputable def sp_l9_awake : FSpec := ⟨[], [.val .bool], fun x => l9_awake ⟩

noncomputable def cx_l9_awake : Cx := ⟨Tryz.prog, [(48, sp_order_Read)], []⟩

theorem den_l9_awake : ∀ x, denF cx_l9_awake anns_l9_awake none Tryz.f16 sp_l9_awake x = sp_l9_awake.m x := by intro x; kernel_rfl

theorem hb_l9_awake : HasBody Tryz.prog 16 := has_body (fn := Tryz.f16) (by kernel_rfl) rfl (by decide)

theorem ok_l9_awake : FunOk Tryz.prog 16 sp_l9_awake := fun_ok (X := cx_l9_awake) (.cons ok_order_Read hb_order_Read (.nil _)) (by kernel_rfl) sp_l9_awake anns_l9_awake none (by kernel_rfl) (fun x y h => (den_l9_awake x).trans h)



end Go.Proofs.SeatA

set_option maxRecDepth 100000
namespace Go.Proofs.SeatA
open Go.Dn Go.Md Go.Proofs

def anns_order_Answer_1 : List (Nat × Ann) := [(300001, ⟨[(3, .val .bool)], [], [], fun _ => 0⟩)]

noncomputable def sp_order_Answer_1 : FSpec := ⟨[.val t_api_Deed, .val (.ptr tI)], [.val .bool], fun x => order_Answer_1 x.1 x.2.1⟩

noncomputable def cx_order_Answer_1 : Cx := ⟨Tryz.prog, [], []⟩

theorem den_order_Answer_1 : ∀ x, denF cx_order_Answer_1 anns_order_Answer_1 none Tryz.f62 sp_order_Answer_1 x = sp_order_Answer_1.m x := by intro x; kernel_rfl

theorem hb_order_Answer_1 : HasBody Tryz.prog 62 := has_body (fn := Tryz.f62) (by kernel_rfl) rfl (by decide)

theorem ok_order_Answer_1 : FunOk Tryz.prog 62 sp_order_Answer_1 := fun_ok (X := cx_order_Answer_1) (.nil _) (by kernel_rfl) sp_order_Answer_1 anns_order_Answer_1 none (by kernel_rfl) (fun x y h => (den_order_Answer_1 x).trans h)

def anns_slices_IndexFunc_api_Deed : List (Nat × Ann) := [(2, ⟨[(0, .val (.slice t_api_Deed)), (1, .val (.clo 62 (.ptr tI))), (7, .val tI), (8, .val tI)], [], [], fuelOf _⟩),
 (200002, ⟨[], [], [], fun _ => 0⟩)]

noncomputable def sp_slices_IndexFunc_api_Deed : FSpec := ⟨[.val (.slice t_api_Deed), .val (.clo 62 (.ptr tI))], [.val tI], fun x => slices_IndexFunc_api_Deed x.1 x.2.1⟩

noncomputable def cx_slices_IndexFunc_api_Deed : Cx := ⟨Tryz.prog, [(62, sp_order_Answer_1)], []⟩

theorem den_slices_IndexFunc_api_Deed : ∀ x, denF cx_slices_IndexFunc_api_Deed anns_slices_IndexFunc_api_Deed none Tryz.f61 sp_slices_IndexFunc_api_Deed x = sp_slices_IndexFunc_api_Deed.m x := by intro x; kernel_rfl

theorem hb_slices_IndexFunc_api_Deed : HasBody Tryz.prog 61 := has_body (fn := Tryz.f61) (by kernel_rfl) rfl (by decide)

theorem ok_slices_IndexFunc_api_Deed : FunOk Tryz.prog 61 sp_slices_IndexFunc_api_Deed := fun_ok (X := cx_slices_IndexFunc_api_Deed) (.cons ok_order_Answer_1 hb_order_Answer_1 (.nil _)) (by kernel_rfl) sp_slices_IndexFunc_api_Deed anns_slices_IndexFunc_api_Deed none (by kernel_rfl) (fun x y h => (den_slices_IndexFunc_api_Deed x).trans h)

def anns_order_nextNo : List (Nat × Ann) := [(3, ⟨[(1, .val tI), (5, .val tI), (8, .val (.slice t_api_Deed)), (9, .val tI), (10, .val tI)], [], [], fuelOf _⟩),
 (200003, ⟨[(5, .val tI)], [], [], fun _ => 0⟩)]

noncomputable def sp_order_nextNo : FSpec := ⟨[.val (.slice t_api_Deed), .val tI], [.val tI], fun x => order_nextNo x.1 x.2.1⟩

noncomputable def cx_order_nextNo : Cx := ⟨Tryz.prog, [], []⟩

theorem den_order_nextNo : ∀ x, denF cx_order_nextNo anns_order_nextNo none Tryz.f50 sp_order_nextNo x = sp_order_nextNo.m x := by intro x; kernel_rfl

theorem hb_order_nextNo : HasBody Tryz.prog 50 := has_body (fn := Tryz.f50) (by kernel_rfl) rfl (by decide)

theorem ok_order_nextNo : FunOk Tryz.prog 50 sp_order_nextNo := fun_ok (X := cx_order_nextNo) (.nil _) (by kernel_rfl) sp_order_nextNo anns_order_nextNo none (by kernel_rfl) (fun x y h => (den_order_nextNo x).trans h)

def anns_order_Answer : List (Nat × Ann) := [(300007, ⟨[(41, .val .bool)], [], [], fun _ => 0⟩),
 (300018, ⟨[(16, .val .bool)], [], [], fun _ => 0⟩)]

noncomputable def sp_order_Answer : FSpec := ⟨[.val t_api_Order, .val (.slice t_api_Deed), .val tI, .val tI], [.val t_api_Deed, .val tI], fun x => order_Answer x.1 x.2.1 x.2.2.1 x.2.2.2.1⟩

noncomputable def cx_order_Answer : Cx := ⟨Tryz.prog, [(37, sp_kit_IsDay), (49, sp_order_checked), (50, sp_order_nextNo), (51, sp_order_newFollower), (52, sp_order_follower_run), (61, sp_slices_IndexFunc_api_Deed), (63, sp_order_usesOf), (64, sp_order_follower_answer)], []⟩

theorem den_order_Answer : ∀ x, denF cx_order_Answer anns_order_Answer (some t_order_line) Tryz.f28 sp_order_Answer x = sp_order_Answer.m x := by intro x; kernel_rfl

theorem hb_order_Answer : HasBody Tryz.prog 28 := has_body (fn := Tryz.f28) (by kernel_rfl) rfl (by decide)

theorem ok_order_Answer : FunOk Tryz.prog 28 sp_order_Answer := fun_ok (X := cx_order_Answer) (.cons ok_kit_IsDay hb_kit_IsDay (.cons ok_order_checked hb_order_checked (.cons ok_order_nextNo hb_order_nextNo (.cons ok_order_newFollower hb_order_newFollower (.cons ok_order_follower_run hb_order_follower_run (.cons ok_slices_IndexFunc_api_Deed hb_slices_IndexFunc_api_Deed (.cons ok_order_usesOf hb_order_usesOf (.cons ok_order_follower_answer hb_order_follower_answer (.nil _))))))))) (by kernel_rfl) sp_order_Answer anns_order_Answer (some t_order_line) (by kernel_rfl) (fun x y h => (den_order_Answer x).trans h)

def anns_order_Asked : List (Nat × Ann) := [(6, ⟨[(10, .own 3 tI), (24, .rowR 60688), (25, .val tI), (26, .val tI)], [], [.rowC 60688 101 .hnd, .ar t_order_line], fuelOf _⟩),
 (200006, ⟨[(10, .own 3 tI)], [], [.ar t_order_line], fun _ => 0⟩)]

noncomputable def sp_order_Asked : FSpec := ⟨[.val t_api_Order, .val (.slice t_api_Deed), .val tI], [.val (.slice tI), .val tI], fun x => order_Asked x.1 x.2.1 x.2.2.1⟩

noncomputable def cx_order_Asked : Cx := ⟨Tryz.prog, [(55, sp_order_at_e), (55, sp_order_at), (56, sp_order_follower_sorted), (65, sp_slices_Sort_int)], []⟩

theorem den_order_Asked : ∀ x, denF cx_order_Asked anns_order_Asked (some t_order_line) Tryz.f29 sp_order_Asked x = sp_order_Asked.m x := by intro x; kernel_rfl

theorem hb_order_Asked : HasBody Tryz.prog 29 := has_body (fn := Tryz.f29) (by kernel_rfl) rfl (by decide)

theorem ok_order_Asked : FunOk Tryz.prog 29 sp_order_Asked := fun_ok (X := cx_order_Asked) (.cons ok_order_at_e hb_order_at_e (.cons ok_order_at hb_order_at (.cons ok_order_follower_sorted hb_order_follower_sorted (.cons ok_slices_Sort_int hb_slices_Sort_int (.nil _))))) (by kernel_rfl) sp_order_Asked anns_order_Asked (some t_order_line) (by kernel_rfl) (fun x y h => (den_order_Asked x).trans h)

def anns_slices_Clone_api_Deed : List (Nat × Ann) := []

noncomputable def sp_slices_Clone_api_Deed : FSpec := ⟨[.val (.slice t_api_Deed)], [.row 35 t_api_Deed], fun x => slices_Clone_api_Deed x.1⟩

noncomputable def cx_slices_Clone_api_Deed : Cx := ⟨Tryz.prog, [], []⟩

theorem den_slices_Clone_api_Deed : ∀ x, denF cx_slices_Clone_api_Deed anns_slices_Clone_api_Deed none Tryz.f33 sp_slices_Clone_api_Deed x = sp_slices_Clone_api_Deed.m x := by intro x; kernel_rfl

theorem hb_slices_Clone_api_Deed : HasBody Tryz.prog 33 := has_body (fn := Tryz.f33) (by kernel_rfl) rfl (by decide)

theorem ok_slices_Clone_api_Deed : FunOk Tryz.prog 33 sp_slices_Clone_api_Deed := fun_ok (X := cx_slices_Clone_api_Deed) (.nil _) (by kernel_rfl) sp_slices_Clone_api_Deed anns_slices_Clone_api_Deed none (by kernel_rfl) (fun x y h => (den_slices_Clone_api_Deed x).trans h)

def anns_order_Write : List (Nat × Ann) := [(300014, ⟨[(62, .val .bool)], [], [], fun _ => 0⟩)]

noncomputable def sp_order_Write : FSpec := ⟨[.val t_api_Order, .val (.slice t_api_Deed), .val t_api_Deed], [.val (.slice t_api_Deed), .val tI], fun x => order_Write x.1 x.2.1 x.2.2.1⟩

noncomputable def cx_order_Write : Cx := ⟨Tryz.prog, [(13, sp_order_CheckDeeds), (33, sp_slices_Clone_api_Deed), (49, sp_order_checked), (50, sp_order_nextNo), (51, sp_order_newFollower), (52, sp_order_follower_run)], []⟩

theorem den_order_Write : ∀ x, denF cx_order_Write anns_order_Write (some t_order_line) Tryz.f17 sp_order_Write x = sp_order_Write.m x := by intro x; kernel_rfl

theorem hb_order_Write : HasBody Tryz.prog 17 := has_body (fn := Tryz.f17) (by kernel_rfl) rfl (by decide)

theorem ok_order_Write : FunOk Tryz.prog 17 sp_order_Write := fun_ok (X := cx_order_Write) (.cons ok_order_CheckDeeds hb_order_CheckDeeds (.cons ok_slices_Clone_api_Deed hb_slices_Clone_api_Deed (.cons ok_order_checked hb_order_checked (.cons ok_order_nextNo hb_order_nextNo (.cons ok_order_newFollower hb_order_newFollower (.cons ok_order_follower_run hb_order_follower_run (.nil _))))))) (by kernel_rfl) sp_order_Write anns_order_Write (some t_order_line) (by kernel_rfl) (fun x y h => (den_order_Write x).trans h)

def anns_l9_OrderAnswersAreFollowed : List (Nat × Ann) := [(300003, ⟨[(8, .val .bool)], [], [], fun _ => 0⟩),
 (300008, ⟨[(8, .val .bool)], [], [], fun _ => 0⟩)]

noncomputable def sp_l9_OrderAnswersAreFollowed : FSpec := ⟨[.val t_api_Order, .val (.slice t_api_Deed), .val tI, .val tI], [.val .bool], fun x => l9_OrderAnswersAreFollowed x.1 x.2.1 x.2.2.1 x.2.2.2.1⟩

noncomputable def cx_l9_OrderAnswersAreFollowed : Cx := ⟨Tryz.prog, [(16, sp_l9_awake), (17, sp_order_Write), (28, sp_order_Answer), (29, sp_order_Asked)], []⟩

theorem den_l9_OrderAnswersAreFollowed : ∀ x, denF cx_l9_OrderAnswersAreFollowed anns_l9_OrderAnswersAreFollowed none Tryz.f8 sp_l9_OrderAnswersAreFollowed x = sp_l9_OrderAnswersAreFollowed.m x := by intro x; kernel_rfl

theorem ok_l9_OrderAnswersAreFollowed : FunOk Tryz.prog 8 sp_l9_OrderAnswersAreFollowed := fun_ok (X := cx_l9_OrderAnswersAreFollowed) (.cons ok_l9_awake hb_l9_awake (.cons ok_order_Write hb_order_Write (.cons ok_order_Answer hb_order_Answer (.cons ok_order_Asked hb_order_Asked (.nil _))))) (by kernel_rfl) sp_l9_OrderAnswersAreFollowed anns_l9_OrderAnswersAreFollowed none (by kernel_rfl) (fun x y h => (den_l9_OrderAnswersAreFollowed x).trans h)



end Go.Proofs.SeatA
