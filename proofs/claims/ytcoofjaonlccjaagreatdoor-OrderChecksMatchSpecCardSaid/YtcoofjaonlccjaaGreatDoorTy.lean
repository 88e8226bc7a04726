/-
 Each function that the law reaches is as its plain model says, second part. No condition.
-/
import Derived.Test.YtcoofjaonlccjaaGreatDoorTw
set_option linter.all false
set_option maxRecDepth 100000
namespace Go.Proofs.SeatA
open Go.Dn Go.Md Go.Proofs

def anns_internal_stringslite_HasSuffix : List (Nat × Ann) := []

noncomputable def sp_internal_stringslite_HasSuffix : FSpec := ⟨[.val .str, .val .str], [.val .bool], fun x => internal_stringslite_HasSuffix x.1 x.2.1⟩

noncomputable def cx_internal_stringslite_HasSuffix : Cx := ⟨Tryz.prog, [], []⟩

theorem den_internal_stringslite_HasSuffix : ∀ x, denF cx_internal_stringslite_HasSuffix anns_internal_stringslite_HasSuffix none Tryz.f196 sp_internal_stringslite_HasSuffix x = sp_internal_stringslite_HasSuffix.m x := by intro x; kernel_rfl

theorem hb_internal_stringslite_HasSuffix : HasBody Tryz.prog 196 := has_body (fn := Tryz.f196) (by kernel_rfl) rfl (by decide)

theorem ok_internal_stringslite_HasSuffix : FunOk Tryz.prog 196 sp_internal_stringslite_HasSuffix := fun_ok (X := cx_internal_stringslite_HasSuffix) (.nil _) (by kernel_rfl) sp_internal_stringslite_HasSuffix anns_internal_stringslite_HasSuffix none (by kernel_rfl) (fun x y h => (den_internal_stringslite_HasSuffix x).trans h)

def anns_internal_stringslite_CutSuffix : List (Nat × Ann) := []

noncomputable def sp_internal_stringslite_CutSuffix : FSpec := ⟨[.val .str, .val .str], [.val .str, .val .bool], fun x => internal_stringslite_CutSuffix x.1 x.2.1⟩

noncomputable def cx_internal_stringslite_CutSuffix : Cx := ⟨Tryz.prog, [(196, sp_internal_stringslite_HasSuffix)], []⟩

theorem den_internal_stringslite_CutSuffix : ∀ x, denF cx_internal_stringslite_CutSuffix anns_internal_stringslite_CutSuffix none Tryz.f172 sp_internal_stringslite_CutSuffix x = sp_internal_stringslite_CutSuffix.m x := by intro x; kernel_rfl

theorem hb_internal_stringslite_CutSuffix : HasBody Tryz.prog 172 := has_body (fn := Tryz.f172) (by kernel_rfl) rfl (by decide)

theorem ok_internal_stringslite_CutSuffix : FunOk Tryz.prog 172 sp_internal_stringslite_CutSuffix := fun_ok (X := cx_internal_stringslite_CutSuffix) (.cons ok_internal_stringslite_HasSuffix hb_internal_stringslite_HasSuffix (.nil _)) (by kernel_rfl) sp_internal_stringslite_CutSuffix anns_internal_stringslite_CutSuffix none (by kernel_rfl) (fun x y h => (den_internal_stringslite_CutSuffix x).trans h)

def anns_strings_CutSuffix : List (Nat × Ann) := []

noncomputable def sp_strings_CutSuffix : FSpec := ⟨[.val .str, .val .str], [.val .str, .val .bool], fun x => strings_CutSuffix x.1 x.2.1⟩

noncomputable def cx_strings_CutSuffix : Cx := ⟨Tryz.prog, [(172, sp_internal_stringslite_CutSuffix)], []⟩

theorem den_strings_CutSuffix : ∀ x, denF cx_strings_CutSuffix anns_strings_CutSuffix none Tryz.f121 sp_strings_CutSuffix x = sp_strings_CutSuffix.m x := by intro x; kernel_rfl

theorem hb_strings_CutSuffix : HasBody Tryz.prog 121 := has_body (fn := Tryz.f121) (by kernel_rfl) rfl (by decide)

theorem ok_strings_CutSuffix : FunOk Tryz.prog 121 sp_strings_CutSuffix := fun_ok (X := cx_strings_CutSuffix) (.cons ok_internal_stringslite_CutSuffix hb_internal_stringslite_CutSuffix (.nil _)) (by kernel_rfl) sp_strings_CutSuffix anns_strings_CutSuffix none (by kernel_rfl) (fun x y h => (den_strings_CutSuffix x).trans h)

def anns_kit_Lines : List (Nat × Ann) := []

noncomputable def sp_kit_Lines : FSpec := ⟨[.val .str], [.val (.slice .str), .val .bool], fun x => kit_Lines x.1⟩

noncomputable def cx_kit_Lines : Cx := ⟨Tryz.prog, [(121, sp_strings_CutSuffix), (122, sp_strings_Split)], []⟩

theorem den_kit_Lines : ∀ x, denF cx_kit_Lines anns_kit_Lines none Tryz.f81 sp_kit_Lines x = sp_kit_Lines.m x := by intro x; kernel_rfl

theorem hb_kit_Lines : HasBody Tryz.prog 81 := has_body (fn := Tryz.f81) (by kernel_rfl) rfl (by decide)

theorem ok_kit_Lines : FunOk Tryz.prog 81 sp_kit_Lines := fun_ok (X := cx_kit_Lines) (.cons ok_strings_CutSuffix hb_strings_CutSuffix (.cons ok_strings_Split hb_strings_Split (.nil _))) (by kernel_rfl) sp_kit_Lines anns_kit_Lines none (by kernel_rfl) (fun x y h => (den_kit_Lines x).trans h)

def anns_kit_Words : List (Nat × Ann) := [(3, ⟨[(4, .rowR 27920), (9, .rowR 27920), (10, .val tI), (11, .val tI)], [], [.rowC 27920 9 .str], fuelOf _⟩),
 (200003, ⟨[(4, .rowR 27920)], [], [.rowC 27920 9 .str], fun _ => 0⟩)]

noncomputable def sp_kit_Words : FSpec := ⟨[.val .str], [.val (.slice .str), .val .bool], fun x => kit_Words x.1⟩

noncomputable def cx_kit_Words : Cx := ⟨Tryz.prog, [(122, sp_strings_Split)], []⟩

theorem den_kit_Words : ∀ x, denF cx_kit_Words anns_kit_Words none Tryz.f123 sp_kit_Words x = sp_kit_Words.m x := by intro x; kernel_rfl

theorem hb_kit_Words : HasBody Tryz.prog 123 := has_body (fn := Tryz.f123) (by kernel_rfl) rfl (by decide)

theorem ok_kit_Words : FunOk Tryz.prog 123 sp_kit_Words := fun_ok (X := cx_kit_Words) (.cons ok_strings_Split hb_strings_Split (.nil _)) (by kernel_rfl) sp_kit_Words anns_kit_Words none (by kernel_rfl) (fun x y h => (den_kit_Words x).trans h)

def anns_order_words_next : List (Nat × Ann) := []

noncomputable def sp_order_words_next : FSpec := ⟨[.box [.val (.slice .str), .val .bool]], [.val .str], fun x => order_words_next x.1⟩

noncomputable def cx_order_words_next : Cx := ⟨Tryz.prog, [], []⟩

theorem den_order_words_next : ∀ x, denF cx_order_words_next anns_order_words_next none Tryz.f128 sp_order_words_next x = sp_order_words_next.m x := by intro x; kernel_rfl

theorem hb_order_words_next : HasBody Tryz.prog 128 := has_body (fn := Tryz.f128) (by kernel_rfl) rfl (by decide)

theorem ok_order_words_next : FunOk Tryz.prog 128 sp_order_words_next := fun_ok (X := cx_order_words_next) (.nil _) (by kernel_rfl) sp_order_words_next anns_order_words_next none (by kernel_rfl) (fun x y h => (den_order_words_next x).trans h)

def anns_order_words_number : List (Nat × Ann) := []

noncomputable def sp_order_words_number : FSpec := ⟨[.box [.val (.slice .str), .val .bool]], [.val tI], fun x => order_words_number x.1⟩

noncomputable def cx_order_words_number : Cx := ⟨Tryz.prog, [(128, sp_order_words_next), (174, sp_kit_Number)], []⟩

theorem den_order_words_number : ∀ x, denF cx_order_words_number anns_order_words_number none Tryz.f124 sp_order_words_number x = sp_order_words_number.m x := by intro x; kernel_rfl

theorem hb_order_words_number : HasBody Tryz.prog 124 := has_body (fn := Tryz.f124) (by kernel_rfl) rfl (by decide)

theorem ok_order_words_number : FunOk Tryz.prog 124 sp_order_words_number := fun_ok (X := cx_order_words_number) (.cons ok_order_words_next hb_order_words_next (.cons ok_kit_Number hb_kit_Number (.nil _))) (by kernel_rfl) sp_order_words_number anns_order_words_number none (by kernel_rfl) (fun x y h => (den_order_words_number x).trans h)

def anns_order_byWords : List (Nat × Ann) := []

noncomputable def sp_order_byWords : FSpec := ⟨[], [.val (.slice .str)], fun x => order_byWords ⟩

noncomputable def cx_order_byWords : Cx := ⟨Tryz.prog, [], []⟩

theorem den_order_byWords : ∀ x, denF cx_order_byWords anns_order_byWords none Tryz.f126 sp_order_byWords x = sp_order_byWords.m x := by intro x; kernel_rfl

theorem hb_order_byWords : HasBody Tryz.prog 126 := has_body (fn := Tryz.f126) (by kernel_rfl) rfl (by decide)

theorem ok_order_byWords : FunOk Tryz.prog 126 sp_order_byWords := fun_ok (X := cx_order_byWords) (.nil _) (by kernel_rfl) sp_order_byWords anns_order_byWords none (by kernel_rfl) (fun x y h => (den_order_byWords x).trans h)

def anns_slices_Index_string : List (Nat × Ann) := [(2, ⟨[(0, .val (.slice .str)), (1, .val .str), (7, .val tI), (8, .val tI)], [], [], fuelOf _⟩),
 (200002, ⟨[], [], [], fun _ => 0⟩)]

noncomputable def sp_slices_Index_string : FSpec := ⟨[.val (.slice .str), .val .str], [.val tI], fun x => slices_Index_string x.1 x.2.1⟩

noncomputable def cx_slices_Index_string : Cx := ⟨Tryz.prog, [], []⟩

theorem den_slices_Index_string : ∀ x, denF cx_slices_Index_string anns_slices_Index_string none Tryz.f175 sp_slices_Index_string x = sp_slices_Index_string.m x := by intro x; kernel_rfl

theorem hb_slices_Index_string : HasBody Tryz.prog 175 := has_body (fn := Tryz.f175) (by kernel_rfl) rfl (by decide)

theorem ok_slices_Index_string : FunOk Tryz.prog 175 sp_slices_Index_string := fun_ok (X := cx_slices_Index_string) (.nil _) (by kernel_rfl) sp_slices_Index_string anns_slices_Index_string none (by kernel_rfl) (fun x y h => (den_slices_Index_string x).trans h)

def anns_order_words_index : List (Nat × Ann) := []

noncomputable def sp_order_words_index : FSpec := ⟨[.box [.val (.slice .str), .val .bool], .val (.slice .str)], [.val tI], fun x => order_words_index x.1 x.2.1⟩

noncomputable def cx_order_words_index : Cx := ⟨Tryz.prog, [(128, sp_order_words_next), (175, sp_slices_Index_string)], []⟩

theorem den_order_words_index : ∀ x, denF cx_order_words_index anns_order_words_index none Tryz.f125 sp_order_words_index x = sp_order_words_index.m x := by intro x; kernel_rfl

theorem hb_order_words_index : HasBody Tryz.prog 125 := has_body (fn := Tryz.f125) (by kernel_rfl) rfl (by decide)

theorem ok_order_words_index : FunOk Tryz.prog 125 sp_order_words_index := fun_ok (X := cx_order_words_index) (.cons ok_order_words_next hb_order_words_next (.cons ok_slices_Index_string hb_slices_Index_string (.nil _))) (by kernel_rfl) sp_order_words_index anns_order_words_index none (by kernel_rfl) (fun x y h => (den_order_words_index x).trans h)

def anns_order_kindWords : List (Nat × Ann) := []

noncomputable def sp_order_kindWords : FSpec := ⟨[], [.val (.slice .str)], fun x => order_kindWords ⟩

noncomputable def cx_order_kindWords : Cx := ⟨Tryz.prog, [], []⟩

theorem den_order_kindWords : ∀ x, denF cx_order_kindWords anns_order_kindWords none Tryz.f127 sp_order_kindWords x = sp_order_kindWords.m x := by intro x; kernel_rfl

theorem hb_order_kindWords : HasBody Tryz.prog 127 := has_body (fn := Tryz.f127) (by kernel_rfl) rfl (by decide)

theorem ok_order_kindWords : FunOk Tryz.prog 127 sp_order_kindWords := fun_ok (X := cx_order_kindWords) (.nil _) (by kernel_rfl) sp_order_kindWords anns_order_kindWords none (by kernel_rfl) (fun x y h => (den_order_kindWords x).trans h)

def anns_internal_stringslite_HasPrefix : List (Nat × Ann) := []

noncomputable def sp_internal_stringslite_HasPrefix : FSpec := ⟨[.val .str, .val .str], [.val .bool], fun x => internal_stringslite_HasPrefix x.1 x.2.1⟩

noncomputable def cx_internal_stringslite_HasPrefix : Cx := ⟨Tryz.prog, [], []⟩

theorem den_internal_stringslite_HasPrefix : ∀ x, denF cx_internal_stringslite_HasPrefix anns_internal_stringslite_HasPrefix none Tryz.f235 sp_internal_stringslite_HasPrefix x = sp_internal_stringslite_HasPrefix.m x := by intro x; kernel_rfl

theorem hb_internal_stringslite_HasPrefix : HasBody Tryz.prog 235 := has_body (fn := Tryz.f235) (by kernel_rfl) rfl (by decide)

theorem ok_internal_stringslite_HasPrefix : FunOk Tryz.prog 235 sp_internal_stringslite_HasPrefix := fun_ok (X := cx_internal_stringslite_HasPrefix) (.nil _) (by kernel_rfl) sp_internal_stringslite_HasPrefix anns_internal_stringslite_HasPrefix none (by kernel_rfl) (fun x y h => (den_internal_stringslite_HasPrefix x).trans h)

def anns_internal_stringslite_CutPrefix : List (Nat × Ann) := []

noncomputable def sp_internal_stringslite_CutPrefix : FSpec := ⟨[.val .str, .val .str], [.val .str, .val .bool], fun x => internal_stringslite_CutPrefix x.1 x.2.1⟩

noncomputable def cx_internal_stringslite_CutPrefix : Cx := ⟨Tryz.prog, [(235, sp_internal_stringslite_HasPrefix)], []⟩

theorem den_internal_stringslite_CutPrefix : ∀ x, denF cx_internal_stringslite_CutPrefix anns_internal_stringslite_CutPrefix none Tryz.f223 sp_internal_stringslite_CutPrefix x = sp_internal_stringslite_CutPrefix.m x := by intro x; kernel_rfl

theorem hb_internal_stringslite_CutPrefix : HasBody Tryz.prog 223 := has_body (fn := Tryz.f223) (by kernel_rfl) rfl (by decide)

theorem ok_internal_stringslite_CutPrefix : FunOk Tryz.prog 223 sp_internal_stringslite_CutPrefix := fun_ok (X := cx_internal_stringslite_CutPrefix) (.cons ok_internal_stringslite_HasPrefix hb_internal_stringslite_HasPrefix (.nil _)) (by kernel_rfl) sp_internal_stringslite_CutPrefix anns_internal_stringslite_CutPrefix none (by kernel_rfl) (fun x y h => (den_internal_stringslite_CutPrefix x).trans h)

def anns_strings_CutPrefix : List (Nat × Ann) := []

noncomputable def sp_strings_CutPrefix : FSpec := ⟨[.val .str, .val .str], [.val .str, .val .bool], fun x => strings_CutPrefix x.1 x.2.1⟩

noncomputable def cx_strings_CutPrefix : Cx := ⟨Tryz.prog, [(223, sp_internal_stringslite_CutPrefix)], []⟩

theorem den_strings_CutPrefix : ∀ x, denF cx_strings_CutPrefix anns_strings_CutPrefix none Tryz.f202 sp_strings_CutPrefix x = sp_strings_CutPrefix.m x := by intro x; kernel_rfl

theorem hb_strings_CutPrefix : HasBody Tryz.prog 202 := has_body (fn := Tryz.f202) (by kernel_rfl) rfl (by decide)

theorem ok_strings_CutPrefix : FunOk Tryz.prog 202 sp_strings_CutPrefix := fun_ok (X := cx_strings_CutPrefix) (.cons ok_internal_stringslite_CutPrefix hb_internal_stringslite_CutPrefix (.nil _)) (by kernel_rfl) sp_strings_CutPrefix anns_strings_CutPrefix none (by kernel_rfl) (fun x y h => (den_strings_CutPrefix x).trans h)

def anns_internal_stringslite_Index : List (Nat × Ann) := []

noncomputable def sp_internal_stringslite_Index : FSpec := ⟨[.val .str, .val .str], [.val tI], fun x => internal_stringslite_Index x.1 x.2.1⟩

noncomputable def cx_internal_stringslite_Index : Cx := ⟨Tryz.prog, [(228, sp_internal_stringslite_IndexByte)], []⟩

theorem den_internal_stringslite_Index : ∀ x, denF cx_internal_stringslite_Index anns_internal_stringslite_Index none Tryz.f219 sp_internal_stringslite_Index x = sp_internal_stringslite_Index.m x := by intro x; kernel_rfl

theorem hb_internal_stringslite_Index : HasBody Tryz.prog 219 := has_body (fn := Tryz.f219) (by kernel_rfl) rfl (by decide)

theorem ok_internal_stringslite_Index : FunOk Tryz.prog 219 sp_internal_stringslite_Index := fun_ok (X := cx_internal_stringslite_Index) (.cons ok_internal_stringslite_IndexByte hb_internal_stringslite_IndexByte (.nil _)) (by kernel_rfl) sp_internal_stringslite_Index anns_internal_stringslite_Index none (by kernel_rfl) (fun x y h => (den_internal_stringslite_Index x).trans h)

def anns_internal_stringslite_Cut : List (Nat × Ann) := []

noncomputable def sp_internal_stringslite_Cut : FSpec := ⟨[.val .str, .val .str], [.val .str, .val .str, .val .bool], fun x => internal_stringslite_Cut x.1 x.2.1⟩

noncomputable def cx_internal_stringslite_Cut : Cx := ⟨Tryz.prog, [(219, sp_internal_stringslite_Index)], []⟩

theorem den_internal_stringslite_Cut : ∀ x, denF cx_internal_stringslite_Cut anns_internal_stringslite_Cut none Tryz.f224 sp_internal_stringslite_Cut x = sp_internal_stringslite_Cut.m x := by intro x; kernel_rfl

theorem hb_internal_stringslite_Cut : HasBody Tryz.prog 224 := has_body (fn := Tryz.f224) (by kernel_rfl) rfl (by decide)

theorem ok_internal_stringslite_Cut : FunOk Tryz.prog 224 sp_internal_stringslite_Cut := fun_ok (X := cx_internal_stringslite_Cut) (.cons ok_internal_stringslite_Index hb_internal_stringslite_Index (.nil _)) (by kernel_rfl) sp_internal_stringslite_Cut anns_internal_stringslite_Cut none (by kernel_rfl) (fun x y h => (den_internal_stringslite_Cut x).trans h)

def anns_strings_Cut : List (Nat × Ann) := []

noncomputable def sp_strings_Cut : FSpec := ⟨[.val .str, .val .str], [.val .str, .val .str, .val .bool], fun x => strings_Cut x.1 x.2.1⟩

noncomputable def cx_strings_Cut : Cx := ⟨Tryz.prog, [(224, sp_internal_stringslite_Cut)], []⟩

theorem den_strings_Cut : ∀ x, denF cx_strings_Cut anns_strings_Cut none Tryz.f203 sp_strings_Cut x = sp_strings_Cut.m x := by intro x; kernel_rfl

theorem hb_strings_Cut : HasBody Tryz.prog 203 := has_body (fn := Tryz.f203) (by kernel_rfl) rfl (by decide)

theorem ok_strings_Cut : FunOk Tryz.prog 203 sp_strings_Cut := fun_ok (X := cx_strings_Cut) (.cons ok_internal_stringslite_Cut hb_internal_stringslite_Cut (.nil _)) (by kernel_rfl) sp_strings_Cut anns_strings_Cut none (by kernel_rfl) (fun x y h => (den_strings_Cut x).trans h)

def anns_amount_isWhole : List (Nat × Ann) := [(300001, ⟨[(2, .val .bool)], [], [], fun _ => 0⟩)]

noncomputable def sp_amount_isWhole : FSpec := ⟨[.val .str], [.val .bool], fun x => amount_isWhole x.1⟩

noncomputable def cx_amount_isWhole : Cx := ⟨Tryz.prog, [(200, sp_kit_IsDigits)], []⟩

theorem den_amount_isWhole : ∀ x, denF cx_amount_isWhole anns_amount_isWhole none Tryz.f204 sp_amount_isWhole x = sp_amount_isWhole.m x := by intro x; kernel_rfl

theorem hb_amount_isWhole : HasBody Tryz.prog 204 := has_body (fn := Tryz.f204) (by kernel_rfl) rfl (by decide)

theorem ok_amount_isWhole : FunOk Tryz.prog 204 sp_amount_isWhole := fun_ok (X := cx_amount_isWhole) (.cons ok_kit_IsDigits hb_kit_IsDigits (.nil _)) (by kernel_rfl) sp_amount_isWhole anns_amount_isWhole none (by kernel_rfl) (fun x y h => (den_amount_isWhole x).trans h)

def anns_whole_Int_Times : List (Nat × Ann) := [(3, ⟨[(2, .ref 2 0), (3, .ref 3 0), (4, .ref 4 0), (5, .rowR 18), (20, .val (.slice (.int .u32))), (21, .val tI), (22, .val tI)], [(2, [.val .bool, .val (.slice (.int .u32))]), (3, [.val .bool, .val (.slice (.int .u32))]), (4, [.val .bool, .own 163 (.int .u32)])], [.rowC 18 163 (.int .u32)], fuelOf _⟩),
 (7, ⟨[(2, .ref 2 0), (3, .ref 3 0), (4, .ref 4 0), (5, .rowR 18), (6, .val tI), (7, .val (.int .u32)), (8, .val (.int .u64)), (20, .val (.slice (.int .u32))), (21, .val tI), (22, .val tI), (28, .val (.slice (.int .u32))), (29, .val tI), (30, .val tI)], [(2, [.val .bool, .val (.slice (.int .u32))]), (3, [.val .bool, .val (.slice (.int .u32))]), (4, [.val .bool, .own 163 (.int .u32)])], [.rowC 18 163 (.int .u32)], fuelOf _⟩),
 (200003, ⟨[(2, .ref 2 0), (3, .ref 3 0), (4, .ref 4 0), (5, .rowR 18)], [(2, [.val .bool, .val (.slice (.int .u32))]), (3, [.val .bool, .val (.slice (.int .u32))]), (4, [.val .bool, .own 163 (.int .u32)])], [.rowC 18 163 (.int .u32)], fun _ => 0⟩),
 (200007, ⟨[(2, .ref 2 0), (3, .ref 3 0), (4, .ref 4 0), (5, .rowR 18), (6, .val tI), (8, .val (.int .u64)), (20, .val (.slice (.int .u32))), (21, .val tI), (22, .val tI)], [(2, [.val .bool, .val (.slice (.int .u32))]), (3, [.val .bool, .val (.slice (.int .u32))]), (4, [.val .bool, .own 163 (.int .u32)])], [.rowC 18 163 (.int .u32)], fun _ => 0⟩)]

noncomputable def sp_whole_Int_Times : FSpec := ⟨[.val t_whole_Int, .val t_whole_Int], [.val t_whole_Int], fun x => whole_Int_Times x.1 x.2.1⟩

noncomputable def cx_whole_Int_Times : Cx := ⟨Tryz.prog, [(184, sp_whole_made)], []⟩

theorem den_whole_Int_Times : ∀ x, denF cx_whole_Int_Times anns_whole_Int_Times none Tryz.f225 sp_whole_Int_Times x = sp_whole_Int_Times.m x := by intro x; kernel_rfl

theorem hb_whole_Int_Times : HasBody Tryz.prog 225 := has_body (fn := Tryz.f225) (by kernel_rfl) rfl (by decide)

theorem ok_whole_Int_Times : FunOk Tryz.prog 225 sp_whole_Int_Times := fun_ok (X := cx_whole_Int_Times) (.cons ok_whole_made hb_whole_made (.nil _)) (by kernel_rfl) sp_whole_Int_Times anns_whole_Int_Times none (by kernel_rfl) (fun x y h => (den_whole_Int_Times x).trans h)

def anns_whole_Int_Plus : List (Nat × Ann) := []

noncomputable def sp_whole_Int_Plus : FSpec := ⟨[.val t_whole_Int, .val t_whole_Int], [.val t_whole_Int], fun x => whole_Int_Plus x.1 x.2.1⟩

noncomputable def cx_whole_Int_Plus : Cx := ⟨Tryz.prog, [(184, sp_whole_made), (207, sp_whole_sum_v), (209, sp_whole_compare), (210, sp_whole_less)], []⟩

theorem den_whole_Int_Plus : ∀ x, denF cx_whole_Int_Plus anns_whole_Int_Plus none Tryz.f226 sp_whole_Int_Plus x = sp_whole_Int_Plus.m x := by intro x; kernel_rfl

theorem hb_whole_Int_Plus : HasBody Tryz.prog 226 := has_body (fn := Tryz.f226) (by kernel_rfl) rfl (by decide)

theorem ok_whole_Int_Plus : FunOk Tryz.prog 226 sp_whole_Int_Plus := fun_ok (X := cx_whole_Int_Plus) (.cons ok_whole_made hb_whole_made (.cons ok_whole_sum_v hb_whole_sum_v (.cons ok_whole_compare hb_whole_compare (.cons ok_whole_less hb_whole_less (.nil _))))) (by kernel_rfl) sp_whole_Int_Plus anns_whole_Int_Plus none (by kernel_rfl) (fun x y h => (den_whole_Int_Plus x).trans h)

def anns_amount_read : List (Nat × Ann) := [(3, ⟨[(0, .val .bool), (1, .val .str), (2, .val .str), (6, .ref 6 0), (8, .ref 8 0), (14, .val tI), (15, .val tI)], [(6, [.val tI, .val tI]), (8, [.val .bool, .val (.slice (.int .u32))])], [], fuelOf _⟩),
 (200003, ⟨[(0, .val .bool), (2, .val .str), (6, .ref 6 0), (8, .ref 8 0)], [(6, [.val tI, .val tI]), (8, [.val .bool, .val (.slice (.int .u32))])], [], fun _ => 0⟩)]

noncomputable def sp_amount_read : FSpec := ⟨[.val .bool, .val .str, .val .str], [.val t_api_Decimal, .val tI], fun x => amount_read x.1 x.2.1 x.2.2.1⟩

noncomputable def cx_amount_read : Cx := ⟨Tryz.prog, [(146, sp_whole_Of), (181, sp_whole_Int_Sign), (182, sp_whole_Int_Minus), (183, sp_amount_Made), (225, sp_whole_Int_Times), (226, sp_whole_Int_Plus)], []⟩

theorem den_amount_read : ∀ x, denF cx_amount_read anns_amount_read none Tryz.f205 sp_amount_read x = sp_amount_read.m x := by intro x; kernel_rfl

theorem hb_amount_read : HasBody Tryz.prog 205 := has_body (fn := Tryz.f205) (by kernel_rfl) rfl (by decide)

theorem ok_amount_read : FunOk Tryz.prog 205 sp_amount_read := fun_ok (X := cx_amount_read) (.cons ok_whole_Of hb_whole_Of (.cons ok_whole_Int_Sign hb_whole_Int_Sign (.cons ok_whole_Int_Minus hb_whole_Int_Minus (.cons ok_amount_Made hb_amount_Made (.cons ok_whole_Int_Times hb_whole_Int_Times (.cons ok_whole_Int_Plus hb_whole_Int_Plus (.nil _))))))) (by kernel_rfl) sp_amount_read anns_amount_read none (by kernel_rfl) (fun x y h => (den_amount_read x).trans h)

def anns_amount_ReadText : List (Nat × Ann) := [(300003, ⟨[(40, .val .bool)], [], [], fun _ => 0⟩)]

noncomputable def sp_amount_ReadText : FSpec := ⟨[.val .str], [.val t_api_Decimal, .val tI], fun x => amount_ReadText x.1⟩

noncomputable def cx_amount_ReadText : Cx := ⟨Tryz.prog, [(200, sp_kit_IsDigits), (202, sp_strings_CutPrefix), (203, sp_strings_Cut), (204, sp_amount_isWhole), (205, sp_amount_read)], []⟩

theorem den_amount_ReadText : ∀ x, denF cx_amount_ReadText anns_amount_ReadText none Tryz.f176 sp_amount_ReadText x = sp_amount_ReadText.m x := by intro x; kernel_rfl

theorem hb_amount_ReadText : HasBody Tryz.prog 176 := has_body (fn := Tryz.f176) (by kernel_rfl) rfl (by decide)

theorem ok_amount_ReadText : FunOk Tryz.prog 176 sp_amount_ReadText := fun_ok (X := cx_amount_ReadText) (.cons ok_kit_IsDigits hb_kit_IsDigits (.cons ok_strings_CutPrefix hb_strings_CutPrefix (.cons ok_strings_Cut hb_strings_Cut (.cons ok_amount_isWhole hb_amount_isWhole (.cons ok_amount_read hb_amount_read (.nil _)))))) (by kernel_rfl) sp_amount_ReadText anns_amount_ReadText none (by kernel_rfl) (fun x y h => (den_amount_ReadText x).trans h)

def anns_order_words_decimal : List (Nat × Ann) := []

noncomputable def sp_order_words_decimal : FSpec := ⟨[.box [.val (.slice .str), .val .bool]], [.val t_api_Decimal], fun x => order_words_decimal x.1⟩

noncomputable def cx_order_words_decimal : Cx := ⟨Tryz.prog, [(128, sp_order_words_next), (176, sp_amount_ReadText)], []⟩

theorem den_order_words_decimal : ∀ x, denF cx_order_words_decimal anns_order_words_decimal none Tryz.f129 sp_order_words_decimal x = sp_order_words_decimal.m x := by intro x; kernel_rfl

theorem hb_order_words_decimal : HasBody Tryz.prog 129 := has_body (fn := Tryz.f129) (by kernel_rfl) rfl (by decide)

theorem ok_order_words_decimal : FunOk Tryz.prog 129 sp_order_words_decimal := fun_ok (X := cx_order_words_decimal) (.cons ok_order_words_next hb_order_words_next (.cons ok_amount_ReadText hb_amount_ReadText (.nil _))) (by kernel_rfl) sp_order_words_decimal anns_order_words_decimal none (by kernel_rfl) (fun x y h => (den_order_words_decimal x).trans h)

def anns_order_readDeed : List (Nat × Ann) := [(100008, ⟨[(2, .ref 2 0), (6, .ref 19 0), (7, .ref 7 0), (8, .ref 8 0)], [(2, [.val tI, .val tI, .val tI, .val tI, .val tI, .val .str, .val tI, .val tI, .val .str, .val tI, .val tI, .val tI, .val tI]), (7, [.val tI, .val tI, .val tI, .val tI, .val tI, .val .str, .val tI, .val tI, .val .str, .val tI, .val tI, .val tI, .val tI]), (8, [.val .bool, .val .bool, .val .bool, .val .bool, .val .bool, .val .bool]), (19, [.val (.slice .str), .val .bool])], [], fun _ => 0⟩),
 (100010, ⟨[(2, .ref 2 0), (6, .ref 19 0), (7, .ref 7 0), (8, .ref 8 0)], [(2, [.val tI, .val tI, .val tI, .val tI, .val tI, .val .str, .val tI, .val tI, .val .str, .val tI, .val tI, .val tI, .val tI]), (7, [.val tI, .val tI, .val tI, .val tI, .val tI, .val .str, .val tI, .val tI, .val .str, .val tI, .val tI, .val tI, .val tI]), (8, [.val .bool, .val .bool, .val .bool, .val .bool, .val .bool, .val .bool]), (19, [.val (.slice .str), .val .bool])], [], fun _ => 0⟩),
 (100012, ⟨[(2, .ref 2 0), (6, .ref 19 0), (7, .ref 7 0), (8, .ref 8 0)], [(2, [.val tI, .val tI, .val tI, .val tI, .val tI, .val .str, .val tI, .val tI, .val .str, .val tI, .val tI, .val tI, .val tI]), (7, [.val tI, .val tI, .val tI, .val tI, .val tI, .val .str, .val tI, .val tI, .val .str, .val tI, .val tI, .val tI, .val tI]), (8, [.val .bool, .val .bool, .val .bool, .val .bool, .val .bool, .val .bool]), (19, [.val (.slice .str), .val .bool])], [], fun _ => 0⟩),
 (100014, ⟨[(2, .ref 2 0), (6, .ref 19 0), (7, .ref 7 0), (8, .ref 8 0)], [(2, [.val tI, .val tI, .val tI, .val tI, .val tI, .val .str, .val tI, .val tI, .val .str, .val tI, .val tI, .val tI, .val tI]), (7, [.val tI, .val tI, .val tI, .val tI, .val tI, .val .str, .val tI, .val tI, .val .str, .val tI, .val tI, .val tI, .val tI]), (8, [.val .bool, .val .bool, .val .bool, .val .bool, .val .bool, .val .bool]), (19, [.val (.slice .str), .val .bool])], [], fun _ => 0⟩),
 (100016, ⟨[(2, .ref 2 0), (6, .ref 19 0), (7, .ref 7 0), (8, .ref 8 0)], [(2, [.val tI, .val tI, .val tI, .val tI, .val tI, .val .str, .val tI, .val tI, .val .str, .val tI, .val tI, .val tI, .val tI]), (7, [.val tI, .val tI, .val tI, .val tI, .val tI, .val .str, .val tI, .val tI, .val .str, .val tI, .val tI, .val tI, .val tI]), (8, [.val .bool, .val .bool, .val .bool, .val .bool, .val .bool, .val .bool]), (19, [.val (.slice .str), .val .bool])], [], fun _ => 0⟩),
 (100018, ⟨[(2, .ref 2 0), (6, .ref 19 0), (7, .ref 7 0)], [(2, [.val tI, .val tI, .val tI, .val tI, .val tI, .val .str, .val tI, .val tI, .val .str, .val tI, .val tI, .val tI, .val tI]), (7, [.val tI, .val tI, .val tI, .val tI, .val tI, .val .str, .val tI, .val tI, .val .str, .val tI, .val tI, .val tI, .val tI]), (19, [.val (.slice .str), .val .bool])], [], fun _ => 0⟩)]

noncomputable def sp_order_readDeed : FSpec := ⟨[.val .str], [.val t_api_Deed, .val .bool], fun x => order_readDeed x.1⟩

noncomputable def cx_order_readDeed : Cx := ⟨Tryz.prog, [(63, sp_order_usesOf), (123, sp_kit_Words), (124, sp_order_words_number), (125, sp_order_words_index), (126, sp_order_byWords), (127, sp_order_kindWords), (128, sp_order_words_next), (129, sp_order_words_decimal)], []⟩

theorem den_order_readDeed : ∀ x, denF cx_order_readDeed anns_order_readDeed none Tryz.f82 sp_order_readDeed x = sp_order_readDeed.m x := by intro x; kernel_rfl

theorem hb_order_readDeed : HasBody Tryz.prog 82 := has_body (fn := Tryz.f82) (by kernel_rfl) rfl (by decide)

theorem ok_order_readDeed : FunOk Tryz.prog 82 sp_order_readDeed := fun_ok (X := cx_order_readDeed) (.cons ok_order_usesOf hb_order_usesOf (.cons ok_kit_Words hb_kit_Words (.cons ok_order_words_number hb_order_words_number (.cons ok_order_words_index hb_order_words_index (.cons ok_order_byWords hb_order_byWords (.cons ok_order_kindWords hb_order_kindWords (.cons ok_order_words_next hb_order_words_next (.cons ok_order_words_decimal hb_order_words_decimal (.nil _))))))))) (by kernel_rfl) sp_order_readDeed anns_order_readDeed none (by kernel_rfl) (fun x y h => (den_order_readDeed x).trans h)

def anns_order_Read : List (Nat × Ann) := [(6, ⟨[(5, .val (.slice .str)), (6, .val .bool), (7, .own 35 t_api_Deed), (21, .val (.slice .str)), (22, .val tI), (23, .val tI)], [], [], fuelOf _⟩),
 (200006, ⟨[(7, .own 35 t_api_Deed)], [], [], fun _ => 0⟩),
 (300009, ⟨[(45, .val .bool)], [], [], fun _ => 0⟩)]

noncomputable def sp_order_Read : FSpec := ⟨[.val .str], [.row 35 t_api_Deed, .val tI, .val tI], fun x => order_Read x.1⟩

noncomputable def cx_order_Read : Cx := ⟨Tryz.prog, [(13, sp_order_CheckDeeds), (81, sp_kit_Lines), (82, sp_order_readDeed)], []⟩

theorem den_order_Read : ∀ x, denF cx_order_Read anns_order_Read none Tryz.f48 sp_order_Read x = sp_order_Read.m x := by intro x; kernel_rfl

theorem hb_order_Read : HasBody Tryz.prog 48 := has_body (fn := Tryz.f48) (by kernel_rfl) rfl (by decide)

theorem ok_order_Read : FunOk Tryz.prog 48 sp_order_Read := fun_ok (X := cx_order_Read) (.cons ok_order_CheckDeeds hb_order_CheckDeeds (.cons ok_kit_Lines hb_kit_Lines (.cons ok_order_readDeed hb_order_readDeed (.nil _)))) (by kernel_rfl) sp_order_Read anns_order_Read none (by kernel_rfl) (fun x y h => (den_order_Read x).trans h)

def anns_l9_awake : List (Nat × Ann) := [(300002, ⟨[(0, .val .bool)], [], [], fun _ => 0⟩)]

noncomputable def sp_l9_awake : FSpec := ⟨[], [.val .bool], fun x => l9_awake ⟩

noncomputable def cx_l9_awake : Cx := ⟨Tryz.prog, [(48, sp_order_Read)], []⟩

theorem den_l9_awake : ∀ x, denF cx_l9_awake anns_l9_awake none Tryz.f16 sp_l9_awake x = sp_l9_awake.m x := by intro x; kernel_rfl

theorem hb_l9_awake : HasBody Tryz.prog 16 := has_body (fn := Tryz.f16) (by kernel_rfl) rfl (by decide)

theorem ok_l9_awake : FunOk Tryz.prog 16 sp_l9_awake := fun_ok (X := cx_l9_awake) (.cons ok_order_Read hb_order_Read (.nil _)) (by kernel_rfl) sp_l9_awake anns_l9_awake none (by kernel_rfl) (fun x y h => (den_l9_awake x).trans h)



end Go.Proofs.SeatA

set_option maxRecDepth 100000
namespace Go.Proofs.SeatA
open Go.Dn Go.Md Go.Proofs

def anns_r1_Of : List (Nat × Ann) := [(2, ⟨[(0, .val tI), (2, .ref 2 0), (3, .ref 3 0)], [(2, [.val .bool, .own 3 tI]), (3, [.val .bool, .own 3 tI])], [], fuelOf _⟩),
 (200002, ⟨[(2, .ref 2 0), (3, .ref 3 0)], [(2, [.val .bool, .own 3 tI]), (3, [.val .bool, .own 3 tI])], [], fun _ => 0⟩)]

noncomputable def sp_r1_Of : FSpec := ⟨[.val tI], [.val t_interchangeref1_Num], fun x => r1_Of x.1⟩

noncomputable def cx_r1_Of : Cx := ⟨Tryz.prog, [], []⟩

theorem den_r1_Of : ∀ x, denF cx_r1_Of anns_r1_Of none Tryz.f151 sp_r1_Of x = sp_r1_Of.m x := by intro x; kernel_rfl

theorem hb_r1_Of : HasBody Tryz.prog 151 := has_body (fn := Tryz.f151) (by kernel_rfl) rfl (by decide)

theorem ok_r1_Of : FunOk Tryz.prog 151 sp_r1_Of := fun_ok (X := cx_r1_Of) (.nil _) (by kernel_rfl) sp_r1_Of anns_r1_Of none (by kernel_rfl) (fun x y h => (den_r1_Of x).trans h)

def anns_r1_trimmed : List (Nat × Ann) := [(1, ⟨[(1, .ref 1 0), (2, .ref 2 0)], [(1, [.val .bool, .val (.slice tI)]), (2, [.val .bool, .own 3 tI])], [], fuelOf _⟩),
 (200001, ⟨[(1, .ref 1 0), (2, .ref 2 0)], [(1, [.val .bool, .val (.slice tI)]), (2, [.val .bool, .own 3 tI])], [], fun _ => 0⟩)]

noncomputable def sp_r1_trimmed : FSpec := ⟨[.val t_interchangeref1_Num], [.val t_interchangeref1_Num], fun x => r1_trimmed x.1⟩

noncomputable def cx_r1_trimmed : Cx := ⟨Tryz.prog, [], []⟩

theorem den_r1_trimmed : ∀ x, denF cx_r1_trimmed anns_r1_trimmed none Tryz.f187 sp_r1_trimmed x = sp_r1_trimmed.m x := by intro x; kernel_rfl

theorem hb_r1_trimmed : HasBody Tryz.prog 187 := has_body (fn := Tryz.f187) (by kernel_rfl) rfl (by decide)

theorem ok_r1_trimmed : FunOk Tryz.prog 187 sp_r1_trimmed := fun_ok (X := cx_r1_trimmed) (.nil _) (by kernel_rfl) sp_r1_trimmed anns_r1_trimmed none (by kernel_rfl) (fun x y h => (den_r1_trimmed x).trans h)

def anns_r1_TimesOf : List (Nat × Ann) := [(3, ⟨[(3, .ref 3 0), (4, .ref 4 0), (5, .ref 5 0), (27, .val (.slice tI)), (28, .val tI), (29, .val tI)], [(3, [.val .bool, .val (.slice tI)]), (4, [.val .bool, .own 3 tI]), (5, [.val .bool, .rowR 24])], [.rowC 24 3 tI], fuelOf _⟩),
 (6, ⟨[(3, .ref 3 0), (4, .ref 4 0), (5, .ref 5 0), (6, .val tI), (7, .val tI), (27, .val (.slice tI)), (28, .val tI), (29, .val tI), (35, .val (.slice tI)), (36, .val tI), (37, .val tI)], [(3, [.val .bool, .val (.slice tI)]), (4, [.val .bool, .own 3 tI]), (5, [.val .bool, .rowR 24])], [.rowC 24 3 tI], fuelOf _⟩),
 (14, ⟨[(4, .ref 4 0), (5, .ref 5 0), (86, .val tI), (87, .val tI)], [(4, [.val .bool, .own 3 tI]), (5, [.val .bool, .rowR 24])], [.rowC 24 3 tI], fuelOf _⟩),
 (200003, ⟨[(4, .ref 4 0), (5, .ref 5 0)], [(4, [.val .bool, .own 3 tI]), (5, [.val .bool, .rowR 24])], [.rowC 24 3 tI], fun _ => 0⟩),
 (200006, ⟨[(3, .ref 3 0), (4, .ref 4 0), (5, .ref 5 0), (27, .val (.slice tI)), (28, .val tI), (29, .val tI)], [(3, [.val .bool, .val (.slice tI)]), (4, [.val .bool, .own 3 tI]), (5, [.val .bool, .rowR 24])], [.rowC 24 3 tI], fun _ => 0⟩),
 (200014, ⟨[(4, .ref 4 0), (5, .ref 5 0)], [(4, [.val .bool, .own 3 tI]), (5, [.val .bool, .rowR 24])], [.rowC 24 3 tI], fun _ => 0⟩)]

noncomputable def sp_r1_TimesOf : FSpec := ⟨[.val t_interchangeref1_Num, .val t_interchangeref1_Num], [.val t_interchangeref1_Num], fun x => r1_TimesOf x.1 x.2.1⟩

noncomputable def cx_r1_TimesOf : Cx := ⟨Tryz.prog, [(187, sp_r1_trimmed)], []⟩

theorem den_r1_TimesOf : ∀ x, denF cx_r1_TimesOf anns_r1_TimesOf none Tryz.f150 sp_r1_TimesOf x = sp_r1_TimesOf.m x := by intro x; kernel_rfl

theorem hb_r1_TimesOf : HasBody Tryz.prog 150 := has_body (fn := Tryz.f150) (by kernel_rfl) rfl (by decide)

theorem ok_r1_TimesOf : FunOk Tryz.prog 150 sp_r1_TimesOf := fun_ok (X := cx_r1_TimesOf) (.cons ok_r1_trimmed hb_r1_trimmed (.nil _)) (by kernel_rfl) sp_r1_TimesOf anns_r1_TimesOf none (by kernel_rfl) (fun x y h => (den_r1_TimesOf x).trans h)

def anns_r1_Power : List (Nat × Ann) := [(3, ⟨[(2, .ref 2 0), (3, .ref 3 0), (5, .val tI), (6, .val tI)], [(2, [.val .bool, .own 3 tI]), (3, [.val .bool, .val (.slice tI)])], [], fuelOf _⟩),
 (200003, ⟨[(2, .ref 2 0), (3, .ref 3 0)], [(2, [.val .bool, .own 3 tI]), (3, [.val .bool, .val (.slice tI)])], [], fun _ => 0⟩)]

noncomputable def sp_r1_Power : FSpec := ⟨[.val tI], [.val t_interchangeref1_Num], fun x => r1_Power x.1⟩

noncomputable def cx_r1_Power : Cx := ⟨Tryz.prog, [(150, sp_r1_TimesOf), (151, sp_r1_Of)], []⟩

theorem den_r1_Power : ∀ x, denF cx_r1_Power anns_r1_Power none Tryz.f152 sp_r1_Power x = sp_r1_Power.m x := by intro x; kernel_rfl

theorem hb_r1_Power : HasBody Tryz.prog 152 := has_body (fn := Tryz.f152) (by kernel_rfl) rfl (by decide)

theorem ok_r1_Power : FunOk Tryz.prog 152 sp_r1_Power := fun_ok (X := cx_r1_Power) (.cons ok_r1_TimesOf hb_r1_TimesOf (.cons ok_r1_Of hb_r1_Of (.nil _))) (by kernel_rfl) sp_r1_Power anns_r1_Power none (by kernel_rfl) (fun x y h => (den_r1_Power x).trans h)

def anns_r1_At : List (Nat × Ann) := []

noncomputable def sp_r1_At : FSpec := ⟨[.val t_api_Decimal, .val tI], [.val t_interchangeref1_Num], fun x => r1_At x.1 x.2.1⟩

noncomputable def cx_r1_At : Cx := ⟨Tryz.prog, [(150, sp_r1_TimesOf), (151, sp_r1_Of), (152, sp_r1_Power)], []⟩

theorem den_r1_At : ∀ x, denF cx_r1_At anns_r1_At none Tryz.f96 sp_r1_At x = sp_r1_At.m x := by intro x; kernel_rfl

theorem hb_r1_At : HasBody Tryz.prog 96 := has_body (fn := Tryz.f96) (by kernel_rfl) rfl (by decide)

theorem ok_r1_At : FunOk Tryz.prog 96 sp_r1_At := fun_ok (X := cx_r1_At) (.cons ok_r1_TimesOf hb_r1_TimesOf (.cons ok_r1_Of hb_r1_Of (.cons ok_r1_Power hb_r1_Power (.nil _)))) (by kernel_rfl) sp_r1_At anns_r1_At none (by kernel_rfl) (fun x y h => (den_r1_At x).trans h)

def anns_r1_Minus : List (Nat × Ann) := []

noncomputable def sp_r1_Minus : FSpec := ⟨[.val t_interchangeref1_Num], [.val t_interchangeref1_Num], fun x => r1_Minus x.1⟩

noncomputable def cx_r1_Minus : Cx := ⟨Tryz.prog, [], []⟩

theorem den_r1_Minus : ∀ x, denF cx_r1_Minus anns_r1_Minus none Tryz.f149 sp_r1_Minus x = sp_r1_Minus.m x := by intro x; kernel_rfl

theorem hb_r1_Minus : HasBody Tryz.prog 149 := has_body (fn := Tryz.f149) (by kernel_rfl) rfl (by decide)

theorem ok_r1_Minus : FunOk Tryz.prog 149 sp_r1_Minus := fun_ok (X := cx_r1_Minus) (.nil _) (by kernel_rfl) sp_r1_Minus anns_r1_Minus none (by kernel_rfl) (fun x y h => (den_r1_Minus x).trans h)

def anns_r1_sizes : List (Nat × Ann) := [(4, ⟨[(0, .val (.slice tI)), (1, .val (.slice tI)), (5, .val tI)], [], [], fuelOf _⟩),
 (200004, ⟨[], [], [], fun _ => 0⟩)]

noncomputable def sp_r1_sizes : FSpec := ⟨[.val (.slice tI), .val (.slice tI)], [.val tI], fun x => r1_sizes x.1 x.2.1⟩

noncomputable def cx_r1_sizes : Cx := ⟨Tryz.prog, [], []⟩

theorem den_r1_sizes : ∀ x, denF cx_r1_sizes anns_r1_sizes none Tryz.f185 sp_r1_sizes x = sp_r1_sizes.m x := by intro x; kernel_rfl

theorem hb_r1_sizes : HasBody Tryz.prog 185 := has_body (fn := Tryz.f185) (by kernel_rfl) rfl (by decide)

theorem ok_r1_sizes : FunOk Tryz.prog 185 sp_r1_sizes := fun_ok (X := cx_r1_sizes) (.nil _) (by kernel_rfl) sp_r1_sizes anns_r1_sizes none (by kernel_rfl) (fun x y h => (den_r1_sizes x).trans h)

def anns_r1_digit : List (Nat × Ann) := []

noncomputable def sp_r1_digit : FSpec := ⟨[.val (.slice tI), .val tI], [.val tI], fun x => r1_digit x.1 x.2.1⟩

noncomputable def cx_r1_digit : Cx := ⟨Tryz.prog, [], []⟩

theorem den_r1_digit : ∀ x, denF cx_r1_digit anns_r1_digit none Tryz.f186 sp_r1_digit x = sp_r1_digit.m x := by intro x; kernel_rfl

theorem hb_r1_digit : HasBody Tryz.prog 186 := has_body (fn := Tryz.f186) (by kernel_rfl) rfl (by decide)

theorem ok_r1_digit : FunOk Tryz.prog 186 sp_r1_digit := fun_ok (X := cx_r1_digit) (.nil _) (by kernel_rfl) sp_r1_digit anns_r1_digit none (by kernel_rfl) (fun x y h => (den_r1_digit x).trans h)

def anns_r1_Plus : List (Nat × Ann) := [(7, ⟨[(2, .ref 2 0), (3, .ref 3 0), (4, .ref 4 0), (5, .ref 5 0), (6, .val tI), (31, .val tI), (32, .val tI)], [(2, [.val .bool, .val (.slice tI)]), (3, [.val .bool, .val (.slice tI)]), (4, [.val .bool, .own 3 tI]), (5, [.val .bool, .own 3 tI])], [], fuelOf _⟩),
 (19, ⟨[(2, .ref 2 0), (3, .ref 3 0), (4, .ref 4 0), (9, .ref 9 0), (10, .val tI), (70, .val tI), (71, .val tI)], [(2, [.val .bool, .val (.slice tI)]), (3, [.val .bool, .val (.slice tI)]), (4, [.val .bool, .own 3 tI]), (9, [.val .bool, .own 3 tI])], [], fuelOf _⟩),
 (100003, ⟨[(2, .ref 2 0), (3, .ref 3 0), (4, .ref 4 0)], [(2, [.val .bool, .val (.slice tI)]), (3, [.val .bool, .val (.slice tI)]), (4, [.val .bool, .own 3 tI])], [], fun _ => 0⟩),
 (100012, ⟨[(2, .ref 2 0), (3, .ref 3 0), (4, .ref 4 0), (5, .ref 5 0), (6, .val tI), (8, .val tI), (31, .val tI), (32, .val tI)], [(2, [.val .bool, .val (.slice tI)]), (3, [.val .bool, .val (.slice tI)]), (4, [.val .bool, .own 3 tI]), (5, [.val .bool, .own 3 tI])], [], fun _ => 0⟩),
 (200007, ⟨[(4, .ref 4 0), (5, .ref 5 0)], [(4, [.val .bool, .own 3 tI]), (5, [.val .bool, .own 3 tI])], [], fun _ => 0⟩),
 (200019, ⟨[(4, .ref 4 0), (9, .ref 9 0)], [(4, [.val .bool, .own 3 tI]), (9, [.val .bool, .own 3 tI])], [], fun _ => 0⟩)]

noncomputable def sp_r1_Plus : FSpec := ⟨[.val t_interchangeref1_Num, .val t_interchangeref1_Num], [.val t_interchangeref1_Num], fun x => r1_Plus x.1 x.2.1⟩

noncomputable def cx_r1_Plus : Cx := ⟨Tryz.prog, [(185, sp_r1_sizes), (186, sp_r1_digit), (187, sp_r1_trimmed)], []⟩

theorem den_r1_Plus : ∀ x, denF cx_r1_Plus anns_r1_Plus none Tryz.f148 sp_r1_Plus x = sp_r1_Plus.m x := by intro x; kernel_rfl

theorem hb_r1_Plus : HasBody Tryz.prog 148 := has_body (fn := Tryz.f148) (by kernel_rfl) rfl (by decide)

theorem ok_r1_Plus : FunOk Tryz.prog 148 sp_r1_Plus := fun_ok (X := cx_r1_Plus) (.cons ok_r1_sizes hb_r1_sizes (.cons ok_r1_digit hb_r1_digit (.cons ok_r1_trimmed hb_r1_trimmed (.nil _)))) (by kernel_rfl) sp_r1_Plus anns_r1_Plus none (by kernel_rfl) (fun x y h => (den_r1_Plus x).trans h)

def anns_r1_Sign : List (Nat × Ann) := []

noncomputable def sp_r1_Sign : FSpec := ⟨[.val t_interchangeref1_Num], [.val tI], fun x => r1_Sign x.1⟩

noncomputable def cx_r1_Sign : Cx := ⟨Tryz.prog, [], []⟩

theorem den_r1_Sign : ∀ x, denF cx_r1_Sign anns_r1_Sign none Tryz.f147 sp_r1_Sign x = sp_r1_Sign.m x := by intro x; kernel_rfl

theorem hb_r1_Sign : HasBody Tryz.prog 147 := has_body (fn := Tryz.f147) (by kernel_rfl) rfl (by decide)

theorem ok_r1_Sign : FunOk Tryz.prog 147 sp_r1_Sign := fun_ok (X := cx_r1_Sign) (.nil _) (by kernel_rfl) sp_r1_Sign anns_r1_Sign none (by kernel_rfl) (fun x y h => (den_r1_Sign x).trans h)

def anns_r1_Cmp : List (Nat × Ann) := []

noncomputable def sp_r1_Cmp : FSpec := ⟨[.val t_interchangeref1_Num, .val t_interchangeref1_Num], [.val tI], fun x => r1_Cmp x.1 x.2.1⟩

noncomputable def cx_r1_Cmp : Cx := ⟨Tryz.prog, [(147, sp_r1_Sign), (148, sp_r1_Plus), (149, sp_r1_Minus)], []⟩

theorem den_r1_Cmp : ∀ x, denF cx_r1_Cmp anns_r1_Cmp none Tryz.f95 sp_r1_Cmp x = sp_r1_Cmp.m x := by intro x; kernel_rfl

theorem hb_r1_Cmp : HasBody Tryz.prog 95 := has_body (fn := Tryz.f95) (by kernel_rfl) rfl (by decide)

theorem ok_r1_Cmp : FunOk Tryz.prog 95 sp_r1_Cmp := fun_ok (X := cx_r1_Cmp) (.cons ok_r1_Sign hb_r1_Sign (.cons ok_r1_Plus hb_r1_Plus (.cons ok_r1_Minus hb_r1_Minus (.nil _)))) (by kernel_rfl) sp_r1_Cmp anns_r1_Cmp none (by kernel_rfl) (fun x y h => (den_r1_Cmp x).trans h)

def anns_r9_cmp : List (Nat × Ann) := []

noncomputable def sp_r9_cmp : FSpec := ⟨[.val t_api_Decimal, .val t_api_Decimal], [.val tI], fun x => r9_cmp x.1 x.2.1⟩

noncomputable def cx_r9_cmp : Cx := ⟨Tryz.prog, [(95, sp_r1_Cmp), (96, sp_r1_At)], []⟩

theorem den_r9_cmp : ∀ x, denF cx_r9_cmp anns_r9_cmp none Tryz.f59 sp_r9_cmp x = sp_r9_cmp.m x := by intro x; kernel_rfl

theorem hb_r9_cmp : HasBody Tryz.prog 59 := has_body (fn := Tryz.f59) (by kernel_rfl) rfl (by decide)

theorem ok_r9_cmp : FunOk Tryz.prog 59 sp_r9_cmp := fun_ok (X := cx_r9_cmp) (.cons ok_r1_Cmp hb_r1_Cmp (.cons ok_r1_At hb_r1_At (.nil _))) (by kernel_rfl) sp_r9_cmp anns_r9_cmp none (by kernel_rfl) (fun x y h => (den_r9_cmp x).trans h)

def anns_slices_Clone_api_Deed : List (Nat × Ann) := []

noncomputable def sp_slices_Clone_api_Deed : FSpec := ⟨[.val (.slice t_api_Deed)], [.row 35 t_api_Deed], fun x => slices_Clone_api_Deed x.1⟩

noncomputable def cx_slices_Clone_api_Deed : Cx := ⟨Tryz.prog, [], []⟩

theorem den_slices_Clone_api_Deed : ∀ x, denF cx_slices_Clone_api_Deed anns_slices_Clone_api_Deed none Tryz.f33 sp_slices_Clone_api_Deed x = sp_slices_Clone_api_Deed.m x := by intro x; kernel_rfl

theorem hb_slices_Clone_api_Deed : HasBody Tryz.prog 33 := has_body (fn := Tryz.f33) (by kernel_rfl) rfl (by decide)

theorem ok_slices_Clone_api_Deed : FunOk Tryz.prog 33 sp_slices_Clone_api_Deed := fun_ok (X := cx_slices_Clone_api_Deed) (.nil _) (by kernel_rfl) sp_slices_Clone_api_Deed anns_slices_Clone_api_Deed none (by kernel_rfl) (fun x y h => (den_slices_Clone_api_Deed x).trans h)

end Go.Proofs.SeatA

set_option maxRecDepth 100000
namespace Go.Proofs.SeatA
open Go.Dn Go.Md Go.Proofs

def anns_slices_Concat_api_Deed : List (Nat × Ann) := [(3, ⟨[(0, .val (.slice (.slice t_api_Deed))), (3, .val tI), (9, .val (.slice (.slice t_api_Deed))), (10, .val tI), (11, .val tI)], [], [], fuelOf _⟩),
 (11, ⟨[(6, .own 35 t_api_Deed), (25, .val (.slice (.slice t_api_Deed))), (26, .val tI), (27, .val tI)], [], [], fuelOf _⟩),
 (200003, ⟨[(0, .val (.slice (.slice t_api_Deed))), (3, .val tI)], [], [], fun _ => 0⟩),
 (200011, ⟨[(6, .own 35 t_api_Deed)], [], [], fun _ => 0⟩)]

noncomputable def sp_slices_Concat_api_Deed : FSpec := ⟨[.val (.slice (.slice t_api_Deed))], [.row 35 t_api_Deed], fun x => slices_Concat_api_Deed x.1⟩

noncomputable def cx_slices_Concat_api_Deed : Cx := ⟨Tryz.prog, [(66, sp_slices_Grow_api_Deed)], []⟩

theorem den_slices_Concat_api_Deed : ∀ x, denF cx_slices_Concat_api_Deed anns_slices_Concat_api_Deed none Tryz.f30 sp_slices_Concat_api_Deed x = sp_slices_Concat_api_Deed.m x := by intro x; kernel_rfl

theorem hb_slices_Concat_api_Deed : HasBody Tryz.prog 30 := has_body (fn := Tryz.f30) (by kernel_rfl) rfl (by decide)

theorem ok_slices_Concat_api_Deed : FunOk Tryz.prog 30 sp_slices_Concat_api_Deed := fun_ok (X := cx_slices_Concat_api_Deed) (.cons ok_slices_Grow_api_Deed hb_slices_Grow_api_Deed (.nil _)) (by kernel_rfl) sp_slices_Concat_api_Deed anns_slices_Concat_api_Deed none (by kernel_rfl) (fun x y h => (den_slices_Concat_api_Deed x).trans h)

def anns_order_MergeDeeds : List (Nat × Ann) := [(2, ⟨[(0, .val (.slice t_api_Deed)), (1, .val (.slice t_api_Deed)), (19, .rowR 19), (20, .val tI), (21, .val tI)], [], [.rowC 19 25 (.slice t_api_Deed)], fuelOf _⟩),
 (11, ⟨[(9, .mapR 31), (10, .own 35 t_api_Deed), (35, .rowR 83216), (36, .val tI), (37, .val tI)], [], [.rowC 83216 35 t_api_Deed, .mapC 31 t_api_Decimal t_api_Deed], fuelOf _⟩),
 (200002, ⟨[(0, .val (.slice t_api_Deed)), (1, .val (.slice t_api_Deed))], [], [], fun _ => 0⟩),
 (200011, ⟨[(10, .own 35 t_api_Deed)], [], [], fun _ => 0⟩)]

noncomputable def sp_order_MergeDeeds : FSpec := ⟨[.val (.slice t_api_Deed), .val (.slice t_api_Deed)], [.row 35 t_api_Deed, .val tI], fun x => order_MergeDeeds x.1 x.2.1⟩

noncomputable def cx_order_MergeDeeds : Cx := ⟨Tryz.prog, [(13, sp_order_CheckDeeds), (30, sp_slices_Concat_api_Deed), (31, sp_slices_SortFunc_api_Deed)], []⟩

theorem den_order_MergeDeeds : ∀ x, denF cx_order_MergeDeeds anns_order_MergeDeeds none Tryz.f9 sp_order_MergeDeeds x = sp_order_MergeDeeds.m x := by intro x; kernel_rfl

theorem hb_order_MergeDeeds : HasBody Tryz.prog 9 := has_body (fn := Tryz.f9) (by kernel_rfl) rfl (by decide)

theorem ok_order_MergeDeeds : FunOk Tryz.prog 9 sp_order_MergeDeeds := fun_ok (X := cx_order_MergeDeeds) (.cons ok_order_CheckDeeds hb_order_CheckDeeds (.cons ok_slices_Concat_api_Deed hb_slices_Concat_api_Deed (.cons ok_slices_SortFunc_api_Deed hb_slices_SortFunc_api_Deed (.nil _)))) (by kernel_rfl) sp_order_MergeDeeds anns_order_MergeDeeds none (by kernel_rfl) (fun x y h => (den_order_MergeDeeds x).trans h)

def anns_r1_within : List (Nat × Ann) := []

noncomputable def sp_r1_within : FSpec := ⟨[.val tI, .val tI, .val tI], [.val .bool], fun x => r1_within x.1 x.2.1 x.2.2.1⟩

noncomputable def cx_r1_within : Cx := ⟨Tryz.prog, [], []⟩

theorem den_r1_within : ∀ x, denF cx_r1_within anns_r1_within none Tryz.f118 sp_r1_within x = sp_r1_within.m x := by intro x; kernel_rfl

theorem hb_r1_within : HasBody Tryz.prog 118 := has_body (fn := Tryz.f118) (by kernel_rfl) rfl (by decide)

theorem ok_r1_within : FunOk Tryz.prog 118 sp_r1_within := fun_ok (X := cx_r1_within) (.nil _) (by kernel_rfl) sp_r1_within anns_r1_within none (by kernel_rfl) (fun x y h => (den_r1_within x).trans h)

def anns_r1_isDay : List (Nat × Ann) := []

noncomputable def sp_r1_isDay : FSpec := ⟨[.val tI], [.val .bool], fun x => r1_isDay x.1⟩

noncomputable def cx_r1_isDay : Cx := ⟨Tryz.prog, [(118, sp_r1_within)], []⟩

theorem den_r1_isDay : ∀ x, denF cx_r1_isDay anns_r1_isDay none Tryz.f75 sp_r1_isDay x = sp_r1_isDay.m x := by intro x; kernel_rfl

theorem hb_r1_isDay : HasBody Tryz.prog 75 := has_body (fn := Tryz.f75) (by kernel_rfl) rfl (by decide)

theorem ok_r1_isDay : FunOk Tryz.prog 75 sp_r1_isDay := fun_ok (X := cx_r1_isDay) (.cons ok_r1_within hb_r1_within (.nil _)) (by kernel_rfl) sp_r1_isDay anns_r1_isDay none (by kernel_rfl) (fun x y h => (den_r1_isDay x).trans h)

def anns_r1_IsDay : List (Nat × Ann) := []

noncomputable def sp_r1_IsDay : FSpec := ⟨[.val tI], [.val .bool], fun x => r1_IsDay x.1⟩

noncomputable def cx_r1_IsDay : Cx := ⟨Tryz.prog, [(75, sp_r1_isDay)], []⟩

theorem den_r1_IsDay : ∀ x, denF cx_r1_IsDay anns_r1_IsDay none Tryz.f41 sp_r1_IsDay x = sp_r1_IsDay.m x := by intro x; kernel_rfl

theorem hb_r1_IsDay : HasBody Tryz.prog 41 := has_body (fn := Tryz.f41) (by kernel_rfl) rfl (by decide)

theorem ok_r1_IsDay : FunOk Tryz.prog 41 sp_r1_IsDay := fun_ok (X := cx_r1_IsDay) (.cons ok_r1_isDay hb_r1_isDay (.nil _)) (by kernel_rfl) sp_r1_IsDay anns_r1_IsDay none (by kernel_rfl) (fun x y h => (den_r1_IsDay x).trans h)

def anns_r9_within : List (Nat × Ann) := [(300001, ⟨[(6, .val .bool)], [], [], fun _ => 0⟩)]

noncomputable def sp_r9_within : FSpec := ⟨[.val tI, .val tI, .val tI], [.val .bool], fun x => r9_within x.1 x.2.1 x.2.2.1⟩

noncomputable def cx_r9_within : Cx := ⟨Tryz.prog, [], []⟩

theorem den_r9_within : ∀ x, denF cx_r9_within anns_r9_within none Tryz.f42 sp_r9_within x = sp_r9_within.m x := by intro x; kernel_rfl

theorem hb_r9_within : HasBody Tryz.prog 42 := has_body (fn := Tryz.f42) (by kernel_rfl) rfl (by decide)

theorem ok_r9_within : FunOk Tryz.prog 42 sp_r9_within := fun_ok (X := cx_r9_within) (.nil _) (by kernel_rfl) sp_r9_within anns_r9_within none (by kernel_rfl) (fun x y h => (den_r9_within x).trans h)

def anns_r9_isBuyers : List (Nat × Ann) := []

noncomputable def sp_r9_isBuyers : FSpec := ⟨[.val tI], [.val .bool], fun x => r9_isBuyers x.1⟩

noncomputable def cx_r9_isBuyers : Cx := ⟨Tryz.prog, [(42, sp_r9_within)], []⟩

theorem den_r9_isBuyers : ∀ x, denF cx_r9_isBuyers anns_r9_isBuyers none Tryz.f45 sp_r9_isBuyers x = sp_r9_isBuyers.m x := by intro x; kernel_rfl

theorem hb_r9_isBuyers : HasBody Tryz.prog 45 := has_body (fn := Tryz.f45) (by kernel_rfl) rfl (by decide)

theorem ok_r9_isBuyers : FunOk Tryz.prog 45 sp_r9_isBuyers := fun_ok (X := cx_r9_isBuyers) (.cons ok_r9_within hb_r9_within (.nil _)) (by kernel_rfl) sp_r9_isBuyers anns_r9_isBuyers none (by kernel_rfl) (fun x y h => (den_r9_isBuyers x).trans h)

def anns_r9_usesOf : List (Nat × Ann) := [(100005, ⟨[(2, .ref 2 0), (3, .val tI), (7, .val .bool)], [(2, [.val .bool, .val .bool, .val .bool, .val .bool, .val .bool])], [], fun _ => 0⟩)]

noncomputable def sp_r9_usesOf : FSpec := ⟨[.val tI], [.val t_interchangeref9_uses], fun x => r9_usesOf x.1⟩

noncomputable def cx_r9_usesOf : Cx := ⟨Tryz.prog, [], []⟩

theorem den_r9_usesOf : ∀ x, denF cx_r9_usesOf anns_r9_usesOf none Tryz.f80 sp_r9_usesOf x = sp_r9_usesOf.m x := by intro x; kernel_rfl

theorem hb_r9_usesOf : HasBody Tryz.prog 80 := has_body (fn := Tryz.f80) (by kernel_rfl) rfl (by decide)

theorem ok_r9_usesOf : FunOk Tryz.prog 80 sp_r9_usesOf := fun_ok (X := cx_r9_usesOf) (.nil _) (by kernel_rfl) sp_r9_usesOf anns_r9_usesOf none (by kernel_rfl) (fun x y h => (den_r9_usesOf x).trans h)

def anns_r1_CheckDecimal : List (Nat × Ann) := []

noncomputable def sp_r1_CheckDecimal : FSpec := ⟨[.val t_api_Decimal], [.val tI], fun x => r1_CheckDecimal x.1⟩

noncomputable def cx_r1_CheckDecimal : Cx := ⟨Tryz.prog, [(118, sp_r1_within)], []⟩

theorem den_r1_CheckDecimal : ∀ x, denF cx_r1_CheckDecimal anns_r1_CheckDecimal none Tryz.f119 sp_r1_CheckDecimal x = sp_r1_CheckDecimal.m x := by intro x; kernel_rfl

theorem hb_r1_CheckDecimal : HasBody Tryz.prog 119 := has_body (fn := Tryz.f119) (by kernel_rfl) rfl (by decide)

theorem ok_r1_CheckDecimal : FunOk Tryz.prog 119 sp_r1_CheckDecimal := fun_ok (X := cx_r1_CheckDecimal) (.cons ok_r1_within hb_r1_within (.nil _)) (by kernel_rfl) sp_r1_CheckDecimal anns_r1_CheckDecimal none (by kernel_rfl) (fun x y h => (den_r1_CheckDecimal x).trans h)

def anns_r9_whole : List (Nat × Ann) := []

noncomputable def sp_r9_whole : FSpec := ⟨[.val tI], [.val t_api_Decimal], fun x => r9_whole x.1⟩

noncomputable def cx_r9_whole : Cx := ⟨Tryz.prog, [], []⟩

theorem den_r9_whole : ∀ x, denF cx_r9_whole anns_r9_whole none Tryz.f120 sp_r9_whole x = sp_r9_whole.m x := by intro x; kernel_rfl

theorem hb_r9_whole : HasBody Tryz.prog 120 := has_body (fn := Tryz.f120) (by kernel_rfl) rfl (by decide)

theorem ok_r9_whole : FunOk Tryz.prog 120 sp_r9_whole := fun_ok (X := cx_r9_whole) (.nil _) (by kernel_rfl) sp_r9_whole anns_r9_whole none (by kernel_rfl) (fun x y h => (den_r9_whole x).trans h)

def anns_r9_checkQuantity : List (Nat × Ann) := [(300001, ⟨[(32, .val .bool)], [], [], fun _ => 0⟩)]

noncomputable def sp_r9_checkQuantity : FSpec := ⟨[.val t_api_Decimal, .val .bool], [.val tI], fun x => r9_checkQuantity x.1 x.2.1⟩

noncomputable def cx_r9_checkQuantity : Cx := ⟨Tryz.prog, [(59, sp_r9_cmp), (119, sp_r1_CheckDecimal), (120, sp_r9_whole)], []⟩

theorem den_r9_checkQuantity : ∀ x, denF cx_r9_checkQuantity anns_r9_checkQuantity none Tryz.f76 sp_r9_checkQuantity x = sp_r9_checkQuantity.m x := by intro x; kernel_rfl

theorem hb_r9_checkQuantity : HasBody Tryz.prog 76 := has_body (fn := Tryz.f76) (by kernel_rfl) rfl (by decide)

theorem ok_r9_checkQuantity : FunOk Tryz.prog 76 sp_r9_checkQuantity := fun_ok (X := cx_r9_checkQuantity) (.cons ok_r9_cmp hb_r9_cmp (.cons ok_r1_CheckDecimal hb_r1_CheckDecimal (.cons ok_r9_whole hb_r9_whole (.nil _)))) (by kernel_rfl) sp_r9_checkQuantity anns_r9_checkQuantity none (by kernel_rfl) (fun x y h => (den_r9_checkQuantity x).trans h)

def anns_r9_checkPrice : List (Nat × Ann) := []

noncomputable def sp_r9_checkPrice : FSpec := ⟨[.val t_api_Decimal], [.val tI], fun x => r9_checkPrice x.1⟩

noncomputable def cx_r9_checkPrice : Cx := ⟨Tryz.prog, [(59, sp_r9_cmp), (119, sp_r1_CheckDecimal), (120, sp_r9_whole)], []⟩

theorem den_r9_checkPrice : ∀ x, denF cx_r9_checkPrice anns_r9_checkPrice none Tryz.f77 sp_r9_checkPrice x = sp_r9_checkPrice.m x := by intro x; kernel_rfl

theorem hb_r9_checkPrice : HasBody Tryz.prog 77 := has_body (fn := Tryz.f77) (by kernel_rfl) rfl (by decide)

theorem ok_r9_checkPrice : FunOk Tryz.prog 77 sp_r9_checkPrice := fun_ok (X := cx_r9_checkPrice) (.cons ok_r9_cmp hb_r9_cmp (.cons ok_r1_CheckDecimal hb_r1_CheckDecimal (.cons ok_r9_whole hb_r9_whole (.nil _)))) (by kernel_rfl) sp_r9_checkPrice anns_r9_checkPrice none (by kernel_rfl) (fun x y h => (den_r9_checkPrice x).trans h)

def anns_r1_isName : List (Nat × Ann) := [(4, ⟨[(0, .val .str), (23, .val tI), (24, .val tI)], [], [], fuelOf _⟩),
 (200004, ⟨[], [], [], fun _ => 0⟩)]

noncomputable def sp_r1_isName : FSpec := ⟨[.val .str], [.val .bool], fun x => r1_isName x.1⟩

noncomputable def cx_r1_isName : Cx := ⟨Tryz.prog, [], []⟩

theorem den_r1_isName : ∀ x, denF cx_r1_isName anns_r1_isName none Tryz.f74 sp_r1_isName x = sp_r1_isName.m x := by intro x; kernel_rfl

theorem hb_r1_isName : HasBody Tryz.prog 74 := has_body (fn := Tryz.f74) (by kernel_rfl) rfl (by decide)

theorem ok_r1_isName : FunOk Tryz.prog 74 sp_r1_isName := fun_ok (X := cx_r1_isName) (.nil _) (by kernel_rfl) sp_r1_isName anns_r1_isName none (by kernel_rfl) (fun x y h => (den_r1_isName x).trans h)

def anns_r1_IsName : List (Nat × Ann) := []

noncomputable def sp_r1_IsName : FSpec := ⟨[.val .str], [.val .bool], fun x => r1_IsName x.1⟩

noncomputable def cx_r1_IsName : Cx := ⟨Tryz.prog, [(74, sp_r1_isName)], []⟩

theorem den_r1_IsName : ∀ x, denF cx_r1_IsName anns_r1_IsName none Tryz.f40 sp_r1_IsName x = sp_r1_IsName.m x := by intro x; kernel_rfl

theorem hb_r1_IsName : HasBody Tryz.prog 40 := has_body (fn := Tryz.f40) (by kernel_rfl) rfl (by decide)

theorem ok_r1_IsName : FunOk Tryz.prog 40 sp_r1_IsName := fun_ok (X := cx_r1_IsName) (.cons ok_r1_isName hb_r1_isName (.nil _)) (by kernel_rfl) sp_r1_IsName anns_r1_IsName none (by kernel_rfl) (fun x y h => (den_r1_IsName x).trans h)

def anns_r9_checkFields : List (Nat × Ann) := [(300002, ⟨[(8, .val .bool)], [], [], fun _ => 0⟩),
 (300004, ⟨[(20, .val .bool)], [], [], fun _ => 0⟩),
 (300006, ⟨[(29, .val .bool)], [], [], fun _ => 0⟩),
 (300008, ⟨[(38, .val .bool)], [], [], fun _ => 0⟩),
 (300010, ⟨[(53, .val .bool)], [], [], fun _ => 0⟩),
 (300013, ⟨[(114, .val .bool)], [], [], fun _ => 0⟩)]

noncomputable def sp_r9_checkFields : FSpec := ⟨[.val t_api_Deed], [.val tI], fun x => r9_checkFields x.1⟩

noncomputable def cx_r9_checkFields : Cx := ⟨Tryz.prog, [(40, sp_r1_IsName), (41, sp_r1_IsDay), (42, sp_r9_within), (76, sp_r9_checkQuantity), (77, sp_r9_checkPrice), (80, sp_r9_usesOf)], []⟩

theorem den_r9_checkFields : ∀ x, denF cx_r9_checkFields anns_r9_checkFields none Tryz.f46 sp_r9_checkFields x = sp_r9_checkFields.m x := by intro x; kernel_rfl

theorem hb_r9_checkFields : HasBody Tryz.prog 46 := has_body (fn := Tryz.f46) (by kernel_rfl) rfl (by decide)

theorem ok_r9_checkFields : FunOk Tryz.prog 46 sp_r9_checkFields := fun_ok (X := cx_r9_checkFields) (.cons ok_r1_IsName hb_r1_IsName (.cons ok_r1_IsDay hb_r1_IsDay (.cons ok_r9_within hb_r9_within (.cons ok_r9_checkQuantity hb_r9_checkQuantity (.cons ok_r9_checkPrice hb_r9_checkPrice (.cons ok_r9_usesOf hb_r9_usesOf (.nil _))))))) (by kernel_rfl) sp_r9_checkFields anns_r9_checkFields none (by kernel_rfl) (fun x y h => (den_r9_checkFields x).trans h)

def anns_r9_deedOrder : List (Nat × Ann) := [(2, ⟨[(22, .rowR 22), (23, .val tI), (24, .val tI)], [], [.rowC 22 3 tI], fuelOf _⟩),
 (200002, ⟨[], [], [], fun _ => 0⟩)]

noncomputable def sp_r9_deedOrder : FSpec := ⟨[.val t_api_Deed, .val t_api_Deed], [.val tI], fun x => r9_deedOrder x.1 x.2.1⟩

noncomputable def cx_r9_deedOrder : Cx := ⟨Tryz.prog, [], []⟩

theorem den_r9_deedOrder : ∀ x, denF cx_r9_deedOrder anns_r9_deedOrder none Tryz.f34 sp_r9_deedOrder x = sp_r9_deedOrder.m x := by intro x; kernel_rfl

theorem hb_r9_deedOrder : HasBody Tryz.prog 34 := has_body (fn := Tryz.f34) (by kernel_rfl) rfl (by decide)

theorem ok_r9_deedOrder : FunOk Tryz.prog 34 sp_r9_deedOrder := fun_ok (X := cx_r9_deedOrder) (.nil _) (by kernel_rfl) sp_r9_deedOrder anns_r9_deedOrder none (by kernel_rfl) (fun x y h => (den_r9_deedOrder x).trans h)

def anns_r9_lastNo : List (Nat × Ann) := [(3, ⟨[(1, .val tI), (5, .val tI), (8, .val (.slice t_api_Deed)), (9, .val tI), (10, .val tI)], [], [], fuelOf _⟩),
 (200003, ⟨[(5, .val tI)], [], [], fun _ => 0⟩)]

noncomputable def sp_r9_lastNo : FSpec := ⟨[.val (.slice t_api_Deed), .val tI], [.val tI], fun x => r9_lastNo x.1 x.2.1⟩

noncomputable def cx_r9_lastNo : Cx := ⟨Tryz.prog, [], []⟩

theorem den_r9_lastNo : ∀ x, denF cx_r9_lastNo anns_r9_lastNo none Tryz.f47 sp_r9_lastNo x = sp_r9_lastNo.m x := by intro x; kernel_rfl

theorem hb_r9_lastNo : HasBody Tryz.prog 47 := has_body (fn := Tryz.f47) (by kernel_rfl) rfl (by decide)

theorem ok_r9_lastNo : FunOk Tryz.prog 47 sp_r9_lastNo := fun_ok (X := cx_r9_lastNo) (.nil _) (by kernel_rfl) sp_r9_lastNo anns_r9_lastNo none (by kernel_rfl) (fun x y h => (den_r9_lastNo x).trans h)

def anns_r9_CheckDeeds : List (Nat × Ann) := [(4, ⟨[(0, .val (.slice t_api_Deed)), (9, .val (.slice t_api_Deed)), (10, .val tI), (11, .val tI)], [], [], fuelOf _⟩),
 (200004, ⟨[], [], [], fun _ => 0⟩),
 (300008, ⟨[(21, .val .bool)], [], [], fun _ => 0⟩),
 (300019, ⟨[(70, .val .bool)], [], [], fun _ => 0⟩)]

noncomputable def sp_r9_CheckDeeds : FSpec := ⟨[.val (.slice t_api_Deed)], [.val tI], fun x => r9_CheckDeeds x.1⟩

noncomputable def cx_r9_CheckDeeds : Cx := ⟨Tryz.prog, [(34, sp_r9_deedOrder), (41, sp_r1_IsDay), (42, sp_r9_within), (45, sp_r9_isBuyers), (46, sp_r9_checkFields), (47, sp_r9_lastNo)], []⟩

theorem den_r9_CheckDeeds : ∀ x, denF cx_r9_CheckDeeds anns_r9_CheckDeeds none Tryz.f14 sp_r9_CheckDeeds x = sp_r9_CheckDeeds.m x := by intro x; kernel_rfl

theorem hb_r9_CheckDeeds : HasBody Tryz.prog 14 := has_body (fn := Tryz.f14) (by kernel_rfl) rfl (by decide)

theorem ok_r9_CheckDeeds : FunOk Tryz.prog 14 sp_r9_CheckDeeds := fun_ok (X := cx_r9_CheckDeeds) (.cons ok_r9_deedOrder hb_r9_deedOrder (.cons ok_r1_IsDay hb_r1_IsDay (.cons ok_r9_within hb_r9_within (.cons ok_r9_isBuyers hb_r9_isBuyers (.cons ok_r9_checkFields hb_r9_checkFields (.cons ok_r9_lastNo hb_r9_lastNo (.nil _))))))) (by kernel_rfl) sp_r9_CheckDeeds anns_r9_CheckDeeds none (by kernel_rfl) (fun x y h => (den_r9_CheckDeeds x).trans h)

def anns_r9_MergeDeeds : List (Nat × Ann) := [(9, ⟨[(0, .val (.slice t_api_Deed)), (8, .own 35 t_api_Deed), (28, .val (.slice t_api_Deed)), (29, .val tI), (30, .val tI)], [], [], fuelOf _⟩),
 (13, ⟨[(0, .val (.slice t_api_Deed)), (8, .own 35 t_api_Deed), (10, .ref 10 0), (11, .val .bool), (28, .val (.slice t_api_Deed)), (29, .val tI), (30, .val tI), (34, .val (.slice t_api_Deed)), (35, .val tI), (36, .val tI)], [(10, [.val tI, .val tI, .val tI, .val tI, .val tI, .val .str, .val tI, .val tI, .val .str, .val tI, .val tI, .val tI, .val tI])], [], fuelOf _⟩),
 (21, ⟨[(0, .val (.slice t_api_Deed)), (8, .own 35 t_api_Deed), (10, .ref 10 0), (11, .val .bool), (14, .val tI), (28, .val (.slice t_api_Deed)), (29, .val tI), (30, .val tI)], [(10, [.val tI, .val tI, .val tI, .val tI, .val tI, .val .str, .val tI, .val tI, .val .str, .val tI, .val tI, .val tI, .val tI])], [], fuelOf _⟩),
 (200009, ⟨[(8, .own 35 t_api_Deed)], [], [], fun _ => 0⟩),
 (200013, ⟨[(0, .val (.slice t_api_Deed)), (8, .own 35 t_api_Deed), (10, .ref 10 0), (11, .val .bool), (28, .val (.slice t_api_Deed)), (29, .val tI), (30, .val tI)], [(10, [.val tI, .val tI, .val tI, .val tI, .val tI, .val .str, .val tI, .val tI, .val .str, .val tI, .val tI, .val tI, .val tI])], [], fun _ => 0⟩),
 (200021, ⟨[(0, .val (.slice t_api_Deed)), (8, .own 35 t_api_Deed), (10, .ref 10 0), (11, .val .bool), (14, .val tI), (28, .val (.slice t_api_Deed)), (29, .val tI), (30, .val tI)], [(10, [.val tI, .val tI, .val tI, .val tI, .val tI, .val .str, .val tI, .val tI, .val .str, .val tI, .val tI, .val tI, .val tI])], [], fun _ => 0⟩),
 (300015, ⟨[(51, .val .bool)], [], [], fun _ => 0⟩),
 (300021, ⟨[(69, .val .bool)], [], [], fun _ => 0⟩)]

noncomputable def sp_r9_MergeDeeds : FSpec := ⟨[.val (.slice t_api_Deed), .val (.slice t_api_Deed)], [.row 35 t_api_Deed, .val tI], fun x => r9_MergeDeeds x.1 x.2.1⟩

noncomputable def cx_r9_MergeDeeds : Cx := ⟨Tryz.prog, [(14, sp_r9_CheckDeeds), (33, sp_slices_Clone_api_Deed), (34, sp_r9_deedOrder), (35, sp_slices_Insert_api_Deed)], []⟩

theorem den_r9_MergeDeeds : ∀ x, denF cx_r9_MergeDeeds anns_r9_MergeDeeds none Tryz.f10 sp_r9_MergeDeeds x = sp_r9_MergeDeeds.m x := by intro x; kernel_rfl

theorem hb_r9_MergeDeeds : HasBody Tryz.prog 10 := has_body (fn := Tryz.f10) (by kernel_rfl) rfl (by decide)

theorem ok_r9_MergeDeeds : FunOk Tryz.prog 10 sp_r9_MergeDeeds := fun_ok (X := cx_r9_MergeDeeds) (.cons ok_r9_CheckDeeds hb_r9_CheckDeeds (.cons ok_slices_Clone_api_Deed hb_slices_Clone_api_Deed (.cons ok_r9_deedOrder hb_r9_deedOrder (.cons ok_slices_Insert_api_Deed hb_slices_Insert_api_Deed (.nil _))))) (by kernel_rfl) sp_r9_MergeDeeds anns_r9_MergeDeeds none (by kernel_rfl) (fun x y h => (den_r9_MergeDeeds x).trans h)

def anns_r9_checkLine : List (Nat × Ann) := [(300004, ⟨[(16, .val .bool)], [], [], fun _ => 0⟩)]

noncomputable def sp_r9_checkLine : FSpec := ⟨[.val t_api_Order, .val tI], [.val tI], fun x => r9_checkLine x.1 x.2.1⟩

noncomputable def cx_r9_checkLine : Cx := ⟨Tryz.prog, [(40, sp_r1_IsName), (42, sp_r9_within), (76, sp_r9_checkQuantity), (77, sp_r9_checkPrice)], []⟩

theorem den_r9_checkLine : ∀ x, denF cx_r9_checkLine anns_r9_checkLine none Tryz.f43 sp_r9_checkLine x = sp_r9_checkLine.m x := by intro x; kernel_rfl

theorem hb_r9_checkLine : HasBody Tryz.prog 43 := has_body (fn := Tryz.f43) (by kernel_rfl) rfl (by decide)

theorem ok_r9_checkLine : FunOk Tryz.prog 43 sp_r9_checkLine := fun_ok (X := cx_r9_checkLine) (.cons ok_r1_IsName hb_r1_IsName (.cons ok_r9_within hb_r9_within (.cons ok_r9_checkQuantity hb_r9_checkQuantity (.cons ok_r9_checkPrice hb_r9_checkPrice (.nil _))))) (by kernel_rfl) sp_r9_checkLine anns_r9_checkLine none (by kernel_rfl) (fun x y h => (den_r9_checkLine x).trans h)

def anns_r9_CheckOrder : List (Nat × Ann) := [(12, ⟨[(1, .ref 1 0), (51, .val tI), (52, .val tI)], [(1, [.val .str, .val .str, .val .str, .val tI, .val tI, .val (.slice t_api_Line)])], [], fuelOf _⟩),
 (200012, ⟨[], [], [], fun _ => 0⟩)]

noncomputable def sp_r9_CheckOrder : FSpec := ⟨[.val t_api_Order], [.val tI], fun x => r9_CheckOrder x.1⟩

noncomputable def cx_r9_CheckOrder : Cx := ⟨Tryz.prog, [(40, sp_r1_IsName), (41, sp_r1_IsDay), (42, sp_r9_within), (43, sp_r9_checkLine)], []⟩

theorem den_r9_CheckOrder : ∀ x, denF cx_r9_CheckOrder anns_r9_CheckOrder none Tryz.f12 sp_r9_CheckOrder x = sp_r9_CheckOrder.m x := by intro x; kernel_rfl

theorem hb_r9_CheckOrder : HasBody Tryz.prog 12 := has_body (fn := Tryz.f12) (by kernel_rfl) rfl (by decide)

theorem ok_r9_CheckOrder : FunOk Tryz.prog 12 sp_r9_CheckOrder := fun_ok (X := cx_r9_CheckOrder) (.cons ok_r1_IsName hb_r1_IsName (.cons ok_r1_IsDay hb_r1_IsDay (.cons ok_r9_within hb_r9_within (.cons ok_r9_checkLine hb_r9_checkLine (.nil _))))) (by kernel_rfl) sp_r9_CheckOrder anns_r9_CheckOrder none (by kernel_rfl) (fun x y h => (den_r9_CheckOrder x).trans h)

def anns_slices_Equal_api_Deed : List (Nat × Ann) := [(4, ⟨[(0, .val (.slice t_api_Deed)), (1, .val (.slice t_api_Deed)), (12, .val tI), (13, .val tI)], [], [], fuelOf _⟩),
 (200004, ⟨[], [], [], fun _ => 0⟩)]

noncomputable def sp_slices_Equal_api_Deed : FSpec := ⟨[.val (.slice t_api_Deed), .val (.slice t_api_Deed)], [.val .bool], fun x => slices_Equal_api_Deed x.1 x.2.1⟩

noncomputable def cx_slices_Equal_api_Deed : Cx := ⟨Tryz.prog, [], []⟩

theorem den_slices_Equal_api_Deed : ∀ x, denF cx_slices_Equal_api_Deed anns_slices_Equal_api_Deed none Tryz.f15 sp_slices_Equal_api_Deed x = sp_slices_Equal_api_Deed.m x := by intro x; kernel_rfl

theorem hb_slices_Equal_api_Deed : HasBody Tryz.prog 15 := has_body (fn := Tryz.f15) (by kernel_rfl) rfl (by decide)

theorem ok_slices_Equal_api_Deed : FunOk Tryz.prog 15 sp_slices_Equal_api_Deed := fun_ok (X := cx_slices_Equal_api_Deed) (.nil _) (by kernel_rfl) sp_slices_Equal_api_Deed anns_slices_Equal_api_Deed none (by kernel_rfl) (fun x y h => (den_slices_Equal_api_Deed x).trans h)

def anns_l9_OrderChecksMatchSpec : List (Nat × Ann) := [(300003, ⟨[(6, .val .bool)], [], [], fun _ => 0⟩)]

noncomputable def sp_l9_OrderChecksMatchSpec : FSpec := ⟨[.val t_api_Order, .val (.slice t_api_Deed), .val (.slice t_api_Deed)], [.val .bool], fun x => l9_OrderChecksMatchSpec x.1 x.2.1 x.2.2.1⟩

noncomputable def cx_l9_OrderChecksMatchSpec : Cx := ⟨Tryz.prog, [(9, sp_order_MergeDeeds), (10, sp_r9_MergeDeeds), (11, sp_order_CheckOrder), (12, sp_r9_CheckOrder), (13, sp_order_CheckDeeds), (14, sp_r9_CheckDeeds), (15, sp_slices_Equal_api_Deed), (16, sp_l9_awake)], []⟩

theorem den_l9_OrderChecksMatchSpec : ∀ x, denF cx_l9_OrderChecksMatchSpec anns_l9_OrderChecksMatchSpec none Tryz.f3 sp_l9_OrderChecksMatchSpec x = sp_l9_OrderChecksMatchSpec.m x := by intro x; kernel_rfl

theorem ok_l9_OrderChecksMatchSpec : FunOk Tryz.prog 3 sp_l9_OrderChecksMatchSpec := fun_ok (X := cx_l9_OrderChecksMatchSpec) (.cons ok_order_MergeDeeds hb_order_MergeDeeds (.cons ok_r9_MergeDeeds hb_r9_MergeDeeds (.cons ok_order_CheckOrder hb_order_CheckOrder (.cons ok_r9_CheckOrder hb_r9_CheckOrder (.cons ok_order_CheckDeeds hb_order_CheckDeeds (.cons ok_r9_CheckDeeds hb_r9_CheckDeeds (.cons ok_slices_Equal_api_Deed hb_slices_Equal_api_Deed (.cons ok_l9_awake hb_l9_awake (.nil _))))))))) (by kernel_rfl) sp_l9_OrderChecksMatchSpec anns_l9_OrderChecksMatchSpec none (by kernel_rfl) (fun x y h => (den_l9_OrderChecksMatchSpec x).trans h)


end Go.Proofs.SeatA
