/- Contracts of the Go functions and their plain Lean functions, written by a program of this session out of the translation. -/
import Derived.Test.YtkhocaehhflpcaaPAx0
import Derived.Test.YtkhocaehhflpcaaPAx1
import Derived.Test.YtkhocaehhflpcaaPAx6
import Derived.Test.YtkhocaehhflpcaaPAx10
import Derived.Test.YtkhocaehhflpcaaPAx11
namespace Go.Proofs.Ytkhocaehhflpcaa.PA
open Go.RowKit Go.Proofs.YtkhocaehhflpcaaW.PrintWords Go.Proofs.YtkhocaehhflpcaaW.PrintLast Go.Proofs.YtkhocaehhflpcaaW.PrintMore
attribute [local go_sem] max2_int min2_int max_two min_two max_three min_three max_four min_four   -- for this text's walks alone
set_option linter.unusedVariables false
set_option linter.unusedSimpArgs false

attribute [local go_sem high] eqA24
/-! ### corebanklaw01_live: function 12 -/
def corebanklaw01_live.f (k : Nat)  : Option (Bool) := (wide_Of.f (-7)).bind fun bt227 => ((wide_Div.f k bt227.1 bt227.2 2).bind fun bt229 => ((wide_Of.f 1).bind fun bt234 => ((wide_Add.f 9223372036854775807 18446744073709551615 bt234.1 bt234.2).bind fun bt236 => ((wide_Mul.f (-9223372036854775808) (-9223372036854775808)).bind fun bt240 => ((wide_Parse.f k (⟨#[45, 49, 55, 48, 49, 52, 49, 49, 56, 51, 52, 54, 48, 52, 54, 57, 50, 51, 49, 55, 51, 49, 54, 56, 55, 51, 48, 51, 55, 49, 53, 56, 56, 52, 49, 48, 53, 55, 50, 56]⟩ : ByteArray)).bind fun bt243 => ((wide_Parse.f k (⟨#[48, 48, 55]⟩ : ByteArray)).bind fun bt247 => ((wide_Of.f (-5)).bind fun bt251 => ((wide_Int.f bt251.1 bt251.2).bind fun bt253 => ((wide_Of.f (-1)).bind fun bt255 => (if (bt255.1 == (-1) && (bt255.2 == 18446744073709551615)) = true then ((wide_Of.f (-4)).bind fun bt257 => (if (bt229.1 == bt257.1 && (bt229.2.1 == bt257.2)) = true then (if bt229.2.2.1 = 1 then (if bt229.2.2.2 = 0 then (if bt236.2.2 = 6 then (if (bt240.1 == 4611686018427387904 && (bt240.2 == 0)) = true then (if (bt243.1 == (-9223372036854775808) && (bt243.2.1 == 0)) = true then (if bt243.2.2 = 0 then (if bt247.2.2 = 2 then (if bt253.1 = (-5) then (if bt253.2 = true then ((wide_Text.f k bt240.1 bt240.2).bind fun t259 => (if t259.toList = ([56, 53, 48, 55, 48, 53, 57, 49, 55, 51, 48, 50, 51, 52, 54, 49, 53, 56, 54, 53, 56, 52, 51, 54, 53, 49, 56, 53, 55, 57, 52, 50, 48, 53, 50, 56, 54, 52] : List UInt8) then ((wide_Cmp.f bt229.1 bt229.2.1 bt240.1 bt240.2).bind fun t260 => (some (t260 == (-1)))) else (none))) else (none)) else (none)) else (none)) else (none)) else (none)) else (none)) else (none)) else (none)) else (none)) else (none))) else (none)))))))))))
theorem corebanklaw01_live.mono : ∀ k, LeO (corebanklaw01_live.f k ) (corebanklaw01_live.f (k + 1) ) := by
  intro  k
  unfold corebanklaw01_live.f
  repeat' first
      | (with_reducible exact wide_Div.mono _ _ _ _)
      | (with_reducible exact wide_Parse.mono _ _)
      | (with_reducible exact wide_Text.mono _ _ _)
      | (with_reducible exact LeO.refl _)
      | (with_reducible exact LeO.none _)
      | (with_reducible refine LeO.ite ?_ ?_)
      | (with_reducible refine LeO.bind ?_ (fun _ => ?_))
      | exact wide_Div.mono _ _ _ _
      | exact wide_Parse.mono _ _
      | exact wide_Text.mono _ _ _
      | exact LeO.none _
      | refine LeO.ite ?_ ?_
      | refine LeO.bind ?_ (fun _ => ?_)
def corebanklaw01_live.T7 : Bool × List (List Nat × List Nat) := (true, [([], []), ([], []), ([0, 1], [0, 1]), ([2, 0], [2]), ([3], [3]), ([3, 3], [3]), ([4, 5, 3], [3, 4, 5]), ([3, 6], [3, 6]), ([7, 5], [7]), ([8], [8]), ([9, 8], [8, 9]), ([8, 10], [8, 10]), ([11, 8], [11]), ([12], [12]), ([13, 12], [12, 13]), ([12, 14], [12, 14]), ([15, 12], [15]), ([16], [16]), ([17, 16], [16, 17]), ([16, 18], [16, 18]), ([19, 16], [19]), ([20], [20]), ([20], [20]), ([21, 22, 20], [20, 21, 22]), ([20, 23], [20, 23]), ([24, 20], [24]), ([25], [25]), ([25], [25]), ([26, 27, 25], [25, 26, 27]), ([25, 28], [25, 28]), ([29, 25], [29]), ([30], [30]), ([31, 30], [30, 31]), ([30, 32], [30, 32]), ([33, 30], [33]), ([34], [34]), ([35, 34], [34, 35]), ([34, 36], [34, 36]), ([37, 34], [37]), ([38], [38]), ([39, 38], [38, 39]), ([38, 40], [38, 40]), ([41, 38], [41]), ([42], [42]), ([42, 43], [42, 43]), ([44, 42], [44]), ([45], [45]), ([46, 45, 45], [45, 46]), ([47, 45], [45, 47]), ([45, 48], [45, 48]), ([49, 47], [49]), ([50], [50]), ([50], [50]), ([51, 52, 50, 50], [50, 51, 52]), ([53, 50], [50, 53]), ([50, 54], [50, 54]), ([55, 53, 0, 1, 2, 3, 4, 5, 6, 7, 8, 9, 10, 11, 12, 13, 14, 15, 16, 17, 18, 19, 20, 21, 22, 23, 24, 25, 26, 27, 28, 29, 30, 31, 32, 33, 34, 35, 36, 37, 38, 39, 40, 41, 42, 43, 44, 45, 46, 47, 48, 49, 50, 51, 52, 53, 54, 55], [55])])
def corebanklaw01_live.B7 : List Nat := [0, 0, 3, 7, 15, 15, 63, 127, 255, 511, 1023, 2047, 4095, 8191, 16383, 32767, 65535, 131071, 262143, 524287, 1048575, 2097151, 2097151, 8388607, 16777215, 33554431, 67108863, 67108863, 268435455, 536870911, 1073741823, 2147483647, 4294967295, 8589934591, 17179869183, 34359738367, 68719476735, 137438953471, 274877906943, 549755813887, 1099511627775, 2199023255551, 4398046511103, 8796093022207, 17592186044415, 35184372088831, 70368744177663, 140737488355327, 281474976710655, 562949953421311, 1125899906842623, 2251799813685247, 2251799813685247, 9007199254740991, 18014398509481983, 36028797018963967, 72057594037927935]
theorem corebanklaw01_live.tab7 : rtab .any (opsOf Try.f12 7) = corebanklaw01_live.T7 := by kernel_rfl
theorem corebanklaw01_live.bits7 : waitsOk corebanklaw01_live.T7.2 corebanklaw01_live.B7 = true := by kernel_rfl
set_option maxHeartbeats 8000000 in
set_option maxRecDepth 100000 in
theorem corebanklaw01_live.calls (k : Nat)  (r : Bool) (w : World) (h : corebanklaw01_live.f k  = some r) :
    Calls Try.prog 12 #[] w fun e w' => e = .returned (.bool r) ∧ Below w.heap.size w w' := by
  have hu24 := Try.underlying24
  have HB := Aside0.mk (Below.refl w.heap.size w)
  have H : ((wide_Of.f (-7)).bind fun bt227 => ((wide_Div.f k bt227.1 bt227.2 2).bind fun bt229 => ((wide_Of.f 1).bind fun bt234 => ((wide_Add.f 9223372036854775807 18446744073709551615 bt234.1 bt234.2).bind fun bt236 => ((wide_Mul.f (-9223372036854775808) (-9223372036854775808)).bind fun bt240 => ((wide_Parse.f k (⟨#[45, 49, 55, 48, 49, 52, 49, 49, 56, 51, 52, 54, 48, 52, 54, 57, 50, 51, 49, 55, 51, 49, 54, 56, 55, 51, 48, 51, 55, 49, 53, 56, 56, 52, 49, 48, 53, 55, 50, 56]⟩ : ByteArray)).bind fun bt243 => ((wide_Parse.f k (⟨#[48, 48, 55]⟩ : ByteArray)).bind fun bt247 => ((wide_Of.f (-5)).bind fun bt251 => ((wide_Int.f bt251.1 bt251.2).bind fun bt253 => ((wide_Of.f (-1)).bind fun bt255 => (if (bt255.1 == (-1) && (bt255.2 == 18446744073709551615)) = true then ((wide_Of.f (-4)).bind fun bt257 => (if (bt229.1 == bt257.1 && (bt229.2.1 == bt257.2)) = true then (if bt229.2.2.1 = 1 then (if bt229.2.2.2 = 0 then (if bt236.2.2 = 6 then (if (bt240.1 == 4611686018427387904 && (bt240.2 == 0)) = true then (if (bt243.1 == (-9223372036854775808) && (bt243.2.1 == 0)) = true then (if bt243.2.2 = 0 then (if bt247.2.2 = 2 then (if bt253.1 = (-5) then (if bt253.2 = true then ((wide_Text.f k bt240.1 bt240.2).bind fun t259 => (if t259.toList = ([56, 53, 48, 55, 48, 53, 57, 49, 55, 51, 48, 50, 51, 52, 54, 49, 53, 56, 54, 53, 56, 52, 51, 54, 53, 49, 56, 53, 55, 57, 52, 50, 48, 53, 50, 56, 54, 52] : List UInt8) then ((wide_Cmp.f bt229.1 bt229.2.1 bt240.1 bt240.2).bind fun t260 => (some (t260 == (-1)))) else (none))) else (none)) else (none)) else (none)) else (none)) else (none)) else (none)) else (none)) else (none)) else (none)) else (none))) else (none)))))))))))) = some r := h
  clear h
  replace H := Option.bind_eq_some_iff.mp H
  obtain ⟨⟨t227, t228⟩, A10, H⟩ := H
  replace H : ((wide_Div.f k t227 t228 2).bind fun bt229 => ((wide_Of.f 1).bind fun bt234 => ((wide_Add.f 9223372036854775807 18446744073709551615 bt234.1 bt234.2).bind fun bt236 => ((wide_Mul.f (-9223372036854775808) (-9223372036854775808)).bind fun bt240 => ((wide_Parse.f k (⟨#[45, 49, 55, 48, 49, 52, 49, 49, 56, 51, 52, 54, 48, 52, 54, 57, 50, 51, 49, 55, 51, 49, 54, 56, 55, 51, 48, 51, 55, 49, 53, 56, 56, 52, 49, 48, 53, 55, 50, 56]⟩ : ByteArray)).bind fun bt243 => ((wide_Parse.f k (⟨#[48, 48, 55]⟩ : ByteArray)).bind fun bt247 => ((wide_Of.f (-5)).bind fun bt251 => ((wide_Int.f bt251.1 bt251.2).bind fun bt253 => ((wide_Of.f (-1)).bind fun bt255 => (if (bt255.1 == (-1) && (bt255.2 == 18446744073709551615)) = true then ((wide_Of.f (-4)).bind fun bt257 => (if (bt229.1 == bt257.1 && (bt229.2.1 == bt257.2)) = true then (if bt229.2.2.1 = 1 then (if bt229.2.2.2 = 0 then (if bt236.2.2 = 6 then (if (bt240.1 == 4611686018427387904 && (bt240.2 == 0)) = true then (if (bt243.1 == (-9223372036854775808) && (bt243.2.1 == 0)) = true then (if bt243.2.2 = 0 then (if bt247.2.2 = 2 then (if bt253.1 = (-5) then (if bt253.2 = true then ((wide_Text.f k bt240.1 bt240.2).bind fun t259 => (if t259.toList = ([56, 53, 48, 55, 48, 53, 57, 49, 55, 51, 48, 50, 51, 52, 54, 49, 53, 56, 54, 53, 56, 52, 51, 54, 53, 49, 56, 53, 55, 57, 52, 50, 48, 53, 50, 56, 54, 52] : List UInt8) then ((wide_Cmp.f bt229.1 bt229.2.1 bt240.1 bt240.2).bind fun t260 => (some (t260 == (-1)))) else (none))) else (none)) else (none)) else (none)) else (none)) else (none)) else (none)) else (none)) else (none)) else (none)) else (none))) else (none))))))))))) = some r := H
  have A1 := Aside0.mk A10
  clear A10
  replace H := Option.bind_eq_some_iff.mp H
  obtain ⟨⟨t229, t230, t231, t232⟩, A20, H⟩ := H
  replace H : ((wide_Of.f 1).bind fun bt234 => ((wide_Add.f 9223372036854775807 18446744073709551615 bt234.1 bt234.2).bind fun bt236 => ((wide_Mul.f (-9223372036854775808) (-9223372036854775808)).bind fun bt240 => ((wide_Parse.f k (⟨#[45, 49, 55, 48, 49, 52, 49, 49, 56, 51, 52, 54, 48, 52, 54, 57, 50, 51, 49, 55, 51, 49, 54, 56, 55, 51, 48, 51, 55, 49, 53, 56, 56, 52, 49, 48, 53, 55, 50, 56]⟩ : ByteArray)).bind fun bt243 => ((wide_Parse.f k (⟨#[48, 48, 55]⟩ : ByteArray)).bind fun bt247 => ((wide_Of.f (-5)).bind fun bt251 => ((wide_Int.f bt251.1 bt251.2).bind fun bt253 => ((wide_Of.f (-1)).bind fun bt255 => (if (bt255.1 == (-1) && (bt255.2 == 18446744073709551615)) = true then ((wide_Of.f (-4)).bind fun bt257 => (if (t229 == bt257.1 && (t230 == bt257.2)) = true then (if t231 = 1 then (if t232 = 0 then (if bt236.2.2 = 6 then (if (bt240.1 == 4611686018427387904 && (bt240.2 == 0)) = true then (if (bt243.1 == (-9223372036854775808) && (bt243.2.1 == 0)) = true then (if bt243.2.2 = 0 then (if bt247.2.2 = 2 then (if bt253.1 = (-5) then (if bt253.2 = true then ((wide_Text.f k bt240.1 bt240.2).bind fun t259 => (if t259.toList = ([56, 53, 48, 55, 48, 53, 57, 49, 55, 51, 48, 50, 51, 52, 54, 49, 53, 56, 54, 53, 56, 52, 51, 54, 53, 49, 56, 53, 55, 57, 52, 50, 48, 53, 50, 56, 54, 52] : List UInt8) then ((wide_Cmp.f t229 t230 bt240.1 bt240.2).bind fun t260 => (some (t260 == (-1)))) else (none))) else (none)) else (none)) else (none)) else (none)) else (none)) else (none)) else (none)) else (none)) else (none)) else (none))) else (none)))))))))) = some r := H
  have A2 := Aside0.mk A20
  clear A20
  replace H := Option.bind_eq_some_iff.mp H
  obtain ⟨⟨t234, t235⟩, A30, H⟩ := H
  replace H : ((wide_Add.f 9223372036854775807 18446744073709551615 t234 t235).bind fun bt236 => ((wide_Mul.f (-9223372036854775808) (-9223372036854775808)).bind fun bt240 => ((wide_Parse.f k (⟨#[45, 49, 55, 48, 49, 52, 49, 49, 56, 51, 52, 54, 48, 52, 54, 57, 50, 51, 49, 55, 51, 49, 54, 56, 55, 51, 48, 51, 55, 49, 53, 56, 56, 52, 49, 48, 53, 55, 50, 56]⟩ : ByteArray)).bind fun bt243 => ((wide_Parse.f k (⟨#[48, 48, 55]⟩ : ByteArray)).bind fun bt247 => ((wide_Of.f (-5)).bind fun bt251 => ((wide_Int.f bt251.1 bt251.2).bind fun bt253 => ((wide_Of.f (-1)).bind fun bt255 => (if (bt255.1 == (-1) && (bt255.2 == 18446744073709551615)) = true then ((wide_Of.f (-4)).bind fun bt257 => (if (t229 == bt257.1 && (t230 == bt257.2)) = true then (if t231 = 1 then (if t232 = 0 then (if bt236.2.2 = 6 then (if (bt240.1 == 4611686018427387904 && (bt240.2 == 0)) = true then (if (bt243.1 == (-9223372036854775808) && (bt243.2.1 == 0)) = true then (if bt243.2.2 = 0 then (if bt247.2.2 = 2 then (if bt253.1 = (-5) then (if bt253.2 = true then ((wide_Text.f k bt240.1 bt240.2).bind fun t259 => (if t259.toList = ([56, 53, 48, 55, 48, 53, 57, 49, 55, 51, 48, 50, 51, 52, 54, 49, 53, 56, 54, 53, 56, 52, 51, 54, 53, 49, 56, 53, 55, 57, 52, 50, 48, 53, 50, 56, 54, 52] : List UInt8) then ((wide_Cmp.f t229 t230 bt240.1 bt240.2).bind fun t260 => (some (t260 == (-1)))) else (none))) else (none)) else (none)) else (none)) else (none)) else (none)) else (none)) else (none)) else (none)) else (none)) else (none))) else (none))))))))) = some r := H
  have A3 := Aside0.mk A30
  clear A30
  replace H := Option.bind_eq_some_iff.mp H
  obtain ⟨⟨t236, t237, t238⟩, A40, H⟩ := H
  replace H : ((wide_Mul.f (-9223372036854775808) (-9223372036854775808)).bind fun bt240 => ((wide_Parse.f k (⟨#[45, 49, 55, 48, 49, 52, 49, 49, 56, 51, 52, 54, 48, 52, 54, 57, 50, 51, 49, 55, 51, 49, 54, 56, 55, 51, 48, 51, 55, 49, 53, 56, 56, 52, 49, 48, 53, 55, 50, 56]⟩ : ByteArray)).bind fun bt243 => ((wide_Parse.f k (⟨#[48, 48, 55]⟩ : ByteArray)).bind fun bt247 => ((wide_Of.f (-5)).bind fun bt251 => ((wide_Int.f bt251.1 bt251.2).bind fun bt253 => ((wide_Of.f (-1)).bind fun bt255 => (if (bt255.1 == (-1) && (bt255.2 == 18446744073709551615)) = true then ((wide_Of.f (-4)).bind fun bt257 => (if (t229 == bt257.1 && (t230 == bt257.2)) = true then (if t231 = 1 then (if t232 = 0 then (if t238 = 6 then (if (bt240.1 == 4611686018427387904 && (bt240.2 == 0)) = true then (if (bt243.1 == (-9223372036854775808) && (bt243.2.1 == 0)) = true then (if bt243.2.2 = 0 then (if bt247.2.2 = 2 then (if bt253.1 = (-5) then (if bt253.2 = true then ((wide_Text.f k bt240.1 bt240.2).bind fun t259 => (if t259.toList = ([56, 53, 48, 55, 48, 53, 57, 49, 55, 51, 48, 50, 51, 52, 54, 49, 53, 56, 54, 53, 56, 52, 51, 54, 53, 49, 56, 53, 55, 57, 52, 50, 48, 53, 50, 56, 54, 52] : List UInt8) then ((wide_Cmp.f t229 t230 bt240.1 bt240.2).bind fun t260 => (some (t260 == (-1)))) else (none))) else (none)) else (none)) else (none)) else (none)) else (none)) else (none)) else (none)) else (none)) else (none)) else (none))) else (none)))))))) = some r := H
  have A4 := Aside0.mk A40
  clear A40
  replace H := Option.bind_eq_some_iff.mp H
  obtain ⟨⟨t240, t241⟩, A50, H⟩ := H
  replace H : ((wide_Parse.f k (⟨#[45, 49, 55, 48, 49, 52, 49, 49, 56, 51, 52, 54, 48, 52, 54, 57, 50, 51, 49, 55, 51, 49, 54, 56, 55, 51, 48, 51, 55, 49, 53, 56, 56, 52, 49, 48, 53, 55, 50, 56]⟩ : ByteArray)).bind fun bt243 => ((wide_Parse.f k (⟨#[48, 48, 55]⟩ : ByteArray)).bind fun bt247 => ((wide_Of.f (-5)).bind fun bt251 => ((wide_Int.f bt251.1 bt251.2).bind fun bt253 => ((wide_Of.f (-1)).bind fun bt255 => (if (bt255.1 == (-1) && (bt255.2 == 18446744073709551615)) = true then ((wide_Of.f (-4)).bind fun bt257 => (if (t229 == bt257.1 && (t230 == bt257.2)) = true then (if t231 = 1 then (if t232 = 0 then (if t238 = 6 then (if (t240 == 4611686018427387904 && (t241 == 0)) = true then (if (bt243.1 == (-9223372036854775808) && (bt243.2.1 == 0)) = true then (if bt243.2.2 = 0 then (if bt247.2.2 = 2 then (if bt253.1 = (-5) then (if bt253.2 = true then ((wide_Text.f k t240 t241).bind fun t259 => (if t259.toList = ([56, 53, 48, 55, 48, 53, 57, 49, 55, 51, 48, 50, 51, 52, 54, 49, 53, 56, 54, 53, 56, 52, 51, 54, 53, 49, 56, 53, 55, 57, 52, 50, 48, 53, 50, 56, 54, 52] : List UInt8) then ((wide_Cmp.f t229 t230 t240 t241).bind fun t260 => (some (t260 == (-1)))) else (none))) else (none)) else (none)) else (none)) else (none)) else (none)) else (none)) else (none)) else (none)) else (none)) else (none))) else (none))))))) = some r := H
  have A5 := Aside0.mk A50
  clear A50
  replace H := Option.bind_eq_some_iff.mp H
  obtain ⟨⟨t243, t244, t245⟩, A60, H⟩ := H
  replace H : ((wide_Parse.f k (⟨#[48, 48, 55]⟩ : ByteArray)).bind fun bt247 => ((wide_Of.f (-5)).bind fun bt251 => ((wide_Int.f bt251.1 bt251.2).bind fun bt253 => ((wide_Of.f (-1)).bind fun bt255 => (if (bt255.1 == (-1) && (bt255.2 == 18446744073709551615)) = true then ((wide_Of.f (-4)).bind fun bt257 => (if (t229 == bt257.1 && (t230 == bt257.2)) = true then (if t231 = 1 then (if t232 = 0 then (if t238 = 6 then (if (t240 == 4611686018427387904 && (t241 == 0)) = true then (if (t243 == (-9223372036854775808) && (t244 == 0)) = true then (if t245 = 0 then (if bt247.2.2 = 2 then (if bt253.1 = (-5) then (if bt253.2 = true then ((wide_Text.f k t240 t241).bind fun t259 => (if t259.toList = ([56, 53, 48, 55, 48, 53, 57, 49, 55, 51, 48, 50, 51, 52, 54, 49, 53, 56, 54, 53, 56, 52, 51, 54, 53, 49, 56, 53, 55, 57, 52, 50, 48, 53, 50, 56, 54, 52] : List UInt8) then ((wide_Cmp.f t229 t230 t240 t241).bind fun t260 => (some (t260 == (-1)))) else (none))) else (none)) else (none)) else (none)) else (none)) else (none)) else (none)) else (none)) else (none)) else (none)) else (none))) else (none)))))) = some r := H
  have A6 := Aside0.mk A60
  clear A60
  replace H := Option.bind_eq_some_iff.mp H
  obtain ⟨⟨t247, t248, t249⟩, A70, H⟩ := H
  replace H : ((wide_Of.f (-5)).bind fun bt251 => ((wide_Int.f bt251.1 bt251.2).bind fun bt253 => ((wide_Of.f (-1)).bind fun bt255 => (if (bt255.1 == (-1) && (bt255.2 == 18446744073709551615)) = true then ((wide_Of.f (-4)).bind fun bt257 => (if (t229 == bt257.1 && (t230 == bt257.2)) = true then (if t231 = 1 then (if t232 = 0 then (if t238 = 6 then (if (t240 == 4611686018427387904 && (t241 == 0)) = true then (if (t243 == (-9223372036854775808) && (t244 == 0)) = true then (if t245 = 0 then (if t249 = 2 then (if bt253.1 = (-5) then (if bt253.2 = true then ((wide_Text.f k t240 t241).bind fun t259 => (if t259.toList = ([56, 53, 48, 55, 48, 53, 57, 49, 55, 51, 48, 50, 51, 52, 54, 49, 53, 56, 54, 53, 56, 52, 51, 54, 53, 49, 56, 53, 55, 57, 52, 50, 48, 53, 50, 56, 54, 52] : List UInt8) then ((wide_Cmp.f t229 t230 t240 t241).bind fun t260 => (some (t260 == (-1)))) else (none))) else (none)) else (none)) else (none)) else (none)) else (none)) else (none)) else (none)) else (none)) else (none)) else (none))) else (none))))) = some r := H
  have A7 := Aside0.mk A70
  clear A70
  replace H := Option.bind_eq_some_iff.mp H
  obtain ⟨⟨t251, t252⟩, A80, H⟩ := H
  replace H : ((wide_Int.f t251 t252).bind fun bt253 => ((wide_Of.f (-1)).bind fun bt255 => (if (bt255.1 == (-1) && (bt255.2 == 18446744073709551615)) = true then ((wide_Of.f (-4)).bind fun bt257 => (if (t229 == bt257.1 && (t230 == bt257.2)) = true then (if t231 = 1 then (if t232 = 0 then (if t238 = 6 then (if (t240 == 4611686018427387904 && (t241 == 0)) = true then (if (t243 == (-9223372036854775808) && (t244 == 0)) = true then (if t245 = 0 then (if t249 = 2 then (if bt253.1 = (-5) then (if bt253.2 = true then ((wide_Text.f k t240 t241).bind fun t259 => (if t259.toList = ([56, 53, 48, 55, 48, 53, 57, 49, 55, 51, 48, 50, 51, 52, 54, 49, 53, 56, 54, 53, 56, 52, 51, 54, 53, 49, 56, 53, 55, 57, 52, 50, 48, 53, 50, 56, 54, 52] : List UInt8) then ((wide_Cmp.f t229 t230 t240 t241).bind fun t260 => (some (t260 == (-1)))) else (none))) else (none)) else (none)) else (none)) else (none)) else (none)) else (none)) else (none)) else (none)) else (none)) else (none))) else (none)))) = some r := H
  have A8 := Aside0.mk A80
  clear A80
  replace H := Option.bind_eq_some_iff.mp H
  obtain ⟨⟨t253, t254⟩, A90, H⟩ := H
  replace H : ((wide_Of.f (-1)).bind fun bt255 => (if (bt255.1 == (-1) && (bt255.2 == 18446744073709551615)) = true then ((wide_Of.f (-4)).bind fun bt257 => (if (t229 == bt257.1 && (t230 == bt257.2)) = true then (if t231 = 1 then (if t232 = 0 then (if t238 = 6 then (if (t240 == 4611686018427387904 && (t241 == 0)) = true then (if (t243 == (-9223372036854775808) && (t244 == 0)) = true then (if t245 = 0 then (if t249 = 2 then (if t253 = (-5) then (if t254 = true then ((wide_Text.f k t240 t241).bind fun t259 => (if t259.toList = ([56, 53, 48, 55, 48, 53, 57, 49, 55, 51, 48, 50, 51, 52, 54, 49, 53, 56, 54, 53, 56, 52, 51, 54, 53, 49, 56, 53, 55, 57, 52, 50, 48, 53, 50, 56, 54, 52] : List UInt8) then ((wide_Cmp.f t229 t230 t240 t241).bind fun t260 => (some (t260 == (-1)))) else (none))) else (none)) else (none)) else (none)) else (none)) else (none)) else (none)) else (none)) else (none)) else (none)) else (none))) else (none))) = some r := H
  have A9 := Aside0.mk A90
  clear A90
  replace H := Option.bind_eq_some_iff.mp H
  obtain ⟨⟨t255, t256⟩, A100, H⟩ := H
  replace H : (if (t255 == (-1) && (t256 == 18446744073709551615)) = true then ((wide_Of.f (-4)).bind fun bt257 => (if (t229 == bt257.1 && (t230 == bt257.2)) = true then (if t231 = 1 then (if t232 = 0 then (if t238 = 6 then (if (t240 == 4611686018427387904 && (t241 == 0)) = true then (if (t243 == (-9223372036854775808) && (t244 == 0)) = true then (if t245 = 0 then (if t249 = 2 then (if t253 = (-5) then (if t254 = true then ((wide_Text.f k t240 t241).bind fun t259 => (if t259.toList = ([56, 53, 48, 55, 48, 53, 57, 49, 55, 51, 48, 50, 51, 52, 54, 49, 53, 56, 54, 53, 56, 52, 51, 54, 53, 49, 56, 53, 55, 57, 52, 50, 48, 53, 50, 56, 54, 52] : List UInt8) then ((wide_Cmp.f t229 t230 t240 t241).bind fun t260 => (some (t260 == (-1)))) else (none))) else (none)) else (none)) else (none)) else (none)) else (none)) else (none)) else (none)) else (none)) else (none)) else (none))) else (none)) = some r := H
  have A10 := Aside0.mk A100
  clear A100
  by_cases c11 : (t255 == (-1) && (t256 == 18446744073709551615)) = true
  · rw [if_pos c11] at H
    have c11b0 : (t255 == (-1) && (t256 == 18446744073709551615)) = true := c11
    (try (have c11b1 : decide (t255 = (-1) && (t256 == 18446744073709551615)) = true := by simpa using c11))
    (try (have c11b2 : (t255 == (-1) && (t256 == 18446744073709551615)) = true := by simpa using c11))
    clear c11
    replace H := Option.bind_eq_some_iff.mp H
    obtain ⟨⟨t257, t258⟩, A120, H⟩ := H
    replace H : (if (t229 == t257 && (t230 == t258)) = true then (if t231 = 1 then (if t232 = 0 then (if t238 = 6 then (if (t240 == 4611686018427387904 && (t241 == 0)) = true then (if (t243 == (-9223372036854775808) && (t244 == 0)) = true then (if t245 = 0 then (if t249 = 2 then (if t253 = (-5) then (if t254 = true then ((wide_Text.f k t240 t241).bind fun t259 => (if t259.toList = ([56, 53, 48, 55, 48, 53, 57, 49, 55, 51, 48, 50, 51, 52, 54, 49, 53, 56, 54, 53, 56, 52, 51, 54, 53, 49, 56, 53, 55, 57, 52, 50, 48, 53, 50, 56, 54, 52] : List UInt8) then ((wide_Cmp.f t229 t230 t240 t241).bind fun t260 => (some (t260 == (-1)))) else (none))) else (none)) else (none)) else (none)) else (none)) else (none)) else (none)) else (none)) else (none)) else (none)) else (none)) = some r := H
    have A12 := Aside0.mk A120
    clear A120
    by_cases c13 : (t229 == t257 && (t230 == t258)) = true
    · rw [if_pos c13] at H
      have c13b0 : (t229 == t257 && (t230 == t258)) = true := c13
      (try (have c13b1 : decide (t229 = t257 && (t230 == t258)) = true := by simpa using c13))
      (try (have c13b2 : (t229 == t257 && (t230 == t258)) = true := by simpa using c13))
      clear c13
      by_cases c14 : t231 = 1
      · rw [if_pos c14] at H
        have c14b0 : (t231 == 1) = true := beq_iff_eq.mpr c14
        have c14b1 : (t231 != 1) = false := bne_eq_false_iff_eq.mpr c14
        clear c14
        by_cases c15 : t232 = 0
        · rw [if_pos c15] at H
          have c15b0 : (t232 == 0) = true := beq_iff_eq.mpr c15
          have c15b1 : (t232 != 0) = false := bne_eq_false_iff_eq.mpr c15
          clear c15
          by_cases c16 : t238 = 6
          · rw [if_pos c16] at H
            have c16b0 : (t238 == 6) = true := beq_iff_eq.mpr c16
            have c16b1 : (t238 != 6) = false := bne_eq_false_iff_eq.mpr c16
            clear c16
            by_cases c17 : (t240 == 4611686018427387904 && (t241 == 0)) = true
            · rw [if_pos c17] at H
              have c17b0 : (t240 == 4611686018427387904 && (t241 == 0)) = true := c17
              (try (have c17b1 : decide (t240 = 4611686018427387904 && (t241 == 0)) = true := by simpa using c17))
              (try (have c17b2 : (t240 == 4611686018427387904 && (t241 == 0)) = true := by simpa using c17))
              clear c17
              by_cases c18 : (t243 == (-9223372036854775808) && (t244 == 0)) = true
              · rw [if_pos c18] at H
                have c18b0 : (t243 == (-9223372036854775808) && (t244 == 0)) = true := c18
                (try (have c18b1 : decide (t243 = (-9223372036854775808) && (t244 == 0)) = true := by simpa using c18))
                (try (have c18b2 : (t243 == (-9223372036854775808) && (t244 == 0)) = true := by simpa using c18))
                clear c18
                by_cases c19 : t245 = 0
                · rw [if_pos c19] at H
                  have c19b0 : (t245 == 0) = true := beq_iff_eq.mpr c19
                  have c19b1 : (t245 != 0) = false := bne_eq_false_iff_eq.mpr c19
                  clear c19
                  by_cases c20 : t249 = 2
                  · rw [if_pos c20] at H
                    have c20b0 : (t249 == 2) = true := beq_iff_eq.mpr c20
                    have c20b1 : (t249 != 2) = false := bne_eq_false_iff_eq.mpr c20
                    clear c20
                    by_cases c21 : t253 = (-5)
                    · rw [if_pos c21] at H
                      have c21b0 : (t253 == (-5)) = true := beq_iff_eq.mpr c21
                      have c21b1 : (t253 != (-5)) = false := bne_eq_false_iff_eq.mpr c21
                      clear c21
                      by_cases c22 : t254 = true
                      · subst c22
                        have H1 : ((wide_Text.f k t240 t241).bind fun t259 => (if t259.toList = ([56, 53, 48, 55, 48, 53, 57, 49, 55, 51, 48, 50, 51, 52, 54, 49, 53, 56, 54, 53, 56, 52, 51, 54, 53, 49, 56, 53, 55, 57, 52, 50, 48, 53, 50, 56, 54, 52] : List UInt8) then ((wide_Cmp.f t229 t230 t240 t241).bind fun t260 => (some (t260 == (-1)))) else (none))) = some r := by rw [if_pos rfl] at H; exact H
                        clear H
                        have H := H1
                        clear H1
                        replace H := Option.bind_eq_some_iff.mp H
                        obtain ⟨t259, A230, H⟩ := H
                        replace H : (if t259.toList = ([56, 53, 48, 55, 48, 53, 57, 49, 55, 51, 48, 50, 51, 52, 54, 49, 53, 56, 54, 53, 56, 52, 51, 54, 53, 49, 56, 53, 55, 57, 52, 50, 48, 53, 50, 56, 54, 52] : List UInt8) then ((wide_Cmp.f t229 t230 t240 t241).bind fun t260 => (some (t260 == (-1)))) else (none)) = some r := H
                        have A23 := Aside0.mk A230
                        clear A230
                        by_cases c24 : t259.toList = ([56, 53, 48, 55, 48, 53, 57, 49, 55, 51, 48, 50, 51, 52, 54, 49, 53, 56, 54, 53, 56, 52, 51, 54, 53, 49, 56, 53, 55, 57, 52, 50, 48, 53, 50, 56, 54, 52] : List UInt8)
                        · rw [if_pos c24] at H
                          have c24b0 : (t259.toList == ([56, 53, 48, 55, 48, 53, 57, 49, 55, 51, 48, 50, 51, 52, 54, 49, 53, 56, 54, 53, 56, 52, 51, 54, 53, 49, 56, 53, 55, 57, 52, 50, 48, 53, 50, 56, 54, 52] : List UInt8)) = true := beq_iff_eq.mpr c24
                          have c24b1 : (t259.toList != ([56, 53, 48, 55, 48, 53, 57, 49, 55, 51, 48, 50, 51, 52, 54, 49, 53, 56, 54, 53, 56, 52, 51, 54, 53, 49, 56, 53, 55, 57, 52, 50, 48, 53, 50, 56, 54, 52] : List UInt8)) = false := bne_eq_false_iff_eq.mpr c24
                          clear c24
                          replace H := Option.bind_eq_some_iff.mp H
                          obtain ⟨t260, A250, H⟩ := H
                          replace H : (some (t260 == (-1))) = some r := H
                          have A25 := Aside0.mk A250
                          clear A250
                          obtain rfl := Option.some.inj H
                          go_enter Try.func12, Try.ntmps12
                          try go_wp2_with (first | ((with_reducible refine gate_callee (f := 23) rfl ?_); refine goesL_ (some 14) rfl rfl Try.func23 (by kernel_rfl) rfl #[.int .i64 (-7)] rfl aG ?_; (with_reducible refine (wide_Of.calls (-7) t227 t228 _ A1.out).mono ?_); rintro e w26 ⟨rfl, hb⟩; refine ⟨_, rfl, ?_⟩; replace HB := Aside0.mk (bS hb); (try clear hb); (try clear hb2); (try clear hk); (try clear hi)) | ((with_reducible refine gate_callee (f := 10) rfl ?_); refine goesL_ (some 15) rfl rfl Try.func10 (by kernel_rfl) rfl #[.agg #[.int .i64 t227, .int .u64 t228], .int .i64 2] rfl aG ?_; (with_reducible refine (wide_Div.calls k t227 t228 2 t229 t230 t231 t232 _ A2.out).mono ?_); rintro e w27 ⟨rfl, hb⟩; refine ⟨_, rfl, ?_⟩; replace HB := Aside0.mk (bS hb); (try clear hb); (try clear hb2); (try clear hk); (try clear hi)) | ((with_reducible refine gate_dst (N := 1) rfl ?_); refine box_event ?hg (N := 1) ?hd (cs := #[.int .i64 0, .int .u64 0]) (t := 24) ?hr ?_; (case hd => rfl); (case hg => rfl); (case hr => first | (go_simp; done) | (go_simp; rfl)); intro gb233 hg w28 hbox hb; have nn_ := bT hb hg; have BK233 := Aside0.mk (hbox); have GW233 := Aside0.mk nn_.2; have GE233 := GW233; replace HB := Aside0.mk nn_.1; clear nn_; clear hb hbox hg; have hcz29_0 : w28.cell? ⟨gb233, 0, none⟩ = some (.int .i64 0) := (blk_cell BK233.out 0).trans rfl; have hcz29_1 : w28.cell? ⟨gb233, 1, none⟩ = some (.int .u64 0) := (blk_cell BK233.out 1).trans rfl; have hfz29_0 := blk_frozen BK233.out 0; have hfz29_1 := blk_frozen BK233.out 1) | ((with_reducible refine gate_callee (f := 23) rfl ?_); refine goesL_ (some 21) rfl rfl Try.func23 (by kernel_rfl) rfl #[.int .i64 1] rfl aG ?_; (with_reducible refine (wide_Of.calls 1 t234 t235 _ A3.out).mono ?_); rintro e w30 ⟨rfl, hb⟩; refine ⟨_, rfl, ?_⟩; replace BK233 := Aside0.mk (blk_below (g := gb233) (o := .cells #[.int .i64 t229, .int .u64 t230] 24 (0, 0)) (by (with_reducible repeat (first | refine blk_drewN ?_ _ | refine blk_drew ?_ | refine blk_alloc ?_ _)); refine blk_put (cs := #[.int .i64 t229, .int .u64 0]) ?_ 1 _ rfl; (with_reducible repeat (first | refine blk_drewN ?_ _ | refine blk_drew ?_ | refine blk_alloc ?_ _)); refine blk_put (cs := #[.int .i64 0, .int .u64 0]) ?_ 0 _ rfl; (with_reducible repeat (first | refine blk_drewN ?_ _ | refine blk_drew ?_ | refine blk_alloc ?_ _)); exact BK233.out) hb); replace HB := Aside0.mk (bS hb); (try clear hb); (try clear hb2); (try clear hk); (try clear hi)) | ((with_reducible refine gate_callee (f := 25) rfl ?_); refine goesL_ (some 22) rfl rfl Try.func25 (by kernel_rfl) rfl #[.agg #[.int .i64 9223372036854775807, .int .u64 18446744073709551615], .agg #[.int .i64 t234, .int .u64 t235]] rfl aG ?_; (with_reducible refine (wide_Add.calls 9223372036854775807 18446744073709551615 t234 t235 t236 t237 t238 _ A4.out).mono ?_); rintro e w31 ⟨rfl, hb⟩; refine ⟨_, rfl, ?_⟩; replace BK233 := Aside0.mk (bK BK233 hb); replace HB := Aside0.mk (bS hb); (try clear hb); (try clear hb2); (try clear hk); (try clear hi)) | ((with_reducible refine gate_dst (N := 4) rfl ?_); refine box_event ?hg (N := 4) ?hd (cs := #[.int .i64 0, .int .u64 0]) (t := 24) ?hr ?_; (case hd => rfl); (case hg => rfl); (case hr => first | (go_simp; done) | (go_simp; rfl)); intro gb239 hg w32 hbox hb; have nn_ := bT hb hg; have bgb233_ := bN BK233 hb hg; have BK239 := Aside0.mk (hbox); have GW239 := Aside0.mk nn_.2; have GE239 := GW239; have NB233_239 := Aside0.mk bgb233_.2.1; have NB239_233 := Aside0.mk bgb233_.2.2; replace BK233 := Aside0.mk bgb233_.1; replace HB := Aside0.mk nn_.1; clear nn_ bgb233_; clear hb hbox hg; have hnb33 := NB239_233.out; have hnc33 := NB233_239.out; have hcz34_0 : w32.cell? ⟨gb239, 0, none⟩ = some (.int .i64 0) := (blk_cell BK239.out 0).trans rfl; have hcz34_1 : w32.cell? ⟨gb239, 1, none⟩ = some (.int .u64 0) := (blk_cell BK239.out 1).trans rfl; have hfz34_0 := blk_frozen BK239.out 0; have hfz34_1 := blk_frozen BK239.out 1) | ((with_reducible refine gate_callee (f := 21) rfl ?_); refine goesL_ (some 25) rfl rfl Try.func21 (by kernel_rfl) rfl #[.int .i64 (-9223372036854775808), .int .i64 (-9223372036854775808)] rfl aG ?_; (with_reducible refine (wide_Mul.calls (-9223372036854775808) (-9223372036854775808) t240 t241 _ A5.out).mono ?_); rintro e w35 ⟨rfl, hb⟩; refine ⟨_, rfl, ?_⟩; replace BK233 := Aside0.mk (blk_below (g := gb233) (o := .cells #[.int .i64 t229, .int .u64 t230] 24 (0, 0)) (by (with_reducible repeat (first | refine blk_drewN ?_ _ | refine blk_drew ?_ | refine blk_alloc ?_ _)); refine blk_far ?_ NB233_239.out _; (with_reducible repeat (first | refine blk_drewN ?_ _ | refine blk_drew ?_ | refine blk_alloc ?_ _)); refine blk_far ?_ NB233_239.out _; (with_reducible repeat (first | refine blk_drewN ?_ _ | refine blk_drew ?_ | refine blk_alloc ?_ _)); exact BK233.out) hb); replace BK239 := Aside0.mk (blk_below (g := gb239) (o := .cells #[.int .i64 t236, .int .u64 t237] 24 (0, 0)) (by (with_reducible repeat (first | refine blk_drewN ?_ _ | refine blk_drew ?_ | refine blk_alloc ?_ _)); refine blk_put (cs := #[.int .i64 t236, .int .u64 0]) ?_ 1 _ rfl; (with_reducible repeat (first | refine blk_drewN ?_ _ | refine blk_drew ?_ | refine blk_alloc ?_ _)); refine blk_put (cs := #[.int .i64 0, .int .u64 0]) ?_ 0 _ rfl; (with_reducible repeat (first | refine blk_drewN ?_ _ | refine blk_drew ?_ | refine blk_alloc ?_ _)); exact BK239.out) hb); replace HB := Aside0.mk (bS hb); (try clear hb); (try clear hb2); (try clear hk); (try clear hi)) | ((with_reducible refine gate_dst (N := 6) rfl ?_); refine box_event ?hg (N := 6) ?hd (cs := #[.int .i64 0, .int .u64 0]) (t := 24) ?hr ?_; (case hd => rfl); (case hg => rfl); (case hr => first | (go_simp; done) | (go_simp; rfl)); intro gb242 hg w36 hbox hb; have nn_ := bT hb hg; have bgb233_ := bN BK233 hb hg; have bgb239_ := bN BK239 hb hg; have BK242 := Aside0.mk (hbox); have GW242 := Aside0.mk nn_.2; have GE242 := GW242; have NB233_242 := Aside0.mk bgb233_.2.1; have NB242_233 := Aside0.mk bgb233_.2.2; have NB239_242 := Aside0.mk bgb239_.2.1; have NB242_239 := Aside0.mk bgb239_.2.2; replace BK233 := Aside0.mk bgb233_.1; replace BK239 := Aside0.mk bgb239_.1; replace HB := Aside0.mk nn_.1; clear nn_ bgb233_ bgb239_; clear hb hbox hg; have hnb37 := NB242_233.out; have hnc37 := NB233_242.out; have hnb38 := NB242_239.out; have hnc38 := NB239_242.out; have hcz39_0 : w36.cell? ⟨gb242, 0, none⟩ = some (.int .i64 0) := (blk_cell BK242.out 0).trans rfl; have hcz39_1 : w36.cell? ⟨gb242, 1, none⟩ = some (.int .u64 0) := (blk_cell BK242.out 1).trans rfl; have hfz39_0 := blk_frozen BK242.out 0; have hfz39_1 := blk_frozen BK242.out 1) | ((with_reducible refine gate_callee (f := 13) rfl ?_); refine goesL_ (some 27) rfl rfl Try.func13 (by kernel_rfl) rfl #[.string (⟨#[45, 49, 55, 48, 49, 52, 49, 49, 56, 51, 52, 54, 48, 52, 54, 57, 50, 51, 49, 55, 51, 49, 54, 56, 55, 51, 48, 51, 55, 49, 53, 56, 56, 52, 49, 48, 53, 55, 50, 56]⟩ : ByteArray)] rfl aG ?_; (with_reducible refine (wide_Parse.calls k (⟨#[45, 49, 55, 48, 49, 52, 49, 49, 56, 51, 52, 54, 48, 52, 54, 57, 50, 51, 49, 55, 51, 49, 54, 56, 55, 51, 48, 51, 55, 49, 53, 56, 56, 52, 49, 48, 53, 55, 50, 56]⟩ : ByteArray) t243 t244 t245 _ A6.out).mono ?_); rintro e w40 ⟨rfl, hb⟩; refine ⟨_, rfl, ?_⟩; replace BK233 := Aside0.mk (blk_below (g := gb233) (o := .cells #[.int .i64 t229, .int .u64 t230] 24 (0, 0)) (by (with_reducible repeat (first | refine blk_drewN ?_ _ | refine blk_drew ?_ | refine blk_alloc ?_ _)); refine blk_far ?_ NB233_242.out _; (with_reducible repeat (first | refine blk_drewN ?_ _ | refine blk_drew ?_ | refine blk_alloc ?_ _)); refine blk_far ?_ NB233_242.out _; (with_reducible repeat (first | refine blk_drewN ?_ _ | refine blk_drew ?_ | refine blk_alloc ?_ _)); exact BK233.out) hb); replace BK239 := Aside0.mk (blk_below (g := gb239) (o := .cells #[.int .i64 t236, .int .u64 t237] 24 (0, 0)) (by (with_reducible repeat (first | refine blk_drewN ?_ _ | refine blk_drew ?_ | refine blk_alloc ?_ _)); refine blk_far ?_ NB239_242.out _; (with_reducible repeat (first | refine blk_drewN ?_ _ | refine blk_drew ?_ | refine blk_alloc ?_ _)); refine blk_far ?_ NB239_242.out _; (with_reducible repeat (first | refine blk_drewN ?_ _ | refine blk_drew ?_ | refine blk_alloc ?_ _)); exact BK239.out) hb); replace BK242 := Aside0.mk (blk_below (g := gb242) (o := .cells #[.int .i64 t240, .int .u64 t241] 24 (0, 0)) (by (with_reducible repeat (first | refine blk_drewN ?_ _ | refine blk_drew ?_ | refine blk_alloc ?_ _)); refine blk_put (cs := #[.int .i64 t240, .int .u64 0]) ?_ 1 _ rfl; (with_reducible repeat (first | refine blk_drewN ?_ _ | refine blk_drew ?_ | refine blk_alloc ?_ _)); refine blk_put (cs := #[.int .i64 0, .int .u64 0]) ?_ 0 _ rfl; (with_reducible repeat (first | refine blk_drewN ?_ _ | refine blk_drew ?_ | refine blk_alloc ?_ _)); exact BK242.out) hb); replace HB := Aside0.mk (bS hb); (try clear hb); (try clear hb2); (try clear hk); (try clear hi)) | ((with_reducible refine gate_dst (N := 7) rfl ?_); refine box_event ?hg (N := 7) ?hd (cs := #[.int .i64 0, .int .u64 0]) (t := 24) ?hr ?_; (case hd => rfl); (case hg => rfl); (case hr => first | (go_simp; done) | (go_simp; rfl)); intro gb246 hg w41 hbox hb; have nn_ := bT hb hg; have bgb233_ := bN BK233 hb hg; have bgb239_ := bN BK239 hb hg; have bgb242_ := bN BK242 hb hg; have BK246 := Aside0.mk (hbox); have GW246 := Aside0.mk nn_.2; have GE246 := GW246; have NB233_246 := Aside0.mk bgb233_.2.1; have NB246_233 := Aside0.mk bgb233_.2.2; have NB239_246 := Aside0.mk bgb239_.2.1; have NB246_239 := Aside0.mk bgb239_.2.2; have NB242_246 := Aside0.mk bgb242_.2.1; have NB246_242 := Aside0.mk bgb242_.2.2; replace BK233 := Aside0.mk bgb233_.1; replace BK239 := Aside0.mk bgb239_.1; replace BK242 := Aside0.mk bgb242_.1; replace HB := Aside0.mk nn_.1; clear nn_ bgb233_ bgb239_ bgb242_; clear hb hbox hg; have hnb42 := NB246_233.out; have hnc42 := NB233_246.out; have hnb43 := NB246_239.out; have hnc43 := NB239_246.out; have hnb44 := NB246_242.out; have hnc44 := NB242_246.out; have hcz45_0 : w41.cell? ⟨gb246, 0, none⟩ = some (.int .i64 0) := (blk_cell BK246.out 0).trans rfl; have hcz45_1 : w41.cell? ⟨gb246, 1, none⟩ = some (.int .u64 0) := (blk_cell BK246.out 1).trans rfl; have hfz45_0 := blk_frozen BK246.out 0; have hfz45_1 := blk_frozen BK246.out 1) | ((with_reducible refine gate_callee (f := 13) rfl ?_); refine goesL_ (some 31) rfl rfl Try.func13 (by kernel_rfl) rfl #[.string (⟨#[48, 48, 55]⟩ : ByteArray)] rfl aG ?_; (with_reducible refine (wide_Parse.calls k (⟨#[48, 48, 55]⟩ : ByteArray) t247 t248 t249 _ A7.out).mono ?_); rintro e w46 ⟨rfl, hb⟩; refine ⟨_, rfl, ?_⟩; replace BK233 := Aside0.mk (blk_below (g := gb233) (o := .cells #[.int .i64 t229, .int .u64 t230] 24 (0, 0)) (by (with_reducible repeat (first | refine blk_drewN ?_ _ | refine blk_drew ?_ | refine blk_alloc ?_ _)); refine blk_far ?_ NB233_246.out _; (with_reducible repeat (first | refine blk_drewN ?_ _ | refine blk_drew ?_ | refine blk_alloc ?_ _)); refine blk_far ?_ NB233_246.out _; (with_reducible repeat (first | refine blk_drewN ?_ _ | refine blk_drew ?_ | refine blk_alloc ?_ _)); exact BK233.out) hb); replace BK239 := Aside0.mk (blk_below (g := gb239) (o := .cells #[.int .i64 t236, .int .u64 t237] 24 (0, 0)) (by (with_reducible repeat (first | refine blk_drewN ?_ _ | refine blk_drew ?_ | refine blk_alloc ?_ _)); refine blk_far ?_ NB239_246.out _; (with_reducible repeat (first | refine blk_drewN ?_ _ | refine blk_drew ?_ | refine blk_alloc ?_ _)); refine blk_far ?_ NB239_246.out _; (with_reducible repeat (first | refine blk_drewN ?_ _ | refine blk_drew ?_ | refine blk_alloc ?_ _)); exact BK239.out) hb); replace BK242 := Aside0.mk (blk_below (g := gb242) (o := .cells #[.int .i64 t240, .int .u64 t241] 24 (0, 0)) (by (with_reducible repeat (first | refine blk_drewN ?_ _ | refine blk_drew ?_ | refine blk_alloc ?_ _)); refine blk_far ?_ NB242_246.out _; (with_reducible repeat (first | refine blk_drewN ?_ _ | refine blk_drew ?_ | refine blk_alloc ?_ _)); refine blk_far ?_ NB242_246.out _; (with_reducible repeat (first | refine blk_drewN ?_ _ | refine blk_drew ?_ | refine blk_alloc ?_ _)); exact BK242.out) hb); replace BK246 := Aside0.mk (blk_below (g := gb246) (o := .cells #[.int .i64 t243, .int .u64 t244] 24 (0, 0)) (by (with_reducible repeat (first | refine blk_drewN ?_ _ | refine blk_drew ?_ | refine blk_alloc ?_ _)); refine blk_put (cs := #[.int .i64 t243, .int .u64 0]) ?_ 1 _ rfl; (with_reducible repeat (first | refine blk_drewN ?_ _ | refine blk_drew ?_ | refine blk_alloc ?_ _)); refine blk_put (cs := #[.int .i64 0, .int .u64 0]) ?_ 0 _ rfl; (with_reducible repeat (first | refine blk_drewN ?_ _ | refine blk_drew ?_ | refine blk_alloc ?_ _)); exact BK246.out) hb); replace HB := Aside0.mk (bS hb); (try clear hb); (try clear hb2); (try clear hk); (try clear hi)) | ((with_reducible refine gate_dst (N := 9) rfl ?_); refine box_event ?hg (N := 9) ?hd (cs := #[.int .i64 0, .int .u64 0]) (t := 24) ?hr ?_; (case hd => rfl); (case hg => rfl); (case hr => first | (go_simp; done) | (go_simp; rfl)); intro gb250 hg w47 hbox hb; have nn_ := bT hb hg; have bgb233_ := bN BK233 hb hg; have bgb239_ := bN BK239 hb hg; have bgb242_ := bN BK242 hb hg; have bgb246_ := bN BK246 hb hg; have BK250 := Aside0.mk (hbox); have GW250 := Aside0.mk nn_.2; have GE250 := GW250; have NB233_250 := Aside0.mk bgb233_.2.1; have NB250_233 := Aside0.mk bgb233_.2.2; have NB239_250 := Aside0.mk bgb239_.2.1; have NB250_239 := Aside0.mk bgb239_.2.2; have NB242_250 := Aside0.mk bgb242_.2.1; have NB250_242 := Aside0.mk bgb242_.2.2; have NB246_250 := Aside0.mk bgb246_.2.1; have NB250_246 := Aside0.mk bgb246_.2.2; replace BK233 := Aside0.mk bgb233_.1; replace BK239 := Aside0.mk bgb239_.1; replace BK242 := Aside0.mk bgb242_.1; replace BK246 := Aside0.mk bgb246_.1; replace HB := Aside0.mk nn_.1; clear nn_ bgb233_ bgb239_ bgb242_ bgb246_; clear hb hbox hg; have hnb48 := NB250_233.out; have hnc48 := NB233_250.out; have hnb49 := NB250_239.out; have hnc49 := NB239_250.out; have hnb50 := NB250_242.out; have hnc50 := NB242_250.out; have hnb51 := NB250_246.out; have hnc51 := NB246_250.out; have hcz52_0 : w47.cell? ⟨gb250, 0, none⟩ = some (.int .i64 0) := (blk_cell BK250.out 0).trans rfl; have hcz52_1 : w47.cell? ⟨gb250, 1, none⟩ = some (.int .u64 0) := (blk_cell BK250.out 1).trans rfl; have hfz52_0 := blk_frozen BK250.out 0; have hfz52_1 := blk_frozen BK250.out 1) | ((with_reducible refine gate_callee (f := 23) rfl ?_); refine goesL_ (some 35) rfl rfl Try.func23 (by kernel_rfl) rfl #[.int .i64 (-5)] rfl aG ?_; (with_reducible refine (wide_Of.calls (-5) t251 t252 _ A8.out).mono ?_); rintro e w53 ⟨rfl, hb⟩; refine ⟨_, rfl, ?_⟩; replace BK233 := Aside0.mk (blk_below (g := gb233) (o := .cells #[.int .i64 t229, .int .u64 t230] 24 (0, 0)) (by (with_reducible repeat (first | refine blk_drewN ?_ _ | refine blk_drew ?_ | refine blk_alloc ?_ _)); refine blk_far ?_ NB233_250.out _; (with_reducible repeat (first | refine blk_drewN ?_ _ | refine blk_drew ?_ | refine blk_alloc ?_ _)); refine blk_far ?_ NB233_250.out _; (with_reducible repeat (first | refine blk_drewN ?_ _ | refine blk_drew ?_ | refine blk_alloc ?_ _)); exact BK233.out) hb); replace BK239 := Aside0.mk (blk_below (g := gb239) (o := .cells #[.int .i64 t236, .int .u64 t237] 24 (0, 0)) (by (with_reducible repeat (first | refine blk_drewN ?_ _ | refine blk_drew ?_ | refine blk_alloc ?_ _)); refine blk_far ?_ NB239_250.out _; (with_reducible repeat (first | refine blk_drewN ?_ _ | refine blk_drew ?_ | refine blk_alloc ?_ _)); refine blk_far ?_ NB239_250.out _; (with_reducible repeat (first | refine blk_drewN ?_ _ | refine blk_drew ?_ | refine blk_alloc ?_ _)); exact BK239.out) hb); replace BK242 := Aside0.mk (blk_below (g := gb242) (o := .cells #[.int .i64 t240, .int .u64 t241] 24 (0, 0)) (by (with_reducible repeat (first | refine blk_drewN ?_ _ | refine blk_drew ?_ | refine blk_alloc ?_ _)); refine blk_far ?_ NB242_250.out _; (with_reducible repeat (first | refine blk_drewN ?_ _ | refine blk_drew ?_ | refine blk_alloc ?_ _)); refine blk_far ?_ NB242_250.out _; (with_reducible repeat (first | refine blk_drewN ?_ _ | refine blk_drew ?_ | refine blk_alloc ?_ _)); exact BK242.out) hb); replace BK246 := Aside0.mk (blk_below (g := gb246) (o := .cells #[.int .i64 t243, .int .u64 t244] 24 (0, 0)) (by (with_reducible repeat (first | refine blk_drewN ?_ _ | refine blk_drew ?_ | refine blk_alloc ?_ _)); refine blk_far ?_ NB246_250.out _; (with_reducible repeat (first | refine blk_drewN ?_ _ | refine blk_drew ?_ | refine blk_alloc ?_ _)); refine blk_far ?_ NB246_250.out _; (with_reducible repeat (first | refine blk_drewN ?_ _ | refine blk_drew ?_ | refine blk_alloc ?_ _)); exact BK246.out) hb); replace BK250 := Aside0.mk (blk_below (g := gb250) (o := .cells #[.int .i64 t247, .int .u64 t248] 24 (0, 0)) (by (with_reducible repeat (first | refine blk_drewN ?_ _ | refine blk_drew ?_ | refine blk_alloc ?_ _)); refine blk_put (cs := #[.int .i64 t247, .int .u64 0]) ?_ 1 _ rfl; (with_reducible repeat (first | refine blk_drewN ?_ _ | refine blk_drew ?_ | refine blk_alloc ?_ _)); refine blk_put (cs := #[.int .i64 0, .int .u64 0]) ?_ 0 _ rfl; (with_reducible repeat (first | refine blk_drewN ?_ _ | refine blk_drew ?_ | refine blk_alloc ?_ _)); exact BK250.out) hb); replace HB := Aside0.mk (bS hb); (try clear hb); (try clear hb2); (try clear hk); (try clear hi)) | ((with_reducible refine gate_callee (f := 19) rfl ?_); refine goesL_ (some 36) rfl rfl Try.func19 (by kernel_rfl) rfl #[.agg #[.int .i64 t251, .int .u64 t252]] rfl aG ?_; (with_reducible refine (wide_Int.calls t251 t252 t253 true _ A9.out).mono ?_); rintro e w54 ⟨rfl, hb⟩; refine ⟨_, rfl, ?_⟩; replace BK233 := Aside0.mk (bK BK233 hb); replace BK239 := Aside0.mk (bK BK239 hb); replace BK242 := Aside0.mk (bK BK242 hb); replace BK246 := Aside0.mk (bK BK246 hb); replace BK250 := Aside0.mk (bK BK250 hb); replace HB := Aside0.mk (bS hb); (try clear hb); (try clear hb2); (try clear hk); (try clear hi)))
                          have n0_ := Aside0.mk (blk_drew BK233.out)
                          have n1_ := Aside0.mk (blk_drew BK239.out)
                          have n2_ := Aside0.mk (blk_drew BK242.out)
                          have n3_ := Aside0.mk (blk_drew BK246.out)
                          have n4_ := Aside0.mk (blk_drew BK250.out)
                          have n5_ := Aside0.mk (below_drew1 HB.out)
                          clear BK233
                          clear BK239
                          clear BK242
                          clear BK246
                          clear BK250
                          clear HB
                          have BK233 := n0_
                          have BK239 := n1_
                          have BK242 := n2_
                          have BK246 := n3_
                          have BK250 := n4_
                          have HB := n5_
                          clear n0_ n1_ n2_ n3_ n4_ n5_
                          refine start_ (n := 57) (S := fun w' => w'.cell? ⟨gb233, 0, none⟩ = some (.int .i64 t229) ∧ w'.cell? ⟨gb233, 1, none⟩ = some (.int .u64 t230) ∧ w'.cell? ⟨gb242, 0, none⟩ = some (.int .i64 t240) ∧ w'.cell? ⟨gb242, 1, none⟩ = some (.int .u64 t241) ∧ w'.cell? ⟨gb246, 0, none⟩ = some (.int .i64 t243) ∧ w'.cell? ⟨gb246, 1, none⟩ = some (.int .u64 t244)) (ds := []) #[false, false, false, false, false, false, false, false, false, false, false, false, false, false, false, false, false, false, false, false, false, false, false, false, false, false, false, false, false, false, false, false, false, false, false, false, false, false, false, false, false, false, false, false, false, false, false, false, false, false, false, false, false, false, false, false, false] (by kernel_rfl) rfl rfl ⟨(blk_cell BK233.out 0).trans rfl, (blk_cell BK233.out 1).trans rfl, (blk_cell BK242.out 0).trans rfl, (blk_cell BK242.out 1).trans rfl, (blk_cell BK246.out 0).trans rfl, (blk_cell BK246.out 1).trans rfl⟩ (fun hHeld => ?_); refine with_tabW corebanklaw01_live.tab7 corebanklaw01_live.bits7 (fun HT_ HW_ => ?_)
                          generalize w54.drew = w55 at BK233 BK239 BK242 BK246 BK250 HB hHeld ⊢
                          refine pure_ (i := 1) (N := some 40) (v := ?_) (a' := ?_) #[false, true, false, false, false, false, false, false, false, false, false, false, false, false, false, false, false, false, false, false, false, false, false, false, false, false, false, false, false, false, false, false, false, false, false, false, false, false, false, false, false, false, false, false, false, false, false, false, false, false, false, false, false, false, false, false, false] rfl rfl (any_of HT_.out (by kernel_rfl)) (fun _ _ _ h => h) (Or.inl ⟨by rfl, ?_⟩) ?_ ?_
                          rotate_left
                          · intro w'
                            go_simp
                            with_reducible rfl
                          rotate_left
                          · simp only [Act.put, List.setIfInBounds_toArray, List.set_cons_zero, List.set_cons_succ, i64_w, i32_w]
                            rfl
                          refine one_ (i := 0) (N := some 39) #[true, true, false, false, false, false, false, false, false, false, false, false, false, false, false, false, false, false, false, false, false, false, false, false, false, false, false, false, false, false, false, false, false, false, false, false, false, false, false, false, false, false, false, false, false, false, false, false, false, false, false, false, false, false, false, false, false] rfl rfl (one_of HT_.out (by kernel_rfl)) (by decide) (fun K hK => ?_)
                          refine goes_ Try.func23 (by kernel_rfl) rfl #[.int .i64 (-1)] (by rfl) rfl rfl aG ?_
                          with_reducible refine (wide_Of.calls (-1) t255 t256 _ A10.out).mono ?_
                          rintro e w56 ⟨rfl, hb⟩
                          refine ⟨_, rfl, ?_⟩
                          have n0_ := Aside0.mk (bK BK233 hb)
                          have n1_ := Aside0.mk (bK BK239 hb)
                          have n2_ := Aside0.mk (bK BK242 hb)
                          have n3_ := Aside0.mk (bK BK246 hb)
                          have n4_ := Aside0.mk (bK BK250 hb)
                          have n5_ := Aside0.mk (bS hb)
                          clear BK233
                          clear BK239
                          clear BK242
                          clear BK246
                          clear BK250
                          clear HB
                          have BK233 := n0_
                          have BK239 := n1_
                          have BK242 := n2_
                          have BK246 := n3_
                          have BK250 := n4_
                          have HB := n5_
                          clear n0_ n1_ n2_ n3_ n4_ n5_
                          (try clear hb)
                          (try clear hb2)
                          (try clear hk)
                          (try clear hi)
                          refine hK.out _ _ ⟨(blk_cell BK233.out 0).trans rfl, (blk_cell BK233.out 1).trans rfl, (blk_cell BK242.out 0).trans rfl, (blk_cell BK242.out 1).trans rfl, (blk_cell BK246.out 0).trans rfl, (blk_cell BK246.out 1).trans rfl⟩ (fun hHeld => ?_)
                          clear hK K
                          refine norm_ (a' := ?_) ?_ ?_
                          rotate_left
                          · show Act.put _ (some 39) _ = _
                            simp only [Act.put, List.setIfInBounds_toArray, List.set_cons_zero, List.set_cons_succ, i64_w, i32_w]
                            rfl
                          refine pure_ (i := 2) (N := some 41) (v := ?_) (a' := ?_) #[true, true, true, false, false, false, false, false, false, false, false, false, false, false, false, false, false, false, false, false, false, false, false, false, false, false, false, false, false, false, false, false, false, false, false, false, false, false, false, false, false, false, false, false, false, false, false, false, false, false, false, false, false, false, false, false, false] rfl rfl (any_of HT_.out (by kernel_rfl)) (fun _ _ _ h => h) (Or.inl ⟨by rfl, ?_⟩) ?_ ?_
                          rotate_left
                          · intro w'
                            go_simp
                            with_reducible rfl
                          rotate_left
                          · simp only [Act.put, List.setIfInBounds_toArray, List.set_cons_zero, List.set_cons_succ, i64_w, i32_w]
                            rfl
                          refine pure_ (i := 3) (N := some 42) (v := ?_) (a' := ?_) #[true, true, true, true, false, false, false, false, false, false, false, false, false, false, false, false, false, false, false, false, false, false, false, false, false, false, false, false, false, false, false, false, false, false, false, false, false, false, false, false, false, false, false, false, false, false, false, false, false, false, false, false, false, false, false, false, false] rfl rfl (any_of HT_.out (by kernel_rfl)) (fun _ _ _ h => h) (Or.inl ⟨by rfl, ?_⟩) ?_ ?_
                          rotate_left
                          · intro w'
                            go_simp
                            with_reducible rfl
                          rotate_left
                          · simp only [Act.put, List.setIfInBounds_toArray, List.set_cons_zero, List.set_cons_succ, i64_w, i32_w]
                            rfl
                          refine take_ (i := 4) (N := some 43) (v := ?_) (a' := ?_) #[true, true, true, true, true, false, false, false, false, false, false, false, false, false, false, false, false, false, false, false, false, false, false, false, false, false, false, false, false, false, false, false, false, false, false, false, false, false, false, false, false, false, false, false, false, false, false, false, false, false, false, false, false, false, false, false, false] rfl rfl (take_ofW HT_.out HW_.out (by kernel_rfl)) (fun _ _ _ h => h) (Or.inl ⟨by rfl, ?_⟩) hHeld ?_ ?_
                          rotate_left
                          · rintro w' ⟨s0, s1, s2, s3, s4, s5⟩
                            go_simp
                            with_reducible rfl
                          rotate_left
                          · simp only [Act.put, List.setIfInBounds_toArray, List.set_cons_zero, List.set_cons_succ, i64_w, i32_w]
                            rfl
                          refine one_ (i := 5) (N := some 44) #[true, true, true, true, true, true, false, false, false, false, false, false, false, false, false, false, false, false, false, false, false, false, false, false, false, false, false, false, false, false, false, false, false, false, false, false, false, false, false, false, false, false, false, false, false, false, false, false, false, false, false, false, false, false, false, false, false] rfl rfl (one_of HT_.out (by kernel_rfl)) (by decide) (fun K hK => ?_)
                          refine goes_ Try.func23 (by kernel_rfl) rfl #[.int .i64 (-4)] (by rfl) rfl rfl aG ?_
                          with_reducible refine (wide_Of.calls (-4) t257 t258 _ A12.out).mono ?_
                          rintro e w57 ⟨rfl, hb⟩
                          refine ⟨_, rfl, ?_⟩
                          have n0_ := Aside0.mk (bK BK233 hb)
                          have n1_ := Aside0.mk (bK BK239 hb)
                          have n2_ := Aside0.mk (bK BK242 hb)
                          have n3_ := Aside0.mk (bK BK246 hb)
                          have n4_ := Aside0.mk (bK BK250 hb)
                          have n5_ := Aside0.mk (bS hb)
                          clear BK233
                          clear BK239
                          clear BK242
                          clear BK246
                          clear BK250
                          clear HB
                          have BK233 := n0_
                          have BK239 := n1_
                          have BK242 := n2_
                          have BK246 := n3_
                          have BK250 := n4_
                          have HB := n5_
                          clear n0_ n1_ n2_ n3_ n4_ n5_
                          (try clear hb)
                          (try clear hb2)
                          (try clear hk)
                          (try clear hi)
                          refine hK.out _ _ ⟨(blk_cell BK233.out 0).trans rfl, (blk_cell BK233.out 1).trans rfl, (blk_cell BK242.out 0).trans rfl, (blk_cell BK242.out 1).trans rfl, (blk_cell BK246.out 0).trans rfl, (blk_cell BK246.out 1).trans rfl⟩ (fun hHeld => ?_)
                          clear hK K
                          refine norm_ (a' := ?_) ?_ ?_
                          rotate_left
                          · show Act.put _ (some 44) _ = _
                            simp only [Act.put, List.setIfInBounds_toArray, List.set_cons_zero, List.set_cons_succ, i64_w, i32_w]
                            rfl
                          refine pure_ (i := 6) (N := some 45) (v := ?_) (a' := ?_) #[true, true, true, true, true, true, true, false, false, false, false, false, false, false, false, false, false, false, false, false, false, false, false, false, false, false, false, false, false, false, false, false, false, false, false, false, false, false, false, false, false, false, false, false, false, false, false, false, false, false, false, false, false, false, false, false, false] rfl rfl (any_of HT_.out (by kernel_rfl)) (fun _ _ _ h => h) (Or.inl ⟨by rfl, ?_⟩) ?_ ?_
                          rotate_left
                          · intro w'
                            go_simp
                            with_reducible rfl
                          rotate_left
                          · simp only [Act.put, List.setIfInBounds_toArray, List.set_cons_zero, List.set_cons_succ, i64_w, i32_w]
                            rfl
                          refine pure_ (i := 7) (N := some 46) (v := ?_) (a' := ?_) #[true, true, true, true, true, true, true, true, false, false, false, false, false, false, false, false, false, false, false, false, false, false, false, false, false, false, false, false, false, false, false, false, false, false, false, false, false, false, false, false, false, false, false, false, false, false, false, false, false, false, false, false, false, false, false, false, false] rfl rfl (any_of HT_.out (by kernel_rfl)) (fun _ _ _ h => h) (Or.inl ⟨by rfl, ?_⟩) ?_ ?_
                          rotate_left
                          · intro w'
                            go_simp
                            with_reducible rfl
                          rotate_left
                          · simp only [Act.put, List.setIfInBounds_toArray, List.set_cons_zero, List.set_cons_succ, i64_w, i32_w]
                            rfl
                          refine pure_ (i := 8) (N := some 47) (v := ?_) (a' := ?_) #[true, true, true, true, true, true, true, true, true, false, false, false, false, false, false, false, false, false, false, false, false, false, false, false, false, false, false, false, false, false, false, false, false, false, false, false, false, false, false, false, false, false, false, false, false, false, false, false, false, false, false, false, false, false, false, false, false] rfl rfl (any_of HT_.out (by kernel_rfl)) (fun _ _ _ h => h) (Or.inl ⟨by rfl, ?_⟩) ?_ ?_
                          rotate_left
                          · intro w'
                            go_simp
                            with_reducible rfl
                          rotate_left
                          · simp only [Act.put, List.setIfInBounds_toArray, List.set_cons_zero, List.set_cons_succ, i64_w, i32_w]
                            rfl
                          refine pure_ (i := 9) (N := some 48) (v := ?_) (a' := ?_) #[true, true, true, true, true, true, true, true, true, true, false, false, false, false, false, false, false, false, false, false, false, false, false, false, false, false, false, false, false, false, false, false, false, false, false, false, false, false, false, false, false, false, false, false, false, false, false, false, false, false, false, false, false, false, false, false, false] rfl rfl (any_of HT_.out (by kernel_rfl)) (fun _ _ _ h => h) (Or.inl ⟨by rfl, ?_⟩) ?_ ?_
                          rotate_left
                          · intro w'
                            go_simp
                            with_reducible rfl
                          rotate_left
                          · simp only [Act.put, List.setIfInBounds_toArray, List.set_cons_zero, List.set_cons_succ, i64_w, i32_w]
                            rfl
                          refine pure_ (i := 10) (N := some 49) (v := ?_) (a' := ?_) #[true, true, true, true, true, true, true, true, true, true, true, false, false, false, false, false, false, false, false, false, false, false, false, false, false, false, false, false, false, false, false, false, false, false, false, false, false, false, false, false, false, false, false, false, false, false, false, false, false, false, false, false, false, false, false, false, false] rfl rfl (any_of HT_.out (by kernel_rfl)) (fun _ _ _ h => h) (Or.inl ⟨by rfl, ?_⟩) ?_ ?_
                          rotate_left
                          · intro w'
                            go_simp
                            with_reducible rfl
                          rotate_left
                          · simp only [Act.put, List.setIfInBounds_toArray, List.set_cons_zero, List.set_cons_succ, i64_w, i32_w]
                            rfl
                          refine pure_ (i := 11) (N := some 50) (v := ?_) (a' := ?_) #[true, true, true, true, true, true, true, true, true, true, true, true, false, false, false, false, false, false, false, false, false, false, false, false, false, false, false, false, false, false, false, false, false, false, false, false, false, false, false, false, false, false, false, false, false, false, false, false, false, false, false, false, false, false, false, false, false] rfl rfl (any_of HT_.out (by kernel_rfl)) (fun _ _ _ h => h) (Or.inl ⟨by rfl, ?_⟩) ?_ ?_
                          rotate_left
                          · intro w'
                            go_simp
                            with_reducible rfl
                          rotate_left
                          · simp only [Act.put, List.setIfInBounds_toArray, List.set_cons_zero, List.set_cons_succ, i64_w, i32_w]
                            rfl
                          refine pure_ (i := 12) (N := some 51) (v := ?_) (a' := ?_) #[true, true, true, true, true, true, true, true, true, true, true, true, true, false, false, false, false, false, false, false, false, false, false, false, false, false, false, false, false, false, false, false, false, false, false, false, false, false, false, false, false, false, false, false, false, false, false, false, false, false, false, false, false, false, false, false, false] rfl rfl (any_of HT_.out (by kernel_rfl)) (fun _ _ _ h => h) (Or.inl ⟨by rfl, ?_⟩) ?_ ?_
                          rotate_left
                          · intro w'
                            go_simp
                            with_reducible rfl
                          rotate_left
                          · simp only [Act.put, List.setIfInBounds_toArray, List.set_cons_zero, List.set_cons_succ, i64_w, i32_w]
                            rfl
                          refine pure_ (i := 13) (N := some 52) (v := ?_) (a' := ?_) #[true, true, true, true, true, true, true, true, true, true, true, true, true, true, false, false, false, false, false, false, false, false, false, false, false, false, false, false, false, false, false, false, false, false, false, false, false, false, false, false, false, false, false, false, false, false, false, false, false, false, false, false, false, false, false, false, false] rfl rfl (any_of HT_.out (by kernel_rfl)) (fun _ _ _ h => h) (Or.inl ⟨by rfl, ?_⟩) ?_ ?_
                          rotate_left
                          · intro w'
                            go_simp
                            with_reducible rfl
                          rotate_left
                          · simp only [Act.put, List.setIfInBounds_toArray, List.set_cons_zero, List.set_cons_succ, i64_w, i32_w]
                            rfl
                          refine pure_ (i := 14) (N := some 53) (v := ?_) (a' := ?_) #[true, true, true, true, true, true, true, true, true, true, true, true, true, true, true, false, false, false, false, false, false, false, false, false, false, false, false, false, false, false, false, false, false, false, false, false, false, false, false, false, false, false, false, false, false, false, false, false, false, false, false, false, false, false, false, false, false] rfl rfl (any_of HT_.out (by kernel_rfl)) (fun _ _ _ h => h) (Or.inl ⟨by rfl, ?_⟩) ?_ ?_
                          rotate_left
                          · intro w'
                            go_simp
                            with_reducible rfl
                          rotate_left
                          · simp only [Act.put, List.setIfInBounds_toArray, List.set_cons_zero, List.set_cons_succ, i64_w, i32_w]
                            rfl
                          refine pure_ (i := 15) (N := some 54) (v := ?_) (a' := ?_) #[true, true, true, true, true, true, true, true, true, true, true, true, true, true, true, true, false, false, false, false, false, false, false, false, false, false, false, false, false, false, false, false, false, false, false, false, false, false, false, false, false, false, false, false, false, false, false, false, false, false, false, false, false, false, false, false, false] rfl rfl (any_of HT_.out (by kernel_rfl)) (fun _ _ _ h => h) (Or.inl ⟨by rfl, ?_⟩) ?_ ?_
                          rotate_left
                          · intro w'
                            go_simp
                            with_reducible rfl
                          rotate_left
                          · simp only [Act.put, List.setIfInBounds_toArray, List.set_cons_zero, List.set_cons_succ, i64_w, i32_w]
                            rfl
                          refine pure_ (i := 16) (N := some 55) (v := ?_) (a' := ?_) #[true, true, true, true, true, true, true, true, true, true, true, true, true, true, true, true, true, false, false, false, false, false, false, false, false, false, false, false, false, false, false, false, false, false, false, false, false, false, false, false, false, false, false, false, false, false, false, false, false, false, false, false, false, false, false, false, false] rfl rfl (any_of HT_.out (by kernel_rfl)) (fun _ _ _ h => h) (Or.inl ⟨by rfl, ?_⟩) ?_ ?_
                          rotate_left
                          · intro w'
                            go_simp
                            with_reducible rfl
                          rotate_left
                          · simp only [Act.put, List.setIfInBounds_toArray, List.set_cons_zero, List.set_cons_succ, i64_w, i32_w]
                            rfl
                          refine pure_ (i := 17) (N := some 56) (v := ?_) (a' := ?_) #[true, true, true, true, true, true, true, true, true, true, true, true, true, true, true, true, true, true, false, false, false, false, false, false, false, false, false, false, false, false, false, false, false, false, false, false, false, false, false, false, false, false, false, false, false, false, false, false, false, false, false, false, false, false, false, false, false] rfl rfl (any_of HT_.out (by kernel_rfl)) (fun _ _ _ h => h) (Or.inl ⟨by rfl, ?_⟩) ?_ ?_
                          rotate_left
                          · intro w'
                            go_simp
                            with_reducible rfl
                          rotate_left
                          · simp only [Act.put, List.setIfInBounds_toArray, List.set_cons_zero, List.set_cons_succ, i64_w, i32_w]
                            rfl
                          refine pure_ (i := 18) (N := some 57) (v := ?_) (a' := ?_) #[true, true, true, true, true, true, true, true, true, true, true, true, true, true, true, true, true, true, true, false, false, false, false, false, false, false, false, false, false, false, false, false, false, false, false, false, false, false, false, false, false, false, false, false, false, false, false, false, false, false, false, false, false, false, false, false, false] rfl rfl (any_of HT_.out (by kernel_rfl)) (fun _ _ _ h => h) (Or.inl ⟨by rfl, ?_⟩) ?_ ?_
                          rotate_left
                          · intro w'
                            go_simp
                            with_reducible rfl
                          rotate_left
                          · simp only [Act.put, List.setIfInBounds_toArray, List.set_cons_zero, List.set_cons_succ, i64_w, i32_w]
                            rfl
                          refine pure_ (i := 19) (N := some 58) (v := ?_) (a' := ?_) #[true, true, true, true, true, true, true, true, true, true, true, true, true, true, true, true, true, true, true, true, false, false, false, false, false, false, false, false, false, false, false, false, false, false, false, false, false, false, false, false, false, false, false, false, false, false, false, false, false, false, false, false, false, false, false, false, false] rfl rfl (any_of HT_.out (by kernel_rfl)) (fun _ _ _ h => h) (Or.inl ⟨by rfl, ?_⟩) ?_ ?_
                          rotate_left
                          · intro w'
                            go_simp
                            with_reducible rfl
                          rotate_left
                          · simp only [Act.put, List.setIfInBounds_toArray, List.set_cons_zero, List.set_cons_succ, i64_w, i32_w]
                            rfl
                          refine pure_ (i := 20) (N := some 59) (v := ?_) (a' := ?_) #[true, true, true, true, true, true, true, true, true, true, true, true, true, true, true, true, true, true, true, true, true, false, false, false, false, false, false, false, false, false, false, false, false, false, false, false, false, false, false, false, false, false, false, false, false, false, false, false, false, false, false, false, false, false, false, false, false] rfl rfl (any_of HT_.out (by kernel_rfl)) (fun _ _ _ h => h) (Or.inl ⟨by rfl, ?_⟩) ?_ ?_
                          rotate_left
                          · intro w'
                            go_simp
                            with_reducible rfl
                          rotate_left
                          · simp only [Act.put, List.setIfInBounds_toArray, List.set_cons_zero, List.set_cons_succ, i64_w, i32_w]
                            rfl
                          refine pure_ (i := 22) (N := some 61) (v := ?_) (a' := ?_) #[true, true, true, true, true, true, true, true, true, true, true, true, true, true, true, true, true, true, true, true, true, false, true, false, false, false, false, false, false, false, false, false, false, false, false, false, false, false, false, false, false, false, false, false, false, false, false, false, false, false, false, false, false, false, false, false, false] rfl rfl (any_of HT_.out (by kernel_rfl)) (fun _ _ _ h => h) (Or.inl ⟨by rfl, ?_⟩) ?_ ?_
                          rotate_left
                          · intro w'
                            go_simp
                            with_reducible rfl
                          rotate_left
                          · simp only [Act.put, List.setIfInBounds_toArray, List.set_cons_zero, List.set_cons_succ, i64_w, i32_w]
                            rfl
                          refine take_ (i := 21) (N := some 60) (v := ?_) (a' := ?_) #[true, true, true, true, true, true, true, true, true, true, true, true, true, true, true, true, true, true, true, true, true, true, true, false, false, false, false, false, false, false, false, false, false, false, false, false, false, false, false, false, false, false, false, false, false, false, false, false, false, false, false, false, false, false, false, false, false] rfl rfl (take_ofW HT_.out HW_.out (by kernel_rfl)) (fun _ _ _ h => h) (Or.inl ⟨by rfl, ?_⟩) hHeld ?_ ?_
                          rotate_left
                          · rintro w' ⟨s0, s1, s2, s3, s4, s5⟩
                            go_simp
                            with_reducible rfl
                          rotate_left
                          · simp only [Act.put, List.setIfInBounds_toArray, List.set_cons_zero, List.set_cons_succ, i64_w, i32_w]
                            rfl
                          refine pure_ (i := 23) (N := some 62) (v := ?_) (a' := ?_) #[true, true, true, true, true, true, true, true, true, true, true, true, true, true, true, true, true, true, true, true, true, true, true, true, false, false, false, false, false, false, false, false, false, false, false, false, false, false, false, false, false, false, false, false, false, false, false, false, false, false, false, false, false, false, false, false, false] rfl rfl (any_of HT_.out (by kernel_rfl)) (fun _ _ _ h => h) (Or.inl ⟨by rfl, ?_⟩) ?_ ?_
                          rotate_left
                          · intro w'
                            go_simp
                            with_reducible rfl
                          rotate_left
                          · simp only [Act.put, List.setIfInBounds_toArray, List.set_cons_zero, List.set_cons_succ, i64_w, i32_w]
                            rfl
                          refine pure_ (i := 24) (N := some 63) (v := ?_) (a' := ?_) #[true, true, true, true, true, true, true, true, true, true, true, true, true, true, true, true, true, true, true, true, true, true, true, true, true, false, false, false, false, false, false, false, false, false, false, false, false, false, false, false, false, false, false, false, false, false, false, false, false, false, false, false, false, false, false, false, false] rfl rfl (any_of HT_.out (by kernel_rfl)) (fun _ _ _ h => h) (Or.inl ⟨by rfl, ?_⟩) ?_ ?_
                          rotate_left
                          · intro w'
                            go_simp
                            with_reducible rfl
                          rotate_left
                          · simp only [Act.put, List.setIfInBounds_toArray, List.set_cons_zero, List.set_cons_succ, i64_w, i32_w]
                            rfl
                          refine pure_ (i := 25) (N := some 64) (v := ?_) (a' := ?_) #[true, true, true, true, true, true, true, true, true, true, true, true, true, true, true, true, true, true, true, true, true, true, true, true, true, true, false, false, false, false, false, false, false, false, false, false, false, false, false, false, false, false, false, false, false, false, false, false, false, false, false, false, false, false, false, false, false] rfl rfl (any_of HT_.out (by kernel_rfl)) (fun _ _ _ h => h) (Or.inl ⟨by rfl, ?_⟩) ?_ ?_
                          rotate_left
                          · intro w'
                            go_simp
                            with_reducible rfl
                          rotate_left
                          · simp only [Act.put, List.setIfInBounds_toArray, List.set_cons_zero, List.set_cons_succ, i64_w, i32_w]
                            rfl
                          refine pure_ (i := 27) (N := some 66) (v := ?_) (a' := ?_) #[true, true, true, true, true, true, true, true, true, true, true, true, true, true, true, true, true, true, true, true, true, true, true, true, true, true, false, true, false, false, false, false, false, false, false, false, false, false, false, false, false, false, false, false, false, false, false, false, false, false, false, false, false, false, false, false, false] rfl rfl (any_of HT_.out (by kernel_rfl)) (fun _ _ _ h => h) (Or.inl ⟨by rfl, ?_⟩) ?_ ?_
                          rotate_left
                          · intro w'
                            go_simp
                            with_reducible rfl
                          rotate_left
                          · simp only [Act.put, List.setIfInBounds_toArray, List.set_cons_zero, List.set_cons_succ, i64_w, i32_w]
                            rfl
                          refine take_ (i := 26) (N := some 65) (v := ?_) (a' := ?_) #[true, true, true, true, true, true, true, true, true, true, true, true, true, true, true, true, true, true, true, true, true, true, true, true, true, true, true, true, false, false, false, false, false, false, false, false, false, false, false, false, false, false, false, false, false, false, false, false, false, false, false, false, false, false, false, false, false] rfl rfl (take_ofW HT_.out HW_.out (by kernel_rfl)) (fun _ _ _ h => h) (Or.inl ⟨by rfl, ?_⟩) hHeld ?_ ?_
                          rotate_left
                          · rintro w' ⟨s0, s1, s2, s3, s4, s5⟩
                            go_simp
                            with_reducible rfl
                          rotate_left
                          · simp only [Act.put, List.setIfInBounds_toArray, List.set_cons_zero, List.set_cons_succ, i64_w, i32_w]
                            rfl
                          refine pure_ (i := 28) (N := some 67) (v := ?_) (a' := ?_) #[true, true, true, true, true, true, true, true, true, true, true, true, true, true, true, true, true, true, true, true, true, true, true, true, true, true, true, true, true, false, false, false, false, false, false, false, false, false, false, false, false, false, false, false, false, false, false, false, false, false, false, false, false, false, false, false, false] rfl rfl (any_of HT_.out (by kernel_rfl)) (fun _ _ _ h => h) (Or.inl ⟨by rfl, ?_⟩) ?_ ?_
                          rotate_left
                          · intro w'
                            go_simp
                            with_reducible rfl
                          rotate_left
                          · simp only [Act.put, List.setIfInBounds_toArray, List.set_cons_zero, List.set_cons_succ, i64_w, i32_w]
                            rfl
                          refine pure_ (i := 29) (N := some 68) (v := ?_) (a' := ?_) #[true, true, true, true, true, true, true, true, true, true, true, true, true, true, true, true, true, true, true, true, true, true, true, true, true, true, true, true, true, true, false, false, false, false, false, false, false, false, false, false, false, false, false, false, false, false, false, false, false, false, false, false, false, false, false, false, false] rfl rfl (any_of HT_.out (by kernel_rfl)) (fun _ _ _ h => h) (Or.inl ⟨by rfl, ?_⟩) ?_ ?_
                          rotate_left
                          · intro w'
                            go_simp
                            with_reducible rfl
                          rotate_left
                          · simp only [Act.put, List.setIfInBounds_toArray, List.set_cons_zero, List.set_cons_succ, i64_w, i32_w]
                            rfl
                          refine pure_ (i := 30) (N := some 69) (v := ?_) (a' := ?_) #[true, true, true, true, true, true, true, true, true, true, true, true, true, true, true, true, true, true, true, true, true, true, true, true, true, true, true, true, true, true, true, false, false, false, false, false, false, false, false, false, false, false, false, false, false, false, false, false, false, false, false, false, false, false, false, false, false] rfl rfl (any_of HT_.out (by kernel_rfl)) (fun _ _ _ h => h) (Or.inl ⟨by rfl, ?_⟩) ?_ ?_
                          rotate_left
                          · intro w'
                            go_simp
                            with_reducible rfl
                          rotate_left
                          · simp only [Act.put, List.setIfInBounds_toArray, List.set_cons_zero, List.set_cons_succ, i64_w, i32_w]
                            rfl
                          refine pure_ (i := 31) (N := some 70) (v := ?_) (a' := ?_) #[true, true, true, true, true, true, true, true, true, true, true, true, true, true, true, true, true, true, true, true, true, true, true, true, true, true, true, true, true, true, true, true, false, false, false, false, false, false, false, false, false, false, false, false, false, false, false, false, false, false, false, false, false, false, false, false, false] rfl rfl (any_of HT_.out (by kernel_rfl)) (fun _ _ _ h => h) (Or.inl ⟨by rfl, ?_⟩) ?_ ?_
                          rotate_left
                          · intro w'
                            go_simp
                            with_reducible rfl
                          rotate_left
                          · simp only [Act.put, List.setIfInBounds_toArray, List.set_cons_zero, List.set_cons_succ, i64_w, i32_w]
                            rfl
                          refine pure_ (i := 32) (N := some 71) (v := ?_) (a' := ?_) #[true, true, true, true, true, true, true, true, true, true, true, true, true, true, true, true, true, true, true, true, true, true, true, true, true, true, true, true, true, true, true, true, true, false, false, false, false, false, false, false, false, false, false, false, false, false, false, false, false, false, false, false, false, false, false, false, false] rfl rfl (any_of HT_.out (by kernel_rfl)) (fun _ _ _ h => h) (Or.inl ⟨by rfl, ?_⟩) ?_ ?_
                          rotate_left
                          · intro w'
                            go_simp
                            with_reducible rfl
                          rotate_left
                          · simp only [Act.put, List.setIfInBounds_toArray, List.set_cons_zero, List.set_cons_succ, i64_w, i32_w]
                            rfl
                          refine pure_ (i := 33) (N := some 72) (v := ?_) (a' := ?_) #[true, true, true, true, true, true, true, true, true, true, true, true, true, true, true, true, true, true, true, true, true, true, true, true, true, true, true, true, true, true, true, true, true, true, false, false, false, false, false, false, false, false, false, false, false, false, false, false, false, false, false, false, false, false, false, false, false] rfl rfl (any_of HT_.out (by kernel_rfl)) (fun _ _ _ h => h) (Or.inl ⟨by rfl, ?_⟩) ?_ ?_
                          rotate_left
                          · intro w'
                            go_simp
                            with_reducible rfl
                          rotate_left
                          · simp only [Act.put, List.setIfInBounds_toArray, List.set_cons_zero, List.set_cons_succ, i64_w, i32_w]
                            rfl
                          refine pure_ (i := 34) (N := some 73) (v := ?_) (a' := ?_) #[true, true, true, true, true, true, true, true, true, true, true, true, true, true, true, true, true, true, true, true, true, true, true, true, true, true, true, true, true, true, true, true, true, true, true, false, false, false, false, false, false, false, false, false, false, false, false, false, false, false, false, false, false, false, false, false, false] rfl rfl (any_of HT_.out (by kernel_rfl)) (fun _ _ _ h => h) (Or.inl ⟨by rfl, ?_⟩) ?_ ?_
                          rotate_left
                          · intro w'
                            go_simp
                            with_reducible rfl
                          rotate_left
                          · simp only [Act.put, List.setIfInBounds_toArray, List.set_cons_zero, List.set_cons_succ, i64_w, i32_w]
                            rfl
                          refine pure_ (i := 35) (N := some 74) (v := ?_) (a' := ?_) #[true, true, true, true, true, true, true, true, true, true, true, true, true, true, true, true, true, true, true, true, true, true, true, true, true, true, true, true, true, true, true, true, true, true, true, true, false, false, false, false, false, false, false, false, false, false, false, false, false, false, false, false, false, false, false, false, false] rfl rfl (any_of HT_.out (by kernel_rfl)) (fun _ _ _ h => h) (Or.inl ⟨by rfl, ?_⟩) ?_ ?_
                          rotate_left
                          · intro w'
                            go_simp
                            with_reducible rfl
                          rotate_left
                          · simp only [Act.put, List.setIfInBounds_toArray, List.set_cons_zero, List.set_cons_succ, i64_w, i32_w]
                            rfl
                          refine pure_ (i := 36) (N := some 75) (v := ?_) (a' := ?_) #[true, true, true, true, true, true, true, true, true, true, true, true, true, true, true, true, true, true, true, true, true, true, true, true, true, true, true, true, true, true, true, true, true, true, true, true, true, false, false, false, false, false, false, false, false, false, false, false, false, false, false, false, false, false, false, false, false] rfl rfl (any_of HT_.out (by kernel_rfl)) (fun _ _ _ h => h) (Or.inl ⟨by rfl, ?_⟩) ?_ ?_
                          rotate_left
                          · intro w'
                            go_simp
                            with_reducible rfl
                          rotate_left
                          · simp only [Act.put, List.setIfInBounds_toArray, List.set_cons_zero, List.set_cons_succ, i64_w, i32_w]
                            rfl
                          refine pure_ (i := 37) (N := some 76) (v := ?_) (a' := ?_) #[true, true, true, true, true, true, true, true, true, true, true, true, true, true, true, true, true, true, true, true, true, true, true, true, true, true, true, true, true, true, true, true, true, true, true, true, true, true, false, false, false, false, false, false, false, false, false, false, false, false, false, false, false, false, false, false, false] rfl rfl (any_of HT_.out (by kernel_rfl)) (fun _ _ _ h => h) (Or.inl ⟨by rfl, ?_⟩) ?_ ?_
                          rotate_left
                          · intro w'
                            go_simp
                            with_reducible rfl
                          rotate_left
                          · simp only [Act.put, List.setIfInBounds_toArray, List.set_cons_zero, List.set_cons_succ, i64_w, i32_w]
                            rfl
                          refine pure_ (i := 38) (N := some 77) (v := ?_) (a' := ?_) #[true, true, true, true, true, true, true, true, true, true, true, true, true, true, true, true, true, true, true, true, true, true, true, true, true, true, true, true, true, true, true, true, true, true, true, true, true, true, true, false, false, false, false, false, false, false, false, false, false, false, false, false, false, false, false, false, false] rfl rfl (any_of HT_.out (by kernel_rfl)) (fun _ _ _ h => h) (Or.inl ⟨by rfl, ?_⟩) ?_ ?_
                          rotate_left
                          · intro w'
                            go_simp
                            with_reducible rfl
                          rotate_left
                          · simp only [Act.put, List.setIfInBounds_toArray, List.set_cons_zero, List.set_cons_succ, i64_w, i32_w]
                            rfl
                          refine pure_ (i := 39) (N := some 78) (v := ?_) (a' := ?_) #[true, true, true, true, true, true, true, true, true, true, true, true, true, true, true, true, true, true, true, true, true, true, true, true, true, true, true, true, true, true, true, true, true, true, true, true, true, true, true, true, false, false, false, false, false, false, false, false, false, false, false, false, false, false, false, false, false] rfl rfl (any_of HT_.out (by kernel_rfl)) (fun _ _ _ h => h) (Or.inl ⟨by rfl, ?_⟩) ?_ ?_
                          rotate_left
                          · intro w'
                            go_simp
                            with_reducible rfl
                          rotate_left
                          · simp only [Act.put, List.setIfInBounds_toArray, List.set_cons_zero, List.set_cons_succ, i64_w, i32_w]
                            rfl
                          refine pure_ (i := 40) (N := some 79) (v := ?_) (a' := ?_) #[true, true, true, true, true, true, true, true, true, true, true, true, true, true, true, true, true, true, true, true, true, true, true, true, true, true, true, true, true, true, true, true, true, true, true, true, true, true, true, true, true, false, false, false, false, false, false, false, false, false, false, false, false, false, false, false, false] rfl rfl (any_of HT_.out (by kernel_rfl)) (fun _ _ _ h => h) (Or.inl ⟨by rfl, ?_⟩) ?_ ?_
                          rotate_left
                          · intro w'
                            go_simp
                            with_reducible rfl
                          rotate_left
                          · simp only [Act.put, List.setIfInBounds_toArray, List.set_cons_zero, List.set_cons_succ, i64_w, i32_w]
                            rfl
                          refine pure_ (i := 41) (N := some 80) (v := ?_) (a' := ?_) #[true, true, true, true, true, true, true, true, true, true, true, true, true, true, true, true, true, true, true, true, true, true, true, true, true, true, true, true, true, true, true, true, true, true, true, true, true, true, true, true, true, true, false, false, false, false, false, false, false, false, false, false, false, false, false, false, false] rfl rfl (any_of HT_.out (by kernel_rfl)) (fun _ _ _ h => h) (Or.inl ⟨by rfl, ?_⟩) ?_ ?_
                          rotate_left
                          · intro w'
                            go_simp
                            with_reducible rfl
                          rotate_left
                          · simp only [Act.put, List.setIfInBounds_toArray, List.set_cons_zero, List.set_cons_succ, i64_w, i32_w]
                            rfl
                          refine pure_ (i := 42) (N := some 81) (v := ?_) (a' := ?_) #[true, true, true, true, true, true, true, true, true, true, true, true, true, true, true, true, true, true, true, true, true, true, true, true, true, true, true, true, true, true, true, true, true, true, true, true, true, true, true, true, true, true, true, false, false, false, false, false, false, false, false, false, false, false, false, false, false] rfl rfl (any_of HT_.out (by kernel_rfl)) (fun _ _ _ h => h) (Or.inl ⟨by rfl, ?_⟩) ?_ ?_
                          rotate_left
                          · intro w'
                            go_simp
                            with_reducible rfl
                          rotate_left
                          · simp only [Act.put, List.setIfInBounds_toArray, List.set_cons_zero, List.set_cons_succ, i64_w, i32_w]
                            rfl
                          refine pure_ (i := 43) (N := some 82) (v := ?_) (a' := ?_) #[true, true, true, true, true, true, true, true, true, true, true, true, true, true, true, true, true, true, true, true, true, true, true, true, true, true, true, true, true, true, true, true, true, true, true, true, true, true, true, true, true, true, true, true, false, false, false, false, false, false, false, false, false, false, false, false, false] rfl rfl (any_of HT_.out (by kernel_rfl)) (fun _ _ _ h => h) (Or.inl ⟨by rfl, ?_⟩) ?_ ?_
                          rotate_left
                          · intro w'
                            go_simp
                            with_reducible rfl
                          rotate_left
                          · simp only [Act.put, List.setIfInBounds_toArray, List.set_cons_zero, List.set_cons_succ, i64_w, i32_w]
                            rfl
                          refine pure_ (i := 44) (N := some 83) (v := ?_) (a' := ?_) #[true, true, true, true, true, true, true, true, true, true, true, true, true, true, true, true, true, true, true, true, true, true, true, true, true, true, true, true, true, true, true, true, true, true, true, true, true, true, true, true, true, true, true, true, true, false, false, false, false, false, false, false, false, false, false, false, false] rfl rfl (any_of HT_.out (by kernel_rfl)) (fun _ _ _ h => h) (Or.inl ⟨by rfl, ?_⟩) ?_ ?_
                          rotate_left
                          · intro w'
                            go_simp
                            with_reducible rfl
                          rotate_left
                          · simp only [Act.put, List.setIfInBounds_toArray, List.set_cons_zero, List.set_cons_succ, i64_w, i32_w]
                            rfl
                          refine pure_ (i := 45) (N := some 84) (v := ?_) (a' := ?_) #[true, true, true, true, true, true, true, true, true, true, true, true, true, true, true, true, true, true, true, true, true, true, true, true, true, true, true, true, true, true, true, true, true, true, true, true, true, true, true, true, true, true, true, true, true, true, false, false, false, false, false, false, false, false, false, false, false] rfl rfl (any_of HT_.out (by kernel_rfl)) (fun _ _ _ h => h) (Or.inl ⟨by rfl, ?_⟩) ?_ ?_
                          rotate_left
                          · intro w'
                            go_simp
                            with_reducible rfl
                          rotate_left
                          · simp only [Act.put, List.setIfInBounds_toArray, List.set_cons_zero, List.set_cons_succ, i64_w, i32_w]
                            rfl
                          refine take_ (i := 46) (N := some 85) (v := ?_) (a' := ?_) #[true, true, true, true, true, true, true, true, true, true, true, true, true, true, true, true, true, true, true, true, true, true, true, true, true, true, true, true, true, true, true, true, true, true, true, true, true, true, true, true, true, true, true, true, true, true, true, false, false, false, false, false, false, false, false, false, false] rfl rfl (take_ofW HT_.out HW_.out (by kernel_rfl)) (fun _ _ _ h => h) (Or.inl ⟨by rfl, ?_⟩) hHeld ?_ ?_
                          rotate_left
                          · rintro w' ⟨s0, s1, s2, s3, s4, s5⟩
                            go_simp
                            with_reducible rfl
                          rotate_left
                          · simp only [Act.put, List.setIfInBounds_toArray, List.set_cons_zero, List.set_cons_succ, i64_w, i32_w]
                            rfl
                          refine one_ (i := 47) (N := some 86) #[true, true, true, true, true, true, true, true, true, true, true, true, true, true, true, true, true, true, true, true, true, true, true, true, true, true, true, true, true, true, true, true, true, true, true, true, true, true, true, true, true, true, true, true, true, true, true, true, false, false, false, false, false, false, false, false, false] rfl rfl (one_of HT_.out (by kernel_rfl)) (by decide) (fun K hK => ?_)
                          refine goes_ Try.func15 (by kernel_rfl) rfl #[.agg #[.int .i64 t240, .int .u64 t241]] (by rfl) rfl rfl aG ?_
                          with_reducible refine (wide_Text.calls k t240 t241 t259 _ A23.out).mono ?_
                          rintro e w58 ⟨rfl, hb⟩
                          refine ⟨_, rfl, ?_⟩
                          have n0_ := Aside0.mk (bK BK233 hb)
                          have n1_ := Aside0.mk (bK BK239 hb)
                          have n2_ := Aside0.mk (bK BK242 hb)
                          have n3_ := Aside0.mk (bK BK246 hb)
                          have n4_ := Aside0.mk (bK BK250 hb)
                          have n5_ := Aside0.mk (bS hb)
                          clear BK233
                          clear BK239
                          clear BK242
                          clear BK246
                          clear BK250
                          clear HB
                          have BK233 := n0_
                          have BK239 := n1_
                          have BK242 := n2_
                          have BK246 := n3_
                          have BK250 := n4_
                          have HB := n5_
                          clear n0_ n1_ n2_ n3_ n4_ n5_
                          (try clear hb)
                          (try clear hb2)
                          (try clear hk)
                          (try clear hi)
                          refine hK.out _ _ ⟨(blk_cell BK233.out 0).trans rfl, (blk_cell BK233.out 1).trans rfl, (blk_cell BK242.out 0).trans rfl, (blk_cell BK242.out 1).trans rfl, (blk_cell BK246.out 0).trans rfl, (blk_cell BK246.out 1).trans rfl⟩ (fun hHeld => ?_)
                          clear hK K
                          refine norm_ (a' := ?_) ?_ ?_
                          rotate_left
                          · show Act.put _ (some 86) _ = _
                            simp only [Act.put, List.setIfInBounds_toArray, List.set_cons_zero, List.set_cons_succ, i64_w, i32_w]
                            rfl
                          refine pure_ (i := 48) (N := some 87) (v := ?_) (a' := ?_) #[true, true, true, true, true, true, true, true, true, true, true, true, true, true, true, true, true, true, true, true, true, true, true, true, true, true, true, true, true, true, true, true, true, true, true, true, true, true, true, true, true, true, true, true, true, true, true, true, true, false, false, false, false, false, false, false, false] rfl rfl (any_of HT_.out (by kernel_rfl)) (fun _ _ _ h => h) (Or.inl ⟨by rfl, ?_⟩) ?_ ?_
                          rotate_left
                          · intro w'
                            go_simp
                            with_reducible rfl
                          rotate_left
                          · simp only [Act.put, List.setIfInBounds_toArray, List.set_cons_zero, List.set_cons_succ, i64_w, i32_w]
                            rfl
                          refine pure_ (i := 49) (N := some 88) (v := ?_) (a' := ?_) #[true, true, true, true, true, true, true, true, true, true, true, true, true, true, true, true, true, true, true, true, true, true, true, true, true, true, true, true, true, true, true, true, true, true, true, true, true, true, true, true, true, true, true, true, true, true, true, true, true, true, false, false, false, false, false, false, false] rfl rfl (any_of HT_.out (by kernel_rfl)) (fun _ _ _ h => h) (Or.inl ⟨by rfl, ?_⟩) ?_ ?_
                          rotate_left
                          · intro w'
                            go_simp
                            with_reducible rfl
                          rotate_left
                          · simp only [Act.put, List.setIfInBounds_toArray, List.set_cons_zero, List.set_cons_succ, i64_w, i32_w]
                            rfl
                          refine pure_ (i := 50) (N := some 89) (v := ?_) (a' := ?_) #[true, true, true, true, true, true, true, true, true, true, true, true, true, true, true, true, true, true, true, true, true, true, true, true, true, true, true, true, true, true, true, true, true, true, true, true, true, true, true, true, true, true, true, true, true, true, true, true, true, true, true, false, false, false, false, false, false] rfl rfl (any_of HT_.out (by kernel_rfl)) (fun _ _ _ h => h) (Or.inl ⟨by rfl, ?_⟩) ?_ ?_
                          rotate_left
                          · intro w'
                            go_simp
                            with_reducible rfl
                          rotate_left
                          · simp only [Act.put, List.setIfInBounds_toArray, List.set_cons_zero, List.set_cons_succ, i64_w, i32_w]
                            rfl
                          refine take_ (i := 51) (N := some 90) (v := ?_) (a' := ?_) #[true, true, true, true, true, true, true, true, true, true, true, true, true, true, true, true, true, true, true, true, true, true, true, true, true, true, true, true, true, true, true, true, true, true, true, true, true, true, true, true, true, true, true, true, true, true, true, true, true, true, true, true, false, false, false, false, false] rfl rfl (take_ofW HT_.out HW_.out (by kernel_rfl)) (fun _ _ _ h => h) (Or.inl ⟨by rfl, ?_⟩) hHeld ?_ ?_
                          rotate_left
                          · rintro w' ⟨s0, s1, s2, s3, s4, s5⟩
                            go_simp
                            with_reducible rfl
                          rotate_left
                          · simp only [Act.put, List.setIfInBounds_toArray, List.set_cons_zero, List.set_cons_succ, i64_w, i32_w]
                            rfl
                          refine take_ (i := 52) (N := some 91) (v := ?_) (a' := ?_) #[true, true, true, true, true, true, true, true, true, true, true, true, true, true, true, true, true, true, true, true, true, true, true, true, true, true, true, true, true, true, true, true, true, true, true, true, true, true, true, true, true, true, true, true, true, true, true, true, true, true, true, true, true, false, false, false, false] rfl rfl (take_ofW HT_.out HW_.out (by kernel_rfl)) (fun _ _ _ h => h) (Or.inl ⟨by rfl, ?_⟩) hHeld ?_ ?_
                          rotate_left
                          · rintro w' ⟨s0, s1, s2, s3, s4, s5⟩
                            go_simp
                            with_reducible rfl
                          rotate_left
                          · simp only [Act.put, List.setIfInBounds_toArray, List.set_cons_zero, List.set_cons_succ, i64_w, i32_w]
                            rfl
                          refine one_ (i := 53) (N := some 92) #[true, true, true, true, true, true, true, true, true, true, true, true, true, true, true, true, true, true, true, true, true, true, true, true, true, true, true, true, true, true, true, true, true, true, true, true, true, true, true, true, true, true, true, true, true, true, true, true, true, true, true, true, true, true, false, false, false] rfl rfl (one_of HT_.out (by kernel_rfl)) (by decide) (fun K hK => ?_)
                          refine goes_ Try.func29 (by kernel_rfl) rfl #[.agg #[.int .i64 t229, .int .u64 t230], .agg #[.int .i64 t240, .int .u64 t241]] (by rfl) rfl rfl aG ?_
                          with_reducible refine (wide_Cmp.calls t229 t230 t240 t241 t260 _ A25.out).mono ?_
                          rintro e w59 ⟨rfl, hb⟩
                          refine ⟨_, rfl, ?_⟩
                          have n0_ := Aside0.mk (bK BK233 hb)
                          have n1_ := Aside0.mk (bK BK239 hb)
                          have n2_ := Aside0.mk (bK BK242 hb)
                          have n3_ := Aside0.mk (bK BK246 hb)
                          have n4_ := Aside0.mk (bK BK250 hb)
                          have n5_ := Aside0.mk (bS hb)
                          clear BK233
                          clear BK239
                          clear BK242
                          clear BK246
                          clear BK250
                          clear HB
                          have BK233 := n0_
                          have BK239 := n1_
                          have BK242 := n2_
                          have BK246 := n3_
                          have BK250 := n4_
                          have HB := n5_
                          clear n0_ n1_ n2_ n3_ n4_ n5_
                          (try clear hb)
                          (try clear hb2)
                          (try clear hk)
                          (try clear hi)
                          refine hK.out _ _ ⟨(blk_cell BK233.out 0).trans rfl, (blk_cell BK233.out 1).trans rfl, (blk_cell BK242.out 0).trans rfl, (blk_cell BK242.out 1).trans rfl, (blk_cell BK246.out 0).trans rfl, (blk_cell BK246.out 1).trans rfl⟩ (fun hHeld => ?_)
                          clear hK K
                          refine norm_ (a' := ?_) ?_ ?_
                          rotate_left
                          · show Act.put _ (some 92) _ = _
                            simp only [Act.put, List.setIfInBounds_toArray, List.set_cons_zero, List.set_cons_succ, i64_w, i32_w]
                            rfl
                          refine pure_ (i := 54) (N := some 93) (v := ?_) (a' := ?_) #[true, true, true, true, true, true, true, true, true, true, true, true, true, true, true, true, true, true, true, true, true, true, true, true, true, true, true, true, true, true, true, true, true, true, true, true, true, true, true, true, true, true, true, true, true, true, true, true, true, true, true, true, true, true, true, false, false] rfl rfl (any_of HT_.out (by kernel_rfl)) (fun _ _ _ h => h) (Or.inl ⟨by rfl, ?_⟩) ?_ ?_
                          rotate_left
                          · intro w'
                            go_simp
                            with_reducible rfl
                          rotate_left
                          · simp only [Act.put, List.setIfInBounds_toArray, List.set_cons_zero, List.set_cons_succ, i64_w, i32_w]
                            rfl
                          refine pure_ (i := 55) (N := some 94) (v := ?_) (a' := ?_) #[true, true, true, true, true, true, true, true, true, true, true, true, true, true, true, true, true, true, true, true, true, true, true, true, true, true, true, true, true, true, true, true, true, true, true, true, true, true, true, true, true, true, true, true, true, true, true, true, true, true, true, true, true, true, true, true, false] rfl rfl (any_of HT_.out (by kernel_rfl)) (fun _ _ _ h => h) (Or.inl ⟨by rfl, ?_⟩) ?_ ?_
                          rotate_left
                          · intro w'
                            go_simp
                            with_reducible rfl
                          rotate_left
                          · simp only [Act.put, List.setIfInBounds_toArray, List.set_cons_zero, List.set_cons_succ, i64_w, i32_w]
                            rfl
                          refine pure_ (i := 56) (N := some 0) (v := ?_) (a' := ?_) #[true, true, true, true, true, true, true, true, true, true, true, true, true, true, true, true, true, true, true, true, true, true, true, true, true, true, true, true, true, true, true, true, true, true, true, true, true, true, true, true, true, true, true, true, true, true, true, true, true, true, true, true, true, true, true, true, true] rfl rfl (any_of HT_.out (by kernel_rfl)) (fun _ _ _ h => h) (Or.inl ⟨by rfl, ?_⟩) ?_ ?_
                          rotate_left
                          · intro w'
                            go_simp
                            with_reducible rfl
                          rotate_left
                          · simp only [Act.put, List.setIfInBounds_toArray, List.set_cons_zero, List.set_cons_succ, i64_w, i32_w]
                            rfl
                          refine done_ (done_of HT_.out (by kernel_rfl)) ?_
                          try go_wp2
                          go_ret
                          exact ⟨by first | rfl | (simp [errW_none, errW_some] <;> rfl) | (simp [*, errW_none, errW_some] <;> rfl), bE⟩
                        · rw [if_neg c24] at H
                          exact absurd H (by simp)
                      · replace c22 := Bool.eq_false_iff.mpr c22
                        subst c22
                        have H1 : (none) = some r := by rw [if_neg (show ¬ (false = true) by decide)] at H; exact H
                        clear H
                        have H := H1
                        clear H1
                        exact absurd H (by simp)
                    · rw [if_neg c21] at H
                      exact absurd H (by simp)
                  · rw [if_neg c20] at H
                    exact absurd H (by simp)
                · rw [if_neg c19] at H
                  exact absurd H (by simp)
              · rw [if_neg c18] at H
                exact absurd H (by simp)
            · rw [if_neg c17] at H
              exact absurd H (by simp)
          · rw [if_neg c16] at H
            exact absurd H (by simp)
        · rw [if_neg c15] at H
          exact absurd H (by simp)
      · rw [if_neg c14] at H
        exact absurd H (by simp)
    · rw [if_neg c13] at H
      exact absurd H (by simp)
  · rw [if_neg c11] at H
    exact absurd H (by simp)

end Go.Proofs.Ytkhocaehhflpcaa.PA
