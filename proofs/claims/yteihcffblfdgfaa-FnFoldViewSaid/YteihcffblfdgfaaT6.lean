/- Part 6 of what the proof rests on: the executor and what it is worth, and the program's functions as it runs them. No condition. -/
import Derived.Test.YteihcffblfdgfaaT5
import Derived.Test.YteihcffblfdgfaaProg
import Derived.KernelRfl
set_option linter.unusedVariables false
set_option linter.unusedSimpArgs false
/- Written by a program: which slots each function keeps between its regions, and facts on the loaded program's types. No condition. -/
namespace Go.Proofs.Yteihcffblfdgfaa
open Go Go.Av
def GS : FuncId → List Nat
  | 3 => [0, 2, 3, 4, 5, 6, 7, 8, 9, 10, 11, 12, 15, 51]
  | 4 => [0, 2, 3, 4, 5, 6, 7, 8, 9, 10, 11, 12, 15, 65]
  | 5 => [0, 1, 2, 3, 4, 5, 8, 9, 10, 11, 12, 13, 14, 15, 16, 17, 18, 19, 20, 21, 24, 29, 34, 68, 73, 78, 83, 105, 113, 116, 136, 141, 144]
  | 6 => [0, 1, 2, 3, 4, 5, 8, 9, 10, 11, 12, 13, 14, 15, 16, 17, 18, 19, 20, 21, 24, 29, 34, 68, 73, 78, 83, 105, 113, 116, 136, 141, 144]
  | 7 => [0, 2, 3, 4, 5]
  | 8 => [0, 1, 2, 3, 4, 5, 7, 8, 9, 10, 11, 22]
  | 9 => [0, 1, 2, 3, 4, 5, 8, 9, 15]
  | 10 => [0, 1, 2, 3, 4, 5, 42, 47, 61]
  | 11 => [0, 1, 2, 4, 5, 9]
  | 12 => [0, 1, 4, 5, 9, 17]
  | 13 => [0, 1, 2, 4, 5, 6, 10, 12, 13, 14, 17]
  | 14 => [0, 1, 2, 3, 4, 5, 7, 8, 9, 10, 25, 31, 38]
  | 15 => [0, 1, 2, 4, 10, 16, 22]
  | 16 => [0, 1, 2, 3]
  | 17 => [0, 2, 3, 4, 11]
  | 18 => [0, 1, 2, 3, 4, 9, 14, 20, 26, 32]
  | 19 => [0, 1, 4, 5, 10, 14, 25]
  | 20 => [0, 1, 2, 4]
  | 21 => [0, 1, 4, 5, 9]
  | 22 => [0, 1, 2, 4, 10, 16, 22]
  | 23 => [0, 1, 2, 3, 4, 5, 8, 9, 10, 11, 12, 18, 26, 34, 43]
  | 24 => [0, 2, 3, 4, 5, 6, 7, 8, 9, 10, 43, 56]
  | 25 => [0, 2, 5]
  | 26 => [0, 1, 2, 4, 7]
  | 27 => [0, 1, 2, 3, 6, 7]
  | 28 => [0, 1, 4, 5, 6, 7, 8, 9, 16, 39, 40, 41, 57, 58, 59]
  | 29 => [0, 1, 2, 3, 5, 6, 9]
  | 30 => [0, 1, 4, 5, 6, 38, 62, 67, 68, 69, 84, 90, 91, 92, 107]
  | 31 => [0, 1, 2, 3, 4, 5, 8]
  | 32 => [0, 1, 2, 3, 4, 6, 7, 8, 9, 10, 11, 12, 15, 24]
  | 33 => [0, 1, 4, 5, 10, 14, 26]
  | 34 => [0, 1, 4, 5, 10, 14, 25]
  | 35 => [0, 1, 4, 12, 13, 14]
  | 36 => [1]
  | 37 => [0, 1, 3, 4, 5]
  | 38 => [0, 1, 4, 5, 6, 19, 24, 25, 26]
  | 39 => [0, 2, 3, 4, 9, 10, 11]
  | 40 => [0, 1, 2, 4, 5, 18]
  | 41 => [0, 2, 3, 4, 5, 6, 7, 14, 38, 39, 40, 76, 77, 78]
  | 42 => [0, 1, 4, 5, 11, 15, 25]
  | 43 => [0, 1, 4, 10]
  | 44 => [0, 1, 4, 5, 11, 15, 25]
  | 45 => [0, 2, 3, 4, 11]
  | 46 => [0, 2, 3, 4, 11]
  | 47 => [0, 1, 4, 5, 10, 14, 26]
  | 48 => [0, 1, 4, 5, 10, 14, 26]
  | 49 => [0, 1, 4, 5, 9]
  | 50 => [0, 1, 4, 5, 9]
  | 51 => [0, 1, 4, 5, 9, 18, 27, 39, 49, 60]
  | 52 => [0, 1, 4, 5, 9, 17]
  | 53 => [0, 1, 4, 5, 9, 18, 27, 38, 47, 56]
  | 54 => [0, 1, 3, 4, 5, 8, 17]
  | 55 => [0, 1, 2, 3, 4, 6, 7, 8, 17, 26]
  | 56 => [0, 1, 2, 4, 7]
  | 57 => [0, 2, 3, 4, 10]
  | 58 => [0, 1, 4, 5, 6, 7, 8, 9, 10, 11, 12, 31, 44, 45, 54, 62, 77, 88, 110, 122, 128, 146, 151, 154]
  | 59 => [0, 1, 4, 5, 6, 24, 36]
  | 60 => [0, 1, 2, 3, 6, 7, 8, 9, 23, 28, 41, 47, 48, 55, 61, 70, 74, 82, 106, 114, 122, 126, 131, 144]
  | 61 => [0, 1, 4, 5, 6, 18]
  | 62 => [0, 1, 2, 3, 4]
  | 63 => [0, 1, 4]
  | 64 => [0, 1, 2, 3, 4, 5, 19, 37]
  | 65 => [0, 1, 4]
  | 66 => [0, 2, 4, 12, 13, 14, 15, 16, 21]
  | 67 => [0, 1, 2, 6, 7, 8, 9, 10, 31, 60, 87, 92, 106, 118, 119, 120, 137]
  | 68 => [0, 2, 3, 6]
  | 69 => [0, 2, 3, 6]
  | 70 => [0, 2, 3, 4, 5, 6, 13, 37, 38, 39]
  | 71 => [0, 1, 4, 5, 10, 12, 13, 14, 24]
  | 72 => [0, 1, 4, 5, 49, 54, 55, 56, 71]
  | 73 => [0, 1, 2, 6]
  | 74 => [0, 1, 2, 3, 4, 5, 6, 7, 46, 51, 65, 70, 83, 88, 102]
  | 75 => [0, 1, 2, 3, 4]
  | 76 => [0, 1, 2]
  | 77 => [0, 2, 3, 6]
  | 78 => [0, 1, 2, 4, 10]
  | 79 => [0, 1, 2, 3]
  | 80 => [0, 1, 2, 3, 4, 9, 14, 20, 26]
  | 81 => [0, 1, 4, 5, 6, 18, 32]
  | 82 => [0, 2, 3, 7, 15]
  | 83 => [0, 1, 2, 6, 7, 8, 9, 10, 18, 21, 37]
  | 84 => [0, 1, 2, 3, 4, 6, 7, 9, 12, 14, 16]
  | 85 => [0, 1, 2, 4]
  | 86 => [0, 1, 4, 5, 9, 18, 21]
  | 87 => [0, 1, 4, 5, 9, 35]
  | 88 => [0, 1, 2, 6, 7, 8, 9, 20, 32, 33, 34, 39, 46, 59, 66]
  | 89 => [0, 1, 2, 3, 4, 16]
  | 90 => [0, 2]
  | 91 => [0, 2, 3, 4, 5, 7, 10, 13, 15]
  | 92 => [0, 1, 2, 6, 7, 8, 13, 14, 21, 22, 26, 27, 35, 46, 47, 48, 59, 65]
  | 93 => [0, 1, 2, 3, 4, 5, 33, 38, 52]
  | 94 => [0, 1, 2, 3]
  | 95 => [0, 1, 2, 3, 4, 9, 14]
  | 96 => [0, 1, 2]
  | 97 => [0, 2, 5]
  | 98 => [0, 2, 3, 4, 7, 10]
  | 99 => [0, 1, 2, 3, 6, 7, 24, 29, 41, 43, 44, 57]
  | 100 => [0, 1, 4, 5, 7, 10, 11, 12, 13, 14, 24]
  | 101 => [0, 1, 2, 4]
  | 102 => [0, 1, 2]
  | 103 => [0, 1, 2, 6, 7, 8, 28, 62, 90, 95, 96, 97, 109]
  | 104 => [0, 2, 3, 4, 7, 10]
  | 105 => [0, 1, 2, 4]
  | 121 => []
  | _ => []
def ownA : FuncId → Bool
  | 24 => true
  | 28 => true
  | 29 => true
  | 35 => true
  | 36 => true
  | 40 => true
  | 54 => true
  | 57 => true
  | 58 => true
  | 59 => true
  | 61 => true
  | 63 => true
  | 65 => true
  | 70 => true
  | 76 => true
  | 81 => true
  | 83 => true
  | 88 => true
  | 97 => true
  | _ => false
def keepR : FuncId → Bool
  | 25 => true
  | 57 => true
  | 68 => true
  | 77 => true
  | 69 => true
  | 64 => true
  | 54 => true
  | 81 => true
  | _ => false
def eqTy : TypeId → Bool
  | 84 => true
  | 85 => true
  | 103 => true
  | _ => false
@[simp] theorem oA3 : ownA 3 = false := (rfl)
@[simp] theorem kR3 : keepR 3 = false := (rfl)
@[simp] theorem gS3 : GS 3 = [0, 2, 3, 4, 5, 6, 7, 8, 9, 10, 11, 12, 15, 51] := (rfl)
@[simp] theorem oA4 : ownA 4 = false := (rfl)
@[simp] theorem kR4 : keepR 4 = false := (rfl)
@[simp] theorem gS4 : GS 4 = [0, 2, 3, 4, 5, 6, 7, 8, 9, 10, 11, 12, 15, 65] := (rfl)
@[simp] theorem oA5 : ownA 5 = false := (rfl)
@[simp] theorem kR5 : keepR 5 = false := (rfl)
@[simp] theorem gS5 : GS 5 = [0, 1, 2, 3, 4, 5, 8, 9, 10, 11, 12, 13, 14, 15, 16, 17, 18, 19, 20, 21, 24, 29, 34, 68, 73, 78, 83, 105, 113, 116, 136, 141, 144] := (rfl)
@[simp] theorem oA6 : ownA 6 = false := (rfl)
@[simp] theorem kR6 : keepR 6 = false := (rfl)
@[simp] theorem gS6 : GS 6 = [0, 1, 2, 3, 4, 5, 8, 9, 10, 11, 12, 13, 14, 15, 16, 17, 18, 19, 20, 21, 24, 29, 34, 68, 73, 78, 83, 105, 113, 116, 136, 141, 144] := (rfl)
@[simp] theorem oA7 : ownA 7 = false := (rfl)
@[simp] theorem kR7 : keepR 7 = false := (rfl)
@[simp] theorem gS7 : GS 7 = [0, 2, 3, 4, 5] := (rfl)
@[simp] theorem oA8 : ownA 8 = false := (rfl)
@[simp] theorem kR8 : keepR 8 = false := (rfl)
@[simp] theorem gS8 : GS 8 = [0, 1, 2, 3, 4, 5, 7, 8, 9, 10, 11, 22] := (rfl)
@[simp] theorem oA9 : ownA 9 = false := (rfl)
@[simp] theorem kR9 : keepR 9 = false := (rfl)
@[simp] theorem gS9 : GS 9 = [0, 1, 2, 3, 4, 5, 8, 9, 15] := (rfl)
@[simp] theorem oA10 : ownA 10 = false := (rfl)
@[simp] theorem kR10 : keepR 10 = false := (rfl)
@[simp] theorem gS10 : GS 10 = [0, 1, 2, 3, 4, 5, 42, 47, 61] := (rfl)
@[simp] theorem oA11 : ownA 11 = false := (rfl)
@[simp] theorem kR11 : keepR 11 = false := (rfl)
@[simp] theorem gS11 : GS 11 = [0, 1, 2, 4, 5, 9] := (rfl)
@[simp] theorem oA12 : ownA 12 = false := (rfl)
@[simp] theorem kR12 : keepR 12 = false := (rfl)
@[simp] theorem gS12 : GS 12 = [0, 1, 4, 5, 9, 17] := (rfl)
@[simp] theorem oA13 : ownA 13 = false := (rfl)
@[simp] theorem kR13 : keepR 13 = false := (rfl)
@[simp] theorem gS13 : GS 13 = [0, 1, 2, 4, 5, 6, 10, 12, 13, 14, 17] := (rfl)
@[simp] theorem oA14 : ownA 14 = false := (rfl)
@[simp] theorem kR14 : keepR 14 = false := (rfl)
@[simp] theorem gS14 : GS 14 = [0, 1, 2, 3, 4, 5, 7, 8, 9, 10, 25, 31, 38] := (rfl)
@[simp] theorem oA15 : ownA 15 = false := (rfl)
@[simp] theorem kR15 : keepR 15 = false := (rfl)
@[simp] theorem gS15 : GS 15 = [0, 1, 2, 4, 10, 16, 22] := (rfl)
@[simp] theorem oA16 : ownA 16 = false := (rfl)
@[simp] theorem kR16 : keepR 16 = false := (rfl)
@[simp] theorem gS16 : GS 16 = [0, 1, 2, 3] := (rfl)
@[simp] theorem oA17 : ownA 17 = false := (rfl)
@[simp] theorem kR17 : keepR 17 = false := (rfl)
@[simp] theorem gS17 : GS 17 = [0, 2, 3, 4, 11] := (rfl)
@[simp] theorem oA18 : ownA 18 = false := (rfl)
@[simp] theorem kR18 : keepR 18 = false := (rfl)
@[simp] theorem gS18 : GS 18 = [0, 1, 2, 3, 4, 9, 14, 20, 26, 32] := (rfl)
@[simp] theorem oA19 : ownA 19 = false := (rfl)
@[simp] theorem kR19 : keepR 19 = false := (rfl)
@[simp] theorem gS19 : GS 19 = [0, 1, 4, 5, 10, 14, 25] := (rfl)
@[simp] theorem oA20 : ownA 20 = false := (rfl)
@[simp] theorem kR20 : keepR 20 = false := (rfl)
@[simp] theorem gS20 : GS 20 = [0, 1, 2, 4] := (rfl)
@[simp] theorem oA21 : ownA 21 = false := (rfl)
@[simp] theorem kR21 : keepR 21 = false := (rfl)
@[simp] theorem gS21 : GS 21 = [0, 1, 4, 5, 9] := (rfl)
@[simp] theorem oA22 : ownA 22 = false := (rfl)
@[simp] theorem kR22 : keepR 22 = false := (rfl)
@[simp] theorem gS22 : GS 22 = [0, 1, 2, 4, 10, 16, 22] := (rfl)
@[simp] theorem oA23 : ownA 23 = false := (rfl)
@[simp] theorem kR23 : keepR 23 = false := (rfl)
@[simp] theorem gS23 : GS 23 = [0, 1, 2, 3, 4, 5, 8, 9, 10, 11, 12, 18, 26, 34, 43] := (rfl)
@[simp] theorem oA24 : ownA 24 = true := (rfl)
@[simp] theorem kR24 : keepR 24 = false := (rfl)
@[simp] theorem gS24 : GS 24 = [0, 2, 3, 4, 5, 6, 7, 8, 9, 10, 43, 56] := (rfl)
@[simp] theorem oA25 : ownA 25 = false := (rfl)
@[simp] theorem kR25 : keepR 25 = true := (rfl)
@[simp] theorem gS25 : GS 25 = [0, 2, 5] := (rfl)
@[simp] theorem oA26 : ownA 26 = false := (rfl)
@[simp] theorem kR26 : keepR 26 = false := (rfl)
@[simp] theorem gS26 : GS 26 = [0, 1, 2, 4, 7] := (rfl)
@[simp] theorem oA27 : ownA 27 = false := (rfl)
@[simp] theorem kR27 : keepR 27 = false := (rfl)
@[simp] theorem gS27 : GS 27 = [0, 1, 2, 3, 6, 7] := (rfl)
@[simp] theorem oA28 : ownA 28 = true := (rfl)
@[simp] theorem kR28 : keepR 28 = false := (rfl)
@[simp] theorem gS28 : GS 28 = [0, 1, 4, 5, 6, 7, 8, 9, 16, 39, 40, 41, 57, 58, 59] := (rfl)
@[simp] theorem oA29 : ownA 29 = true := (rfl)
@[simp] theorem kR29 : keepR 29 = false := (rfl)
@[simp] theorem gS29 : GS 29 = [0, 1, 2, 3, 5, 6, 9] := (rfl)
@[simp] theorem oA30 : ownA 30 = false := (rfl)
@[simp] theorem kR30 : keepR 30 = false := (rfl)
@[simp] theorem gS30 : GS 30 = [0, 1, 4, 5, 6, 38, 62, 67, 68, 69, 84, 90, 91, 92, 107] := (rfl)
@[simp] theorem oA31 : ownA 31 = false := (rfl)
@[simp] theorem kR31 : keepR 31 = false := (rfl)
@[simp] theorem gS31 : GS 31 = [0, 1, 2, 3, 4, 5, 8] := (rfl)
@[simp] theorem oA32 : ownA 32 = false := (rfl)
@[simp] theorem kR32 : keepR 32 = false := (rfl)
@[simp] theorem gS32 : GS 32 = [0, 1, 2, 3, 4, 6, 7, 8, 9, 10, 11, 12, 15, 24] := (rfl)
@[simp] theorem oA33 : ownA 33 = false := (rfl)
@[simp] theorem kR33 : keepR 33 = false := (rfl)
@[simp] theorem gS33 : GS 33 = [0, 1, 4, 5, 10, 14, 26] := (rfl)
@[simp] theorem oA34 : ownA 34 = false := (rfl)
@[simp] theorem kR34 : keepR 34 = false := (rfl)
@[simp] theorem gS34 : GS 34 = [0, 1, 4, 5, 10, 14, 25] := (rfl)
@[simp] theorem oA35 : ownA 35 = true := (rfl)
@[simp] theorem kR35 : keepR 35 = false := (rfl)
@[simp] theorem gS35 : GS 35 = [0, 1, 4, 12, 13, 14] := (rfl)
@[simp] theorem oA36 : ownA 36 = true := (rfl)
@[simp] theorem kR36 : keepR 36 = false := (rfl)
@[simp] theorem gS36 : GS 36 = [1] := (rfl)
@[simp] theorem oA37 : ownA 37 = false := (rfl)
@[simp] theorem kR37 : keepR 37 = false := (rfl)
@[simp] theorem gS37 : GS 37 = [0, 1, 3, 4, 5] := (rfl)
@[simp] theorem oA38 : ownA 38 = false := (rfl)
@[simp] theorem kR38 : keepR 38 = false := (rfl)
@[simp] theorem gS38 : GS 38 = [0, 1, 4, 5, 6, 19, 24, 25, 26] := (rfl)
@[simp] theorem oA39 : ownA 39 = false := (rfl)
@[simp] theorem kR39 : keepR 39 = false := (rfl)
@[simp] theorem gS39 : GS 39 = [0, 2, 3, 4, 9, 10, 11] := (rfl)
@[simp] theorem oA40 : ownA 40 = true := (rfl)
@[simp] theorem kR40 : keepR 40 = false := (rfl)
@[simp] theorem gS40 : GS 40 = [0, 1, 2, 4, 5, 18] := (rfl)
@[simp] theorem oA41 : ownA 41 = false := (rfl)
@[simp] theorem kR41 : keepR 41 = false := (rfl)
@[simp] theorem gS41 : GS 41 = [0, 2, 3, 4, 5, 6, 7, 14, 38, 39, 40, 76, 77, 78] := (rfl)
@[simp] theorem oA42 : ownA 42 = false := (rfl)
@[simp] theorem kR42 : keepR 42 = false := (rfl)
@[simp] theorem gS42 : GS 42 = [0, 1, 4, 5, 11, 15, 25] := (rfl)
@[simp] theorem oA43 : ownA 43 = false := (rfl)
@[simp] theorem kR43 : keepR 43 = false := (rfl)
@[simp] theorem gS43 : GS 43 = [0, 1, 4, 10] := (rfl)
@[simp] theorem oA44 : ownA 44 = false := (rfl)
@[simp] theorem kR44 : keepR 44 = false := (rfl)
@[simp] theorem gS44 : GS 44 = [0, 1, 4, 5, 11, 15, 25] := (rfl)
@[simp] theorem oA45 : ownA 45 = false := (rfl)
@[simp] theorem kR45 : keepR 45 = false := (rfl)
@[simp] theorem gS45 : GS 45 = [0, 2, 3, 4, 11] := (rfl)
@[simp] theorem oA46 : ownA 46 = false := (rfl)
@[simp] theorem kR46 : keepR 46 = false := (rfl)
@[simp] theorem gS46 : GS 46 = [0, 2, 3, 4, 11] := (rfl)
@[simp] theorem oA47 : ownA 47 = false := (rfl)
@[simp] theorem kR47 : keepR 47 = false := (rfl)
@[simp] theorem gS47 : GS 47 = [0, 1, 4, 5, 10, 14, 26] := (rfl)
@[simp] theorem oA48 : ownA 48 = false := (rfl)
@[simp] theorem kR48 : keepR 48 = false := (rfl)
@[simp] theorem gS48 : GS 48 = [0, 1, 4, 5, 10, 14, 26] := (rfl)
@[simp] theorem oA49 : ownA 49 = false := (rfl)
@[simp] theorem kR49 : keepR 49 = false := (rfl)
@[simp] theorem gS49 : GS 49 = [0, 1, 4, 5, 9] := (rfl)
@[simp] theorem oA50 : ownA 50 = false := (rfl)
@[simp] theorem kR50 : keepR 50 = false := (rfl)
@[simp] theorem gS50 : GS 50 = [0, 1, 4, 5, 9] := (rfl)
@[simp] theorem oA51 : ownA 51 = false := (rfl)
@[simp] theorem kR51 : keepR 51 = false := (rfl)
@[simp] theorem gS51 : GS 51 = [0, 1, 4, 5, 9, 18, 27, 39, 49, 60] := (rfl)
@[simp] theorem oA52 : ownA 52 = false := (rfl)
@[simp] theorem kR52 : keepR 52 = false := (rfl)
@[simp] theorem gS52 : GS 52 = [0, 1, 4, 5, 9, 17] := (rfl)
@[simp] theorem oA53 : ownA 53 = false := (rfl)
@[simp] theorem kR53 : keepR 53 = false := (rfl)
@[simp] theorem gS53 : GS 53 = [0, 1, 4, 5, 9, 18, 27, 38, 47, 56] := (rfl)
@[simp] theorem oA54 : ownA 54 = true := (rfl)
@[simp] theorem kR54 : keepR 54 = true := (rfl)
@[simp] theorem gS54 : GS 54 = [0, 1, 3, 4, 5, 8, 17] := (rfl)
@[simp] theorem oA55 : ownA 55 = false := (rfl)
@[simp] theorem kR55 : keepR 55 = false := (rfl)
@[simp] theorem gS55 : GS 55 = [0, 1, 2, 3, 4, 6, 7, 8, 17, 26] := (rfl)
@[simp] theorem oA56 : ownA 56 = false := (rfl)
@[simp] theorem kR56 : keepR 56 = false := (rfl)
@[simp] theorem gS56 : GS 56 = [0, 1, 2, 4, 7] := (rfl)
@[simp] theorem oA57 : ownA 57 = true := (rfl)
@[simp] theorem kR57 : keepR 57 = true := (rfl)
@[simp] theorem gS57 : GS 57 = [0, 2, 3, 4, 10] := (rfl)
@[simp] theorem oA58 : ownA 58 = true := (rfl)
@[simp] theorem kR58 : keepR 58 = false := (rfl)
@[simp] theorem gS58 : GS 58 = [0, 1, 4, 5, 6, 7, 8, 9, 10, 11, 12, 31, 44, 45, 54, 62, 77, 88, 110, 122, 128, 146, 151, 154] := (rfl)
@[simp] theorem oA59 : ownA 59 = true := (rfl)
@[simp] theorem kR59 : keepR 59 = false := (rfl)
@[simp] theorem gS59 : GS 59 = [0, 1, 4, 5, 6, 24, 36] := (rfl)
@[simp] theorem oA60 : ownA 60 = false := (rfl)
@[simp] theorem kR60 : keepR 60 = false := (rfl)
@[simp] theorem gS60 : GS 60 = [0, 1, 2, 3, 6, 7, 8, 9, 23, 28, 41, 47, 48, 55, 61, 70, 74, 82, 106, 114, 122, 126, 131, 144] := (rfl)
@[simp] theorem oA61 : ownA 61 = true := (rfl)
@[simp] theorem kR61 : keepR 61 = false := (rfl)
@[simp] theorem gS61 : GS 61 = [0, 1, 4, 5, 6, 18] := (rfl)
@[simp] theorem oA62 : ownA 62 = false := (rfl)
@[simp] theorem kR62 : keepR 62 = false := (rfl)
@[simp] theorem gS62 : GS 62 = [0, 1, 2, 3, 4] := (rfl)
@[simp] theorem oA63 : ownA 63 = true := (rfl)
@[simp] theorem kR63 : keepR 63 = false := (rfl)
@[simp] theorem gS63 : GS 63 = [0, 1, 4] := (rfl)
@[simp] theorem oA64 : ownA 64 = false := (rfl)
@[simp] theorem kR64 : keepR 64 = true := (rfl)
@[simp] theorem gS64 : GS 64 = [0, 1, 2, 3, 4, 5, 19, 37] := (rfl)
@[simp] theorem oA65 : ownA 65 = true := (rfl)
@[simp] theorem kR65 : keepR 65 = false := (rfl)
@[simp] theorem gS65 : GS 65 = [0, 1, 4] := (rfl)
@[simp] theorem oA66 : ownA 66 = false := (rfl)
@[simp] theorem kR66 : keepR 66 = false := (rfl)
@[simp] theorem gS66 : GS 66 = [0, 2, 4, 12, 13, 14, 15, 16, 21] := (rfl)
@[simp] theorem oA67 : ownA 67 = false := (rfl)
@[simp] theorem kR67 : keepR 67 = false := (rfl)
@[simp] theorem gS67 : GS 67 = [0, 1, 2, 6, 7, 8, 9, 10, 31, 60, 87, 92, 106, 118, 119, 120, 137] := (rfl)
@[simp] theorem oA68 : ownA 68 = false := (rfl)
@[simp] theorem kR68 : keepR 68 = true := (rfl)
@[simp] theorem gS68 : GS 68 = [0, 2, 3, 6] := (rfl)
@[simp] theorem oA69 : ownA 69 = false := (rfl)
@[simp] theorem kR69 : keepR 69 = true := (rfl)
@[simp] theorem gS69 : GS 69 = [0, 2, 3, 6] := (rfl)
@[simp] theorem oA70 : ownA 70 = true := (rfl)
@[simp] theorem kR70 : keepR 70 = false := (rfl)
@[simp] theorem gS70 : GS 70 = [0, 2, 3, 4, 5, 6, 13, 37, 38, 39] := (rfl)
@[simp] theorem oA71 : ownA 71 = false := (rfl)
@[simp] theorem kR71 : keepR 71 = false := (rfl)
@[simp] theorem gS71 : GS 71 = [0, 1, 4, 5, 10, 12, 13, 14, 24] := (rfl)
@[simp] theorem oA72 : ownA 72 = false := (rfl)
@[simp] theorem kR72 : keepR 72 = false := (rfl)
@[simp] theorem gS72 : GS 72 = [0, 1, 4, 5, 49, 54, 55, 56, 71] := (rfl)
@[simp] theorem oA73 : ownA 73 = false := (rfl)
@[simp] theorem kR73 : keepR 73 = false := (rfl)
@[simp] theorem gS73 : GS 73 = [0, 1, 2, 6] := (rfl)
@[simp] theorem oA74 : ownA 74 = false := (rfl)
@[simp] theorem kR74 : keepR 74 = false := (rfl)
@[simp] theorem gS74 : GS 74 = [0, 1, 2, 3, 4, 5, 6, 7, 46, 51, 65, 70, 83, 88, 102] := (rfl)
@[simp] theorem oA75 : ownA 75 = false := (rfl)
@[simp] theorem kR75 : keepR 75 = false := (rfl)
@[simp] theorem gS75 : GS 75 = [0, 1, 2, 3, 4] := (rfl)
@[simp] theorem oA76 : ownA 76 = true := (rfl)
@[simp] theorem kR76 : keepR 76 = false := (rfl)
@[simp] theorem gS76 : GS 76 = [0, 1, 2] := (rfl)
@[simp] theorem oA77 : ownA 77 = false := (rfl)
@[simp] theorem kR77 : keepR 77 = true := (rfl)
@[simp] theorem gS77 : GS 77 = [0, 2, 3, 6] := (rfl)
@[simp] theorem oA78 : ownA 78 = false := (rfl)
@[simp] theorem kR78 : keepR 78 = false := (rfl)
@[simp] theorem gS78 : GS 78 = [0, 1, 2, 4, 10] := (rfl)
@[simp] theorem oA79 : ownA 79 = false := (rfl)
@[simp] theorem kR79 : keepR 79 = false := (rfl)
@[simp] theorem gS79 : GS 79 = [0, 1, 2, 3] := (rfl)
@[simp] theorem oA80 : ownA 80 = false := (rfl)
@[simp] theorem kR80 : keepR 80 = false := (rfl)
@[simp] theorem gS80 : GS 80 = [0, 1, 2, 3, 4, 9, 14, 20, 26] := (rfl)
@[simp] theorem oA81 : ownA 81 = true := (rfl)
@[simp] theorem kR81 : keepR 81 = true := (rfl)
@[simp] theorem gS81 : GS 81 = [0, 1, 4, 5, 6, 18, 32] := (rfl)
@[simp] theorem oA82 : ownA 82 = false := (rfl)
@[simp] theorem kR82 : keepR 82 = false := (rfl)
@[simp] theorem gS82 : GS 82 = [0, 2, 3, 7, 15] := (rfl)
@[simp] theorem oA83 : ownA 83 = true := (rfl)
@[simp] theorem kR83 : keepR 83 = false := (rfl)
@[simp] theorem gS83 : GS 83 = [0, 1, 2, 6, 7, 8, 9, 10, 18, 21, 37] := (rfl)
@[simp] theorem oA84 : ownA 84 = false := (rfl)
@[simp] theorem kR84 : keepR 84 = false := (rfl)
@[simp] theorem gS84 : GS 84 = [0, 1, 2, 3, 4, 6, 7, 9, 12, 14, 16] := (rfl)
@[simp] theorem oA85 : ownA 85 = false := (rfl)
@[simp] theorem kR85 : keepR 85 = false := (rfl)
@[simp] theorem gS85 : GS 85 = [0, 1, 2, 4] := (rfl)
@[simp] theorem oA86 : ownA 86 = false := (rfl)
@[simp] theorem kR86 : keepR 86 = false := (rfl)
@[simp] theorem gS86 : GS 86 = [0, 1, 4, 5, 9, 18, 21] := (rfl)
@[simp] theorem oA87 : ownA 87 = false := (rfl)
@[simp] theorem kR87 : keepR 87 = false := (rfl)
@[simp] theorem gS87 : GS 87 = [0, 1, 4, 5, 9, 35] := (rfl)
@[simp] theorem oA88 : ownA 88 = true := (rfl)
@[simp] theorem kR88 : keepR 88 = false := (rfl)
@[simp] theorem gS88 : GS 88 = [0, 1, 2, 6, 7, 8, 9, 20, 32, 33, 34, 39, 46, 59, 66] := (rfl)
@[simp] theorem oA89 : ownA 89 = false := (rfl)
@[simp] theorem kR89 : keepR 89 = false := (rfl)
@[simp] theorem gS89 : GS 89 = [0, 1, 2, 3, 4, 16] := (rfl)
@[simp] theorem oA90 : ownA 90 = false := (rfl)
@[simp] theorem kR90 : keepR 90 = false := (rfl)
@[simp] theorem gS90 : GS 90 = [0, 2] := (rfl)
@[simp] theorem oA91 : ownA 91 = false := (rfl)
@[simp] theorem kR91 : keepR 91 = false := (rfl)
@[simp] theorem gS91 : GS 91 = [0, 2, 3, 4, 5, 7, 10, 13, 15] := (rfl)
@[simp] theorem oA92 : ownA 92 = false := (rfl)
@[simp] theorem kR92 : keepR 92 = false := (rfl)
@[simp] theorem gS92 : GS 92 = [0, 1, 2, 6, 7, 8, 13, 14, 21, 22, 26, 27, 35, 46, 47, 48, 59, 65] := (rfl)
@[simp] theorem oA93 : ownA 93 = false := (rfl)
@[simp] theorem kR93 : keepR 93 = false := (rfl)
@[simp] theorem gS93 : GS 93 = [0, 1, 2, 3, 4, 5, 33, 38, 52] := (rfl)
@[simp] theorem oA94 : ownA 94 = false := (rfl)
@[simp] theorem kR94 : keepR 94 = false := (rfl)
@[simp] theorem gS94 : GS 94 = [0, 1, 2, 3] := (rfl)
@[simp] theorem oA95 : ownA 95 = false := (rfl)
@[simp] theorem kR95 : keepR 95 = false := (rfl)
@[simp] theorem gS95 : GS 95 = [0, 1, 2, 3, 4, 9, 14] := (rfl)
@[simp] theorem oA96 : ownA 96 = false := (rfl)
@[simp] theorem kR96 : keepR 96 = false := (rfl)
@[simp] theorem gS96 : GS 96 = [0, 1, 2] := (rfl)
@[simp] theorem oA97 : ownA 97 = true := (rfl)
@[simp] theorem kR97 : keepR 97 = false := (rfl)
@[simp] theorem gS97 : GS 97 = [0, 2, 5] := (rfl)
@[simp] theorem oA98 : ownA 98 = false := (rfl)
@[simp] theorem kR98 : keepR 98 = false := (rfl)
@[simp] theorem gS98 : GS 98 = [0, 2, 3, 4, 7, 10] := (rfl)
@[simp] theorem oA99 : ownA 99 = false := (rfl)
@[simp] theorem kR99 : keepR 99 = false := (rfl)
@[simp] theorem gS99 : GS 99 = [0, 1, 2, 3, 6, 7, 24, 29, 41, 43, 44, 57] := (rfl)
@[simp] theorem oA100 : ownA 100 = false := (rfl)
@[simp] theorem kR100 : keepR 100 = false := (rfl)
@[simp] theorem gS100 : GS 100 = [0, 1, 4, 5, 7, 10, 11, 12, 13, 14, 24] := (rfl)
@[simp] theorem oA101 : ownA 101 = false := (rfl)
@[simp] theorem kR101 : keepR 101 = false := (rfl)
@[simp] theorem gS101 : GS 101 = [0, 1, 2, 4] := (rfl)
@[simp] theorem oA102 : ownA 102 = false := (rfl)
@[simp] theorem kR102 : keepR 102 = false := (rfl)
@[simp] theorem gS102 : GS 102 = [0, 1, 2] := (rfl)
@[simp] theorem oA103 : ownA 103 = false := (rfl)
@[simp] theorem kR103 : keepR 103 = false := (rfl)
@[simp] theorem gS103 : GS 103 = [0, 1, 2, 6, 7, 8, 28, 62, 90, 95, 96, 97, 109] := (rfl)
@[simp] theorem oA104 : ownA 104 = false := (rfl)
@[simp] theorem kR104 : keepR 104 = false := (rfl)
@[simp] theorem gS104 : GS 104 = [0, 2, 3, 4, 7, 10] := (rfl)
@[simp] theorem oA105 : ownA 105 = false := (rfl)
@[simp] theorem kR105 : keepR 105 = false := (rfl)
@[simp] theorem gS105 : GS 105 = [0, 1, 2, 4] := (rfl)
@[simp] theorem oA121 : ownA 121 = false := (rfl)
@[simp] theorem kR121 : keepR 121 = false := (rfl)
@[simp] theorem gS121 : GS 121 = [] := (rfl)
@[simp] theorem eT0 : eqTy 0 = false := (rfl)
@[simp] theorem eT1 : eqTy 1 = false := (rfl)
@[simp] theorem eT2 : eqTy 2 = false := (rfl)
@[simp] theorem eT3 : eqTy 3 = false := (rfl)
@[simp] theorem eT4 : eqTy 4 = false := (rfl)
@[simp] theorem eT5 : eqTy 5 = false := (rfl)
@[simp] theorem eT6 : eqTy 6 = false := (rfl)
@[simp] theorem eT7 : eqTy 7 = false := (rfl)
@[simp] theorem eT8 : eqTy 8 = false := (rfl)
@[simp] theorem eT9 : eqTy 9 = false := (rfl)
@[simp] theorem eT10 : eqTy 10 = false := (rfl)
@[simp] theorem eT11 : eqTy 11 = false := (rfl)
@[simp] theorem eT12 : eqTy 12 = false := (rfl)
@[simp] theorem eT13 : eqTy 13 = false := (rfl)
@[simp] theorem eT14 : eqTy 14 = false := (rfl)
@[simp] theorem eT15 : eqTy 15 = false := (rfl)
@[simp] theorem eT16 : eqTy 16 = false := (rfl)
@[simp] theorem eT17 : eqTy 17 = false := (rfl)
@[simp] theorem eT18 : eqTy 18 = false := (rfl)
@[simp] theorem eT19 : eqTy 19 = false := (rfl)
@[simp] theorem eT20 : eqTy 20 = false := (rfl)
@[simp] theorem eT21 : eqTy 21 = false := (rfl)
@[simp] theorem eT22 : eqTy 22 = false := (rfl)
@[simp] theorem eT23 : eqTy 23 = false := (rfl)
@[simp] theorem eT24 : eqTy 24 = false := (rfl)
@[simp] theorem eT25 : eqTy 25 = false := (rfl)
@[simp] theorem eT26 : eqTy 26 = false := (rfl)
@[simp] theorem eT27 : eqTy 27 = false := (rfl)
@[simp] theorem eT28 : eqTy 28 = false := (rfl)
@[simp] theorem eT29 : eqTy 29 = false := (rfl)
@[simp] theorem eT30 : eqTy 30 = false := (rfl)
@[simp] theorem eT31 : eqTy 31 = false := (rfl)
@[simp] theorem eT32 : eqTy 32 = false := (rfl)
@[simp] theorem eT33 : eqTy 33 = false := (rfl)
@[simp] theorem eT34 : eqTy 34 = false := (rfl)
@[simp] theorem eT35 : eqTy 35 = false := (rfl)
@[simp] theorem eT36 : eqTy 36 = false := (rfl)
@[simp] theorem eT37 : eqTy 37 = false := (rfl)
@[simp] theorem eT38 : eqTy 38 = false := (rfl)
@[simp] theorem eT39 : eqTy 39 = false := (rfl)
@[simp] theorem eT40 : eqTy 40 = false := (rfl)
@[simp] theorem eT41 : eqTy 41 = false := (rfl)
@[simp] theorem eT42 : eqTy 42 = false := (rfl)
@[simp] theorem eT43 : eqTy 43 = false := (rfl)
@[simp] theorem eT44 : eqTy 44 = false := (rfl)
@[simp] theorem eT45 : eqTy 45 = false := (rfl)
@[simp] theorem eT46 : eqTy 46 = false := (rfl)
@[simp] theorem eT47 : eqTy 47 = false := (rfl)
@[simp] theorem eT48 : eqTy 48 = false := (rfl)
@[simp] theorem eT49 : eqTy 49 = false := (rfl)
@[simp] theorem eT50 : eqTy 50 = false := (rfl)
@[simp] theorem eT51 : eqTy 51 = false := (rfl)
@[simp] theorem eT52 : eqTy 52 = false := (rfl)
@[simp] theorem eT53 : eqTy 53 = false := (rfl)
@[simp] theorem eT54 : eqTy 54 = false := (rfl)
@[simp] theorem eT55 : eqTy 55 = false := (rfl)
@[simp] theorem eT56 : eqTy 56 = false := (rfl)
@[simp] theorem eT57 : eqTy 57 = false := (rfl)
@[simp] theorem eT58 : eqTy 58 = false := (rfl)
@[simp] theorem eT59 : eqTy 59 = false := (rfl)
@[simp] theorem eT60 : eqTy 60 = false := (rfl)
@[simp] theorem eT61 : eqTy 61 = false := (rfl)
@[simp] theorem eT62 : eqTy 62 = false := (rfl)
@[simp] theorem eT63 : eqTy 63 = false := (rfl)
@[simp] theorem eT64 : eqTy 64 = false := (rfl)
@[simp] theorem eT65 : eqTy 65 = false := (rfl)
@[simp] theorem eT66 : eqTy 66 = false := (rfl)
@[simp] theorem eT67 : eqTy 67 = false := (rfl)
@[simp] theorem eT68 : eqTy 68 = false := (rfl)
@[simp] theorem eT69 : eqTy 69 = false := (rfl)
@[simp] theorem eT70 : eqTy 70 = false := (rfl)
@[simp] theorem eT71 : eqTy 71 = false := (rfl)
@[simp] theorem eT72 : eqTy 72 = false := (rfl)
@[simp] theorem eT73 : eqTy 73 = false := (rfl)
@[simp] theorem eT74 : eqTy 74 = false := (rfl)
@[simp] theorem eT75 : eqTy 75 = false := (rfl)
@[simp] theorem eT76 : eqTy 76 = false := (rfl)
@[simp] theorem eT77 : eqTy 77 = false := (rfl)
@[simp] theorem eT78 : eqTy 78 = false := (rfl)
@[simp] theorem eT79 : eqTy 79 = false := (rfl)
@[simp] theorem eT80 : eqTy 80 = false := (rfl)
@[simp] theorem eT81 : eqTy 81 = false := (rfl)
@[simp] theorem eT82 : eqTy 82 = false := (rfl)
@[simp] theorem eT83 : eqTy 83 = false := (rfl)
@[simp] theorem eT84 : eqTy 84 = true := (rfl)
@[simp] theorem eT85 : eqTy 85 = true := (rfl)
@[simp] theorem eT86 : eqTy 86 = false := (rfl)
@[simp] theorem eT87 : eqTy 87 = false := (rfl)
@[simp] theorem eT88 : eqTy 88 = false := (rfl)
@[simp] theorem eT89 : eqTy 89 = false := (rfl)
@[simp] theorem eT90 : eqTy 90 = false := (rfl)
@[simp] theorem eT91 : eqTy 91 = false := (rfl)
@[simp] theorem eT92 : eqTy 92 = false := (rfl)
@[simp] theorem eT93 : eqTy 93 = false := (rfl)
@[simp] theorem eT94 : eqTy 94 = false := (rfl)
@[simp] theorem eT95 : eqTy 95 = false := (rfl)
@[simp] theorem eT96 : eqTy 96 = false := (rfl)
@[simp] theorem eT97 : eqTy 97 = false := (rfl)
@[simp] theorem eT98 : eqTy 98 = false := (rfl)
@[simp] theorem eT99 : eqTy 99 = false := (rfl)
@[simp] theorem eT100 : eqTy 100 = false := (rfl)
@[simp] theorem eT101 : eqTy 101 = false := (rfl)
@[simp] theorem eT102 : eqTy 102 = false := (rfl)
@[simp] theorem eT103 : eqTy 103 = true := (rfl)
@[simp] theorem eT104 : eqTy 104 = false := (rfl)
@[simp] theorem eT105 : eqTy 105 = false := (rfl)
@[simp] theorem eT106 : eqTy 106 = false := (rfl)
@[simp] theorem eT107 : eqTy 107 = false := (rfl)
@[simp] theorem eT108 : eqTy 108 = false := (rfl)
@[simp] theorem eT109 : eqTy 109 = false := (rfl)
@[simp] theorem eT110 : eqTy 110 = false := (rfl)
@[simp] theorem eT111 : eqTy 111 = false := (rfl)
@[simp] theorem eT112 : eqTy 112 = false := (rfl)
@[simp] theorem eT113 : eqTy 113 = false := (rfl)
@[simp] theorem eT114 : eqTy 114 = false := (rfl)
@[simp] theorem eT115 : eqTy 115 = false := (rfl)
@[simp] theorem eT116 : eqTy 116 = false := (rfl)
@[simp] theorem eT117 : eqTy 117 = false := (rfl)
@[simp] theorem eT118 : eqTy 118 = false := (rfl)
@[simp] theorem eT119 : eqTy 119 = false := (rfl)
@[simp] theorem eT120 : eqTy 120 = false := (rfl)
@[simp] theorem eT121 : eqTy 121 = false := (rfl)
@[simp] theorem eT122 : eqTy 122 = false := (rfl)
@[simp] theorem eT123 : eqTy 123 = false := (rfl)
@[simp] theorem eT124 : eqTy 124 = false := (rfl)
@[simp] theorem eT125 : eqTy 125 = false := (rfl)
@[simp] theorem eT126 : eqTy 126 = false := (rfl)
@[simp] theorem eT127 : eqTy 127 = false := (rfl)
@[simp] theorem eT128 : eqTy 128 = false := (rfl)
@[simp] theorem eT129 : eqTy 129 = false := (rfl)
@[simp] theorem eT130 : eqTy 130 = false := (rfl)
@[simp] theorem eT131 : eqTy 131 = false := (rfl)
@[simp] theorem eT132 : eqTy 132 = false := (rfl)
@[simp] theorem eT133 : eqTy 133 = false := (rfl)
@[simp] theorem eT134 : eqTy 134 = false := (rfl)
@[simp] theorem eT135 : eqTy 135 = false := (rfl)
@[simp] theorem eT136 : eqTy 136 = false := (rfl)
@[simp] theorem eT137 : eqTy 137 = false := (rfl)
@[simp] theorem eT138 : eqTy 138 = false := (rfl)
@[simp] theorem eT139 : eqTy 139 = false := (rfl)
@[simp] theorem eT140 : eqTy 140 = false := (rfl)
noncomputable def primF : FuncId → Option (List AV → StL → Option (AV × StL))
  | 70 => some copyE
  | 41 => some copyP
  | _ => none
/-- The program with what the executor is told of it, with its ready contracts. -/
noncomputable def C0 : Ctx := { P := Try.prog, G := GS, ownArgs := ownA, keepRes := keepR, eqT := eqTy, prim := primF }
@[simp] theorem dk1 : descK Try.prog 1 = some .other := by kernel_rfl
@[simp] theorem sz1 : szOf Try.prog 1 = some 1 := by kernel_rfl
@[simp] theorem by1 : byOf Try.prog 1 = some 8 := by kernel_rfl
@[simp] theorem ze1 : zeroOf Try.prog 1 = some [(.nilFunc)] := by kernel_rfl
@[simp] theorem dk2 : descK Try.prog 2 = some (.int .i64) := by kernel_rfl
@[simp] theorem sz2 : szOf Try.prog 2 = some 1 := by kernel_rfl
@[simp] theorem by2 : byOf Try.prog 2 = some 8 := by kernel_rfl
@[simp] theorem ze2 : zeroOf Try.prog 2 = some [(.int .i64 0)] := by kernel_rfl
@[simp] theorem dk3 : descK Try.prog 3 = some (.int .i64) := by kernel_rfl
@[simp] theorem sz3 : szOf Try.prog 3 = some 1 := by kernel_rfl
@[simp] theorem by3 : byOf Try.prog 3 = some 8 := by kernel_rfl
@[simp] theorem ze3 : zeroOf Try.prog 3 = some [(.int .i64 0)] := by kernel_rfl
@[simp] theorem dk4 : descK Try.prog 4 = some .bool := by kernel_rfl
@[simp] theorem sz4 : szOf Try.prog 4 = some 1 := by kernel_rfl
@[simp] theorem by4 : byOf Try.prog 4 = some 1 := by kernel_rfl
@[simp] theorem ze4 : zeroOf Try.prog 4 = some [(.bool false)] := by kernel_rfl
@[simp] theorem dk5 : descK Try.prog 5 = some (.int .u8) := by kernel_rfl
@[simp] theorem sz5 : szOf Try.prog 5 = some 1 := by kernel_rfl
@[simp] theorem by5 : byOf Try.prog 5 = some 1 := by kernel_rfl
@[simp] theorem ze5 : zeroOf Try.prog 5 = some [(.int .u8 0)] := by kernel_rfl
@[simp] theorem dk6 : descK Try.prog 6 = some (.int .u8) := by kernel_rfl
@[simp] theorem sz6 : szOf Try.prog 6 = some 1 := by kernel_rfl
@[simp] theorem by6 : byOf Try.prog 6 = some 1 := by kernel_rfl
@[simp] theorem ze6 : zeroOf Try.prog 6 = some [(.int .u8 0)] := by kernel_rfl
@[simp] theorem dk7 : descK Try.prog 7 = some .strct := by kernel_rfl
@[simp] theorem sz7 : szOf Try.prog 7 = some 4 := by kernel_rfl
@[simp] theorem by7 : byOf Try.prog 7 = some 24 := by kernel_rfl
@[simp] theorem ze7 : zeroOf Try.prog 7 = some [(.int .i64 0), (.int .i64 0), (.bool false), (.int .u8 0)] := by kernel_rfl
@[simp] theorem fd7_0 : fieldT Try.prog 7 0 = some (2, 0) := by kernel_rfl
@[simp] theorem fd7_1 : fieldT Try.prog 7 1 = some (3, 1) := by kernel_rfl
@[simp] theorem fd7_2 : fieldT Try.prog 7 2 = some (4, 2) := by kernel_rfl
@[simp] theorem fd7_3 : fieldT Try.prog 7 3 = some (6, 3) := by kernel_rfl
@[simp] theorem dk8 : descK Try.prog 8 = some .strct := by kernel_rfl
@[simp] theorem sz8 : szOf Try.prog 8 = some 4 := by kernel_rfl
@[simp] theorem by8 : byOf Try.prog 8 = some 24 := by kernel_rfl
@[simp] theorem ze8 : zeroOf Try.prog 8 = some [(.int .i64 0), (.int .i64 0), (.bool false), (.int .u8 0)] := by kernel_rfl
@[simp] theorem fd8_0 : fieldT Try.prog 8 0 = some (2, 0) := by kernel_rfl
@[simp] theorem fd8_1 : fieldT Try.prog 8 1 = some (3, 1) := by kernel_rfl
@[simp] theorem fd8_2 : fieldT Try.prog 8 2 = some (4, 2) := by kernel_rfl
@[simp] theorem fd8_3 : fieldT Try.prog 8 3 = some (6, 3) := by kernel_rfl
@[simp] theorem dk9 : descK Try.prog 9 = some .string := by kernel_rfl
@[simp] theorem sz9 : szOf Try.prog 9 = some 1 := by kernel_rfl
@[simp] theorem by9 : byOf Try.prog 9 = some 16 := by kernel_rfl
@[simp] theorem ze9 : zeroOf Try.prog 9 = some [(.string ⟨#[]⟩)] := by kernel_rfl
@[simp] theorem dk10 : descK Try.prog 10 = some .string := by kernel_rfl
@[simp] theorem sz10 : szOf Try.prog 10 = some 1 := by kernel_rfl
@[simp] theorem by10 : byOf Try.prog 10 = some 16 := by kernel_rfl
@[simp] theorem ze10 : zeroOf Try.prog 10 = some [(.string ⟨#[]⟩)] := by kernel_rfl
@[simp] theorem dk11 : descK Try.prog 11 = some .string := by kernel_rfl
@[simp] theorem sz11 : szOf Try.prog 11 = some 1 := by kernel_rfl
@[simp] theorem by11 : byOf Try.prog 11 = some 16 := by kernel_rfl
@[simp] theorem ze11 : zeroOf Try.prog 11 = some [(.string ⟨#[]⟩)] := by kernel_rfl
@[simp] theorem dk12 : descK Try.prog 12 = some (.int .u64) := by kernel_rfl
@[simp] theorem sz12 : szOf Try.prog 12 = some 1 := by kernel_rfl
@[simp] theorem by12 : byOf Try.prog 12 = some 8 := by kernel_rfl
@[simp] theorem ze12 : zeroOf Try.prog 12 = some [(.int .u64 0)] := by kernel_rfl
@[simp] theorem dk13 : descK Try.prog 13 = some .strct := by kernel_rfl
@[simp] theorem sz13 : szOf Try.prog 13 = some 2 := by kernel_rfl
@[simp] theorem by13 : byOf Try.prog 13 = some 24 := by kernel_rfl
@[simp] theorem ze13 : zeroOf Try.prog 13 = some [(.string ⟨#[]⟩), (.int .u64 0)] := by kernel_rfl
@[simp] theorem fd13_0 : fieldT Try.prog 13 0 = some (9, 0) := by kernel_rfl
@[simp] theorem fd13_1 : fieldT Try.prog 13 1 = some (12, 1) := by kernel_rfl
@[simp] theorem dk14 : descK Try.prog 14 = some .strct := by kernel_rfl
@[simp] theorem sz14 : szOf Try.prog 14 = some 2 := by kernel_rfl
@[simp] theorem by14 : byOf Try.prog 14 = some 24 := by kernel_rfl
@[simp] theorem ze14 : zeroOf Try.prog 14 = some [(.string ⟨#[]⟩), (.int .u64 0)] := by kernel_rfl
@[simp] theorem fd14_0 : fieldT Try.prog 14 0 = some (9, 0) := by kernel_rfl
@[simp] theorem fd14_1 : fieldT Try.prog 14 1 = some (12, 1) := by kernel_rfl
@[simp] theorem dk15 : descK Try.prog 15 = some .other := by kernel_rfl
@[simp] theorem sz15 : szOf Try.prog 15 = some 1 := by kernel_rfl
@[simp] theorem by15 : byOf Try.prog 15 = some 8 := by kernel_rfl
@[simp] theorem ze15 : zeroOf Try.prog 15 = some [(.pointer none)] := by kernel_rfl
@[simp] theorem dk16 : descK Try.prog 16 = some .other := by kernel_rfl
@[simp] theorem sz16 : szOf Try.prog 16 = some 1 := by kernel_rfl
@[simp] theorem by16 : byOf Try.prog 16 = some 8 := by kernel_rfl
@[simp] theorem ze16 : zeroOf Try.prog 16 = some [(.pointer none)] := by kernel_rfl
@[simp] theorem dk17 : descK Try.prog 17 = some .other := by kernel_rfl
@[simp] theorem sz17 : szOf Try.prog 17 = some 1 := by kernel_rfl
@[simp] theorem by17 : byOf Try.prog 17 = some 8 := by kernel_rfl
@[simp] theorem ze17 : zeroOf Try.prog 17 = some [(.pointer none)] := by kernel_rfl
@[simp] theorem dk18 : descK Try.prog 18 = some .strct := by kernel_rfl
@[simp] theorem sz18 : szOf Try.prog 18 = some 1 := by kernel_rfl
@[simp] theorem by18 : byOf Try.prog 18 = some 8 := by kernel_rfl
@[simp] theorem ze18 : zeroOf Try.prog 18 = some [(.pointer none)] := by kernel_rfl
@[simp] theorem fd18_0 : fieldT Try.prog 18 0 = some (17, 0) := by kernel_rfl
@[simp] theorem dk19 : descK Try.prog 19 = some .strct := by kernel_rfl
@[simp] theorem sz19 : szOf Try.prog 19 = some 1 := by kernel_rfl
@[simp] theorem by19 : byOf Try.prog 19 = some 8 := by kernel_rfl
@[simp] theorem ze19 : zeroOf Try.prog 19 = some [(.pointer none)] := by kernel_rfl
@[simp] theorem fd19_0 : fieldT Try.prog 19 0 = some (17, 0) := by kernel_rfl
@[simp] theorem dk20 : descK Try.prog 20 = some .other := by kernel_rfl
@[simp] theorem sz20 : szOf Try.prog 20 = some 1 := by kernel_rfl
@[simp] theorem by20 : byOf Try.prog 20 = some 16 := by kernel_rfl
@[simp] theorem ze20 : zeroOf Try.prog 20 = some [(.nilIface)] := by kernel_rfl
@[simp] theorem dk21 : descK Try.prog 21 = some (.int .i32) := by kernel_rfl
@[simp] theorem sz21 : szOf Try.prog 21 = some 1 := by kernel_rfl
@[simp] theorem by21 : byOf Try.prog 21 = some 4 := by kernel_rfl
@[simp] theorem ze21 : zeroOf Try.prog 21 = some [(.int .i32 0)] := by kernel_rfl
@[simp] theorem dk22 : descK Try.prog 22 = some (.slice 5) := by kernel_rfl
@[simp] theorem sz22 : szOf Try.prog 22 = some 1 := by kernel_rfl
@[simp] theorem by22 : byOf Try.prog 22 = some 24 := by kernel_rfl
@[simp] theorem ze22 : zeroOf Try.prog 22 = some [(.slice none 0 0)] := by kernel_rfl
@[simp] theorem dk23 : descK Try.prog 23 = some (.slice 87) := by kernel_rfl
@[simp] theorem sz23 : szOf Try.prog 23 = some 1 := by kernel_rfl
@[simp] theorem by23 : byOf Try.prog 23 = some 24 := by kernel_rfl
@[simp] theorem ze23 : zeroOf Try.prog 23 = some [(.slice none 0 0)] := by kernel_rfl
@[simp] theorem dk24 : descK Try.prog 24 = some (.slice 3) := by kernel_rfl
@[simp] theorem sz24 : szOf Try.prog 24 = some 1 := by kernel_rfl
@[simp] theorem by24 : byOf Try.prog 24 = some 24 := by kernel_rfl
@[simp] theorem ze24 : zeroOf Try.prog 24 = some [(.slice none 0 0)] := by kernel_rfl
@[simp] theorem dk25 : descK Try.prog 25 = some (.slice 27) := by kernel_rfl
@[simp] theorem sz25 : szOf Try.prog 25 = some 1 := by kernel_rfl
@[simp] theorem by25 : byOf Try.prog 25 = some 24 := by kernel_rfl
@[simp] theorem ze25 : zeroOf Try.prog 25 = some [(.slice none 0 0)] := by kernel_rfl
@[simp] theorem dk26 : descK Try.prog 26 = some .strct := by kernel_rfl
@[simp] theorem sz26 : szOf Try.prog 26 = some 5 := by kernel_rfl
@[simp] theorem by26 : byOf Try.prog 26 = some 88 := by kernel_rfl
@[simp] theorem ze26 : zeroOf Try.prog 26 = some [(.int .i64 0), (.int .i64 0), (.slice none 0 0), (.slice none 0 0), (.slice none 0 0)] := by kernel_rfl
@[simp] theorem fd26_0 : fieldT Try.prog 26 0 = some (3, 0) := by kernel_rfl
@[simp] theorem fd26_1 : fieldT Try.prog 26 1 = some (3, 1) := by kernel_rfl
@[simp] theorem fd26_2 : fieldT Try.prog 26 2 = some (23, 2) := by kernel_rfl
@[simp] theorem fd26_3 : fieldT Try.prog 26 3 = some (24, 3) := by kernel_rfl
@[simp] theorem fd26_4 : fieldT Try.prog 26 4 = some (25, 4) := by kernel_rfl
@[simp] theorem dk27 : descK Try.prog 27 = some .strct := by kernel_rfl
@[simp] theorem sz27 : szOf Try.prog 27 = some 5 := by kernel_rfl
@[simp] theorem by27 : byOf Try.prog 27 = some 88 := by kernel_rfl
@[simp] theorem ze27 : zeroOf Try.prog 27 = some [(.int .i64 0), (.int .i64 0), (.slice none 0 0), (.slice none 0 0), (.slice none 0 0)] := by kernel_rfl
@[simp] theorem fd27_0 : fieldT Try.prog 27 0 = some (3, 0) := by kernel_rfl
@[simp] theorem fd27_1 : fieldT Try.prog 27 1 = some (3, 1) := by kernel_rfl
@[simp] theorem fd27_2 : fieldT Try.prog 27 2 = some (23, 2) := by kernel_rfl
@[simp] theorem fd27_3 : fieldT Try.prog 27 3 = some (24, 3) := by kernel_rfl
@[simp] theorem fd27_4 : fieldT Try.prog 27 4 = some (25, 4) := by kernel_rfl
@[simp] theorem dk29 : descK Try.prog 29 = some .other := by kernel_rfl
@[simp] theorem sz29 : szOf Try.prog 29 = some 1 := by kernel_rfl
@[simp] theorem by29 : byOf Try.prog 29 = some 8 := by kernel_rfl
@[simp] theorem ze29 : zeroOf Try.prog 29 = some [(.nilFunc)] := by kernel_rfl
@[simp] theorem dk31 : descK Try.prog 31 = some .other := by kernel_rfl
@[simp] theorem sz31 : szOf Try.prog 31 = some 1 := by kernel_rfl
@[simp] theorem by31 : byOf Try.prog 31 = some 8 := by kernel_rfl
@[simp] theorem ze31 : zeroOf Try.prog 31 = some [(.nilFunc)] := by kernel_rfl
@[simp] theorem dk32 : descK Try.prog 32 = some .other := by kernel_rfl
@[simp] theorem sz32 : szOf Try.prog 32 = some 1 := by kernel_rfl
@[simp] theorem by32 : byOf Try.prog 32 = some 8 := by kernel_rfl
@[simp] theorem ze32 : zeroOf Try.prog 32 = some [(.nilFunc)] := by kernel_rfl
@[simp] theorem dk33 : descK Try.prog 33 = some .other := by kernel_rfl
@[simp] theorem sz33 : szOf Try.prog 33 = some 1 := by kernel_rfl
@[simp] theorem by33 : byOf Try.prog 33 = some 8 := by kernel_rfl
@[simp] theorem ze33 : zeroOf Try.prog 33 = some [(.nilFunc)] := by kernel_rfl
@[simp] theorem dk34 : descK Try.prog 34 = some .other := by kernel_rfl
@[simp] theorem sz34 : szOf Try.prog 34 = some 1 := by kernel_rfl
@[simp] theorem by34 : byOf Try.prog 34 = some 8 := by kernel_rfl
@[simp] theorem ze34 : zeroOf Try.prog 34 = some [(.nilFunc)] := by kernel_rfl
@[simp] theorem dk35 : descK Try.prog 35 = some .other := by kernel_rfl
@[simp] theorem sz35 : szOf Try.prog 35 = some 1 := by kernel_rfl
@[simp] theorem by35 : byOf Try.prog 35 = some 8 := by kernel_rfl
@[simp] theorem ze35 : zeroOf Try.prog 35 = some [(.nilFunc)] := by kernel_rfl
@[simp] theorem dk36 : descK Try.prog 36 = some .other := by kernel_rfl
@[simp] theorem sz36 : szOf Try.prog 36 = some 1 := by kernel_rfl
@[simp] theorem by36 : byOf Try.prog 36 = some 8 := by kernel_rfl
@[simp] theorem ze36 : zeroOf Try.prog 36 = some [(.nilFunc)] := by kernel_rfl
@[simp] theorem dk38 : descK Try.prog 38 = some .other := by kernel_rfl
@[simp] theorem sz38 : szOf Try.prog 38 = some 1 := by kernel_rfl
@[simp] theorem by38 : byOf Try.prog 38 = some 8 := by kernel_rfl
@[simp] theorem ze38 : zeroOf Try.prog 38 = some [(.nilFunc)] := by kernel_rfl
@[simp] theorem dk39 : descK Try.prog 39 = some (.slice 105) := by kernel_rfl
@[simp] theorem sz39 : szOf Try.prog 39 = some 1 := by kernel_rfl
@[simp] theorem by39 : byOf Try.prog 39 = some 24 := by kernel_rfl
@[simp] theorem ze39 : zeroOf Try.prog 39 = some [(.slice none 0 0)] := by kernel_rfl
@[simp] theorem dk40 : descK Try.prog 40 = some (.slice 42) := by kernel_rfl
@[simp] theorem sz40 : szOf Try.prog 40 = some 1 := by kernel_rfl
@[simp] theorem by40 : byOf Try.prog 40 = some 24 := by kernel_rfl
@[simp] theorem ze40 : zeroOf Try.prog 40 = some [(.slice none 0 0)] := by kernel_rfl
@[simp] theorem dk41 : descK Try.prog 41 = some .strct := by kernel_rfl
@[simp] theorem sz41 : szOf Try.prog 41 = some 5 := by kernel_rfl
@[simp] theorem by41 : byOf Try.prog 41 = some 88 := by kernel_rfl
@[simp] theorem ze41 : zeroOf Try.prog 41 = some [(.int .i64 0), (.int .i64 0), (.slice none 0 0), (.slice none 0 0), (.slice none 0 0)] := by kernel_rfl
@[simp] theorem fd41_0 : fieldT Try.prog 41 0 = some (3, 0) := by kernel_rfl
@[simp] theorem fd41_1 : fieldT Try.prog 41 1 = some (3, 1) := by kernel_rfl
@[simp] theorem fd41_2 : fieldT Try.prog 41 2 = some (39, 2) := by kernel_rfl
@[simp] theorem fd41_3 : fieldT Try.prog 41 3 = some (24, 3) := by kernel_rfl
@[simp] theorem fd41_4 : fieldT Try.prog 41 4 = some (40, 4) := by kernel_rfl
@[simp] theorem dk42 : descK Try.prog 42 = some .strct := by kernel_rfl
@[simp] theorem sz42 : szOf Try.prog 42 = some 5 := by kernel_rfl
@[simp] theorem by42 : byOf Try.prog 42 = some 88 := by kernel_rfl
@[simp] theorem ze42 : zeroOf Try.prog 42 = some [(.int .i64 0), (.int .i64 0), (.slice none 0 0), (.slice none 0 0), (.slice none 0 0)] := by kernel_rfl
@[simp] theorem fd42_0 : fieldT Try.prog 42 0 = some (3, 0) := by kernel_rfl
@[simp] theorem fd42_1 : fieldT Try.prog 42 1 = some (3, 1) := by kernel_rfl
@[simp] theorem fd42_2 : fieldT Try.prog 42 2 = some (39, 2) := by kernel_rfl
@[simp] theorem fd42_3 : fieldT Try.prog 42 3 = some (24, 3) := by kernel_rfl
@[simp] theorem fd42_4 : fieldT Try.prog 42 4 = some (40, 4) := by kernel_rfl
@[simp] theorem dk43 : descK Try.prog 43 = some .other := by kernel_rfl
@[simp] theorem sz43 : szOf Try.prog 43 = some 1 := by kernel_rfl
@[simp] theorem by43 : byOf Try.prog 43 = some 8 := by kernel_rfl
@[simp] theorem ze43 : zeroOf Try.prog 43 = some [(.nilFunc)] := by kernel_rfl
@[simp] theorem dk44 : descK Try.prog 44 = some .other := by kernel_rfl
@[simp] theorem sz44 : szOf Try.prog 44 = some 1 := by kernel_rfl
@[simp] theorem by44 : byOf Try.prog 44 = some 8 := by kernel_rfl
@[simp] theorem ze44 : zeroOf Try.prog 44 = some [(.nilFunc)] := by kernel_rfl
@[simp] theorem dk45 : descK Try.prog 45 = some .other := by kernel_rfl
@[simp] theorem sz45 : szOf Try.prog 45 = some 1 := by kernel_rfl
@[simp] theorem by45 : byOf Try.prog 45 = some 8 := by kernel_rfl
@[simp] theorem ze45 : zeroOf Try.prog 45 = some [(.nilFunc)] := by kernel_rfl
@[simp] theorem dk46 : descK Try.prog 46 = some .other := by kernel_rfl
@[simp] theorem sz46 : szOf Try.prog 46 = some 1 := by kernel_rfl
@[simp] theorem by46 : byOf Try.prog 46 = some 8 := by kernel_rfl
@[simp] theorem ze46 : zeroOf Try.prog 46 = some [(.nilFunc)] := by kernel_rfl
@[simp] theorem dk47 : descK Try.prog 47 = some .other := by kernel_rfl
@[simp] theorem sz47 : szOf Try.prog 47 = some 1 := by kernel_rfl
@[simp] theorem by47 : byOf Try.prog 47 = some 8 := by kernel_rfl
@[simp] theorem ze47 : zeroOf Try.prog 47 = some [(.nilFunc)] := by kernel_rfl
@[simp] theorem dk48 : descK Try.prog 48 = some .other := by kernel_rfl
@[simp] theorem sz48 : szOf Try.prog 48 = some 1 := by kernel_rfl
@[simp] theorem by48 : byOf Try.prog 48 = some 8 := by kernel_rfl
@[simp] theorem ze48 : zeroOf Try.prog 48 = some [(.nilFunc)] := by kernel_rfl
@[simp] theorem dk49 : descK Try.prog 49 = some .other := by kernel_rfl
@[simp] theorem sz49 : szOf Try.prog 49 = some 1 := by kernel_rfl
@[simp] theorem by49 : byOf Try.prog 49 = some 8 := by kernel_rfl
@[simp] theorem ze49 : zeroOf Try.prog 49 = some [(.nilFunc)] := by kernel_rfl
@[simp] theorem dk50 : descK Try.prog 50 = some .other := by kernel_rfl
@[simp] theorem sz50 : szOf Try.prog 50 = some 1 := by kernel_rfl
@[simp] theorem by50 : byOf Try.prog 50 = some 8 := by kernel_rfl
@[simp] theorem ze50 : zeroOf Try.prog 50 = some [(.nilFunc)] := by kernel_rfl
@[simp] theorem dk51 : descK Try.prog 51 = some .other := by kernel_rfl
@[simp] theorem sz51 : szOf Try.prog 51 = some 1 := by kernel_rfl
@[simp] theorem by51 : byOf Try.prog 51 = some 8 := by kernel_rfl
@[simp] theorem ze51 : zeroOf Try.prog 51 = some [(.pointer none)] := by kernel_rfl
@[simp] theorem dk52 : descK Try.prog 52 = some .other := by kernel_rfl
@[simp] theorem sz52 : szOf Try.prog 52 = some 1 := by kernel_rfl
@[simp] theorem by52 : byOf Try.prog 52 = some 8 := by kernel_rfl
@[simp] theorem ze52 : zeroOf Try.prog 52 = some [(.nilFunc)] := by kernel_rfl
@[simp] theorem dk53 : descK Try.prog 53 = some .other := by kernel_rfl
@[simp] theorem sz53 : szOf Try.prog 53 = some 1 := by kernel_rfl
@[simp] theorem by53 : byOf Try.prog 53 = some 8 := by kernel_rfl
@[simp] theorem ze53 : zeroOf Try.prog 53 = some [(.nilFunc)] := by kernel_rfl
@[simp] theorem dk54 : descK Try.prog 54 = some .other := by kernel_rfl
@[simp] theorem sz54 : szOf Try.prog 54 = some 1 := by kernel_rfl
@[simp] theorem by54 : byOf Try.prog 54 = some 8 := by kernel_rfl
@[simp] theorem ze54 : zeroOf Try.prog 54 = some [(.nilFunc)] := by kernel_rfl
@[simp] theorem dk55 : descK Try.prog 55 = some .other := by kernel_rfl
@[simp] theorem sz55 : szOf Try.prog 55 = some 1 := by kernel_rfl
@[simp] theorem by55 : byOf Try.prog 55 = some 8 := by kernel_rfl
@[simp] theorem ze55 : zeroOf Try.prog 55 = some [(.pointer none)] := by kernel_rfl
@[simp] theorem dk56 : descK Try.prog 56 = some .other := by kernel_rfl
@[simp] theorem sz56 : szOf Try.prog 56 = some 1 := by kernel_rfl
@[simp] theorem by56 : byOf Try.prog 56 = some 8 := by kernel_rfl
@[simp] theorem ze56 : zeroOf Try.prog 56 = some [(.nilFunc)] := by kernel_rfl
@[simp] theorem dk57 : descK Try.prog 57 = some .other := by kernel_rfl
@[simp] theorem sz57 : szOf Try.prog 57 = some 1 := by kernel_rfl
@[simp] theorem by57 : byOf Try.prog 57 = some 8 := by kernel_rfl
@[simp] theorem ze57 : zeroOf Try.prog 57 = some [(.nilFunc)] := by kernel_rfl
@[simp] theorem dk58 : descK Try.prog 58 = some .other := by kernel_rfl
@[simp] theorem sz58 : szOf Try.prog 58 = some 1 := by kernel_rfl
@[simp] theorem by58 : byOf Try.prog 58 = some 8 := by kernel_rfl
@[simp] theorem ze58 : zeroOf Try.prog 58 = some [(.nilFunc)] := by kernel_rfl
@[simp] theorem dk59 : descK Try.prog 59 = some .other := by kernel_rfl
@[simp] theorem sz59 : szOf Try.prog 59 = some 1 := by kernel_rfl
@[simp] theorem by59 : byOf Try.prog 59 = some 8 := by kernel_rfl
@[simp] theorem ze59 : zeroOf Try.prog 59 = some [(.nilFunc)] := by kernel_rfl
@[simp] theorem dk60 : descK Try.prog 60 = some .other := by kernel_rfl
@[simp] theorem sz60 : szOf Try.prog 60 = some 1 := by kernel_rfl
@[simp] theorem by60 : byOf Try.prog 60 = some 8 := by kernel_rfl
@[simp] theorem ze60 : zeroOf Try.prog 60 = some [(.nilFunc)] := by kernel_rfl
@[simp] theorem dk61 : descK Try.prog 61 = some .other := by kernel_rfl
@[simp] theorem sz61 : szOf Try.prog 61 = some 1 := by kernel_rfl
@[simp] theorem by61 : byOf Try.prog 61 = some 8 := by kernel_rfl
@[simp] theorem ze61 : zeroOf Try.prog 61 = some [(.nilFunc)] := by kernel_rfl
@[simp] theorem dk62 : descK Try.prog 62 = some .other := by kernel_rfl
@[simp] theorem sz62 : szOf Try.prog 62 = some 1 := by kernel_rfl
@[simp] theorem by62 : byOf Try.prog 62 = some 8 := by kernel_rfl
@[simp] theorem ze62 : zeroOf Try.prog 62 = some [(.nilFunc)] := by kernel_rfl
@[simp] theorem dk63 : descK Try.prog 63 = some .other := by kernel_rfl
@[simp] theorem sz63 : szOf Try.prog 63 = some 1 := by kernel_rfl
@[simp] theorem by63 : byOf Try.prog 63 = some 8 := by kernel_rfl
@[simp] theorem ze63 : zeroOf Try.prog 63 = some [(.nilFunc)] := by kernel_rfl
@[simp] theorem dk64 : descK Try.prog 64 = some .other := by kernel_rfl
@[simp] theorem sz64 : szOf Try.prog 64 = some 1 := by kernel_rfl
@[simp] theorem by64 : byOf Try.prog 64 = some 8 := by kernel_rfl
@[simp] theorem ze64 : zeroOf Try.prog 64 = some [(.nilFunc)] := by kernel_rfl
@[simp] theorem dk65 : descK Try.prog 65 = some .other := by kernel_rfl
@[simp] theorem sz65 : szOf Try.prog 65 = some 1 := by kernel_rfl
@[simp] theorem by65 : byOf Try.prog 65 = some 8 := by kernel_rfl
@[simp] theorem ze65 : zeroOf Try.prog 65 = some [(.nilFunc)] := by kernel_rfl
@[simp] theorem dk66 : descK Try.prog 66 = some .other := by kernel_rfl
@[simp] theorem sz66 : szOf Try.prog 66 = some 1 := by kernel_rfl
@[simp] theorem by66 : byOf Try.prog 66 = some 8 := by kernel_rfl
@[simp] theorem ze66 : zeroOf Try.prog 66 = some [(.nilFunc)] := by kernel_rfl
@[simp] theorem dk67 : descK Try.prog 67 = some .other := by kernel_rfl
@[simp] theorem sz67 : szOf Try.prog 67 = some 1 := by kernel_rfl
@[simp] theorem by67 : byOf Try.prog 67 = some 8 := by kernel_rfl
@[simp] theorem ze67 : zeroOf Try.prog 67 = some [(.nilFunc)] := by kernel_rfl
@[simp] theorem dk68 : descK Try.prog 68 = some .other := by kernel_rfl
@[simp] theorem sz68 : szOf Try.prog 68 = some 1 := by kernel_rfl
@[simp] theorem by68 : byOf Try.prog 68 = some 8 := by kernel_rfl
@[simp] theorem ze68 : zeroOf Try.prog 68 = some [(.nilFunc)] := by kernel_rfl
@[simp] theorem dk69 : descK Try.prog 69 = some .other := by kernel_rfl
@[simp] theorem sz69 : szOf Try.prog 69 = some 1 := by kernel_rfl
@[simp] theorem by69 : byOf Try.prog 69 = some 8 := by kernel_rfl
@[simp] theorem ze69 : zeroOf Try.prog 69 = some [(.nilFunc)] := by kernel_rfl
@[simp] theorem dk70 : descK Try.prog 70 = some .other := by kernel_rfl
@[simp] theorem sz70 : szOf Try.prog 70 = some 1 := by kernel_rfl
@[simp] theorem by70 : byOf Try.prog 70 = some 8 := by kernel_rfl
@[simp] theorem ze70 : zeroOf Try.prog 70 = some [(.nilFunc)] := by kernel_rfl
@[simp] theorem dk71 : descK Try.prog 71 = some .other := by kernel_rfl
@[simp] theorem sz71 : szOf Try.prog 71 = some 1 := by kernel_rfl
@[simp] theorem by71 : byOf Try.prog 71 = some 8 := by kernel_rfl
@[simp] theorem ze71 : zeroOf Try.prog 71 = some [(.nilFunc)] := by kernel_rfl
@[simp] theorem dk72 : descK Try.prog 72 = some .other := by kernel_rfl
@[simp] theorem sz72 : szOf Try.prog 72 = some 1 := by kernel_rfl
@[simp] theorem by72 : byOf Try.prog 72 = some 8 := by kernel_rfl
@[simp] theorem ze72 : zeroOf Try.prog 72 = some [(.nilFunc)] := by kernel_rfl
@[simp] theorem dk73 : descK Try.prog 73 = some .other := by kernel_rfl
@[simp] theorem sz73 : szOf Try.prog 73 = some 1 := by kernel_rfl
@[simp] theorem by73 : byOf Try.prog 73 = some 8 := by kernel_rfl
@[simp] theorem ze73 : zeroOf Try.prog 73 = some [(.nilFunc)] := by kernel_rfl
@[simp] theorem dk74 : descK Try.prog 74 = some .other := by kernel_rfl
@[simp] theorem sz74 : szOf Try.prog 74 = some 1 := by kernel_rfl
@[simp] theorem by74 : byOf Try.prog 74 = some 8 := by kernel_rfl
@[simp] theorem ze74 : zeroOf Try.prog 74 = some [(.nilFunc)] := by kernel_rfl
@[simp] theorem dk75 : descK Try.prog 75 = some .other := by kernel_rfl
@[simp] theorem sz75 : szOf Try.prog 75 = some 1 := by kernel_rfl
@[simp] theorem by75 : byOf Try.prog 75 = some 8 := by kernel_rfl
@[simp] theorem ze75 : zeroOf Try.prog 75 = some [(.nilFunc)] := by kernel_rfl
@[simp] theorem dk76 : descK Try.prog 76 = some .other := by kernel_rfl
@[simp] theorem sz76 : szOf Try.prog 76 = some 1 := by kernel_rfl
@[simp] theorem by76 : byOf Try.prog 76 = some 8 := by kernel_rfl
@[simp] theorem ze76 : zeroOf Try.prog 76 = some [(.nilFunc)] := by kernel_rfl
@[simp] theorem dk77 : descK Try.prog 77 = some .other := by kernel_rfl
@[simp] theorem sz77 : szOf Try.prog 77 = some 1 := by kernel_rfl
@[simp] theorem by77 : byOf Try.prog 77 = some 8 := by kernel_rfl
@[simp] theorem ze77 : zeroOf Try.prog 77 = some [(.pointer none)] := by kernel_rfl
@[simp] theorem dk78 : descK Try.prog 78 = some .strct := by kernel_rfl
@[simp] theorem sz78 : szOf Try.prog 78 = some 4 := by kernel_rfl
@[simp] theorem by78 : byOf Try.prog 78 = some 48 := by kernel_rfl
@[simp] theorem ze78 : zeroOf Try.prog 78 = some [(.pointer none), (.slice none 0 0), (.int .i64 0), (.int .i64 0)] := by kernel_rfl
@[simp] theorem fd78_0 : fieldT Try.prog 78 0 = some (51, 0) := by kernel_rfl
@[simp] theorem fd78_1 : fieldT Try.prog 78 1 = some (24, 1) := by kernel_rfl
@[simp] theorem fd78_2 : fieldT Try.prog 78 2 = some (3, 2) := by kernel_rfl
@[simp] theorem fd78_3 : fieldT Try.prog 78 3 = some (3, 3) := by kernel_rfl
@[simp] theorem dk79 : descK Try.prog 79 = some .strct := by kernel_rfl
@[simp] theorem sz79 : szOf Try.prog 79 = some 4 := by kernel_rfl
@[simp] theorem by79 : byOf Try.prog 79 = some 48 := by kernel_rfl
@[simp] theorem ze79 : zeroOf Try.prog 79 = some [(.pointer none), (.slice none 0 0), (.int .i64 0), (.int .i64 0)] := by kernel_rfl
@[simp] theorem fd79_0 : fieldT Try.prog 79 0 = some (51, 0) := by kernel_rfl
@[simp] theorem fd79_1 : fieldT Try.prog 79 1 = some (24, 1) := by kernel_rfl
@[simp] theorem fd79_2 : fieldT Try.prog 79 2 = some (3, 2) := by kernel_rfl
@[simp] theorem fd79_3 : fieldT Try.prog 79 3 = some (3, 3) := by kernel_rfl
@[simp] theorem dk80 : descK Try.prog 80 = some .other := by kernel_rfl
@[simp] theorem sz80 : szOf Try.prog 80 = some 1 := by kernel_rfl
@[simp] theorem by80 : byOf Try.prog 80 = some 8 := by kernel_rfl
@[simp] theorem ze80 : zeroOf Try.prog 80 = some [(.nilFunc)] := by kernel_rfl
@[simp] theorem dk81 : descK Try.prog 81 = some .other := by kernel_rfl
@[simp] theorem sz81 : szOf Try.prog 81 = some 1 := by kernel_rfl
@[simp] theorem by81 : byOf Try.prog 81 = some 8 := by kernel_rfl
@[simp] theorem ze81 : zeroOf Try.prog 81 = some [(.nilFunc)] := by kernel_rfl
@[simp] theorem dk82 : descK Try.prog 82 = some .other := by kernel_rfl
@[simp] theorem sz82 : szOf Try.prog 82 = some 1 := by kernel_rfl
@[simp] theorem by82 : byOf Try.prog 82 = some 8 := by kernel_rfl
@[simp] theorem ze82 : zeroOf Try.prog 82 = some [(.nilFunc)] := by kernel_rfl
@[simp] theorem dk83 : descK Try.prog 83 = some .other := by kernel_rfl
@[simp] theorem sz83 : szOf Try.prog 83 = some 1 := by kernel_rfl
@[simp] theorem by83 : byOf Try.prog 83 = some 8 := by kernel_rfl
@[simp] theorem ze83 : zeroOf Try.prog 83 = some [(.nilFunc)] := by kernel_rfl
@[simp] theorem dk84 : descK Try.prog 84 = some .strct := by kernel_rfl
@[simp] theorem sz84 : szOf Try.prog 84 = some 2 := by kernel_rfl
@[simp] theorem by84 : byOf Try.prog 84 = some 16 := by kernel_rfl
@[simp] theorem ze84 : zeroOf Try.prog 84 = some [(.bool false), (.int .i64 0)] := by kernel_rfl
@[simp] theorem fd84_0 : fieldT Try.prog 84 0 = some (4, 0) := by kernel_rfl
@[simp] theorem fd84_1 : fieldT Try.prog 84 1 = some (3, 1) := by kernel_rfl
@[simp] theorem dk85 : descK Try.prog 85 = some .strct := by kernel_rfl
@[simp] theorem sz85 : szOf Try.prog 85 = some 2 := by kernel_rfl
@[simp] theorem by85 : byOf Try.prog 85 = some 16 := by kernel_rfl
@[simp] theorem ze85 : zeroOf Try.prog 85 = some [(.bool false), (.int .i64 0)] := by kernel_rfl
@[simp] theorem fd85_0 : fieldT Try.prog 85 0 = some (4, 0) := by kernel_rfl
@[simp] theorem fd85_1 : fieldT Try.prog 85 1 = some (3, 1) := by kernel_rfl
@[simp] theorem dk86 : descK Try.prog 86 = some .strct := by kernel_rfl
@[simp] theorem sz86 : szOf Try.prog 86 = some 5 := by kernel_rfl
@[simp] theorem by86 : byOf Try.prog 86 = some 56 := by kernel_rfl
@[simp] theorem ze86 : zeroOf Try.prog 86 = some [(.int .i64 0), (.int .i64 0), (.bool false), (.int .i64 0), (.slice none 0 0)] := by kernel_rfl
@[simp] theorem fd86_0 : fieldT Try.prog 86 0 = some (3, 0) := by kernel_rfl
@[simp] theorem fd86_1 : fieldT Try.prog 86 1 = some (3, 1) := by kernel_rfl
@[simp] theorem fd86_2 : fieldT Try.prog 86 2 = some (85, 2) := by kernel_rfl
@[simp] theorem fd86_3 : fieldT Try.prog 86 3 = some (23, 4) := by kernel_rfl
@[simp] theorem dk87 : descK Try.prog 87 = some .strct := by kernel_rfl
@[simp] theorem sz87 : szOf Try.prog 87 = some 5 := by kernel_rfl
@[simp] theorem by87 : byOf Try.prog 87 = some 56 := by kernel_rfl
@[simp] theorem ze87 : zeroOf Try.prog 87 = some [(.int .i64 0), (.int .i64 0), (.bool false), (.int .i64 0), (.slice none 0 0)] := by kernel_rfl
@[simp] theorem fd87_0 : fieldT Try.prog 87 0 = some (3, 0) := by kernel_rfl
@[simp] theorem fd87_1 : fieldT Try.prog 87 1 = some (3, 1) := by kernel_rfl
@[simp] theorem fd87_2 : fieldT Try.prog 87 2 = some (85, 2) := by kernel_rfl
@[simp] theorem fd87_3 : fieldT Try.prog 87 3 = some (23, 4) := by kernel_rfl
@[simp] theorem dk88 : descK Try.prog 88 = some .other := by kernel_rfl
@[simp] theorem sz88 : szOf Try.prog 88 = some 1 := by kernel_rfl
@[simp] theorem by88 : byOf Try.prog 88 = some 8 := by kernel_rfl
@[simp] theorem ze88 : zeroOf Try.prog 88 = some [(.nilFunc)] := by kernel_rfl
@[simp] theorem dk89 : descK Try.prog 89 = some .other := by kernel_rfl
@[simp] theorem sz89 : szOf Try.prog 89 = some 1 := by kernel_rfl
@[simp] theorem by89 : byOf Try.prog 89 = some 8 := by kernel_rfl
@[simp] theorem ze89 : zeroOf Try.prog 89 = some [(.nilFunc)] := by kernel_rfl
@[simp] theorem dk90 : descK Try.prog 90 = some .other := by kernel_rfl
@[simp] theorem sz90 : szOf Try.prog 90 = some 1 := by kernel_rfl
@[simp] theorem by90 : byOf Try.prog 90 = some 8 := by kernel_rfl
@[simp] theorem ze90 : zeroOf Try.prog 90 = some [(.nilFunc)] := by kernel_rfl
@[simp] theorem dk91 : descK Try.prog 91 = some .strct := by kernel_rfl
@[simp] theorem sz91 : szOf Try.prog 91 = some 2 := by kernel_rfl
@[simp] theorem by91 : byOf Try.prog 91 = some 32 := by kernel_rfl
@[simp] theorem ze91 : zeroOf Try.prog 91 = some [(.slice none 0 0), (.int .i64 0)] := by kernel_rfl
@[simp] theorem fd91_0 : fieldT Try.prog 91 0 = some (22, 0) := by kernel_rfl
@[simp] theorem fd91_1 : fieldT Try.prog 91 1 = some (3, 1) := by kernel_rfl
@[simp] theorem dk92 : descK Try.prog 92 = some .strct := by kernel_rfl
@[simp] theorem sz92 : szOf Try.prog 92 = some 2 := by kernel_rfl
@[simp] theorem by92 : byOf Try.prog 92 = some 32 := by kernel_rfl
@[simp] theorem ze92 : zeroOf Try.prog 92 = some [(.slice none 0 0), (.int .i64 0)] := by kernel_rfl
@[simp] theorem fd92_0 : fieldT Try.prog 92 0 = some (22, 0) := by kernel_rfl
@[simp] theorem fd92_1 : fieldT Try.prog 92 1 = some (3, 1) := by kernel_rfl
@[simp] theorem dk93 : descK Try.prog 93 = some .other := by kernel_rfl
@[simp] theorem sz93 : szOf Try.prog 93 = some 1 := by kernel_rfl
@[simp] theorem by93 : byOf Try.prog 93 = some 8 := by kernel_rfl
@[simp] theorem ze93 : zeroOf Try.prog 93 = some [(.nilFunc)] := by kernel_rfl
@[simp] theorem dk94 : descK Try.prog 94 = some .other := by kernel_rfl
@[simp] theorem sz94 : szOf Try.prog 94 = some 1 := by kernel_rfl
@[simp] theorem by94 : byOf Try.prog 94 = some 8 := by kernel_rfl
@[simp] theorem ze94 : zeroOf Try.prog 94 = some [(.nilFunc)] := by kernel_rfl
@[simp] theorem dk95 : descK Try.prog 95 = some .other := by kernel_rfl
@[simp] theorem sz95 : szOf Try.prog 95 = some 1 := by kernel_rfl
@[simp] theorem by95 : byOf Try.prog 95 = some 8 := by kernel_rfl
@[simp] theorem ze95 : zeroOf Try.prog 95 = some [(.nilFunc)] := by kernel_rfl
@[simp] theorem dk96 : descK Try.prog 96 = some .other := by kernel_rfl
@[simp] theorem sz96 : szOf Try.prog 96 = some 1 := by kernel_rfl
@[simp] theorem by96 : byOf Try.prog 96 = some 8 := by kernel_rfl
@[simp] theorem ze96 : zeroOf Try.prog 96 = some [(.nilFunc)] := by kernel_rfl
@[simp] theorem dk97 : descK Try.prog 97 = some .other := by kernel_rfl
@[simp] theorem sz97 : szOf Try.prog 97 = some 1 := by kernel_rfl
@[simp] theorem by97 : byOf Try.prog 97 = some 8 := by kernel_rfl
@[simp] theorem ze97 : zeroOf Try.prog 97 = some [(.pointer none)] := by kernel_rfl
@[simp] theorem dk98 : descK Try.prog 98 = some .other := by kernel_rfl
@[simp] theorem sz98 : szOf Try.prog 98 = some 1 := by kernel_rfl
@[simp] theorem by98 : byOf Try.prog 98 = some 8 := by kernel_rfl
@[simp] theorem ze98 : zeroOf Try.prog 98 = some [(.nilFunc)] := by kernel_rfl
@[simp] theorem dk99 : descK Try.prog 99 = some .other := by kernel_rfl
@[simp] theorem sz99 : szOf Try.prog 99 = some 1 := by kernel_rfl
@[simp] theorem by99 : byOf Try.prog 99 = some 8 := by kernel_rfl
@[simp] theorem ze99 : zeroOf Try.prog 99 = some [(.nilFunc)] := by kernel_rfl
@[simp] theorem dk100 : descK Try.prog 100 = some (.slice 55) := by kernel_rfl
@[simp] theorem sz100 : szOf Try.prog 100 = some 1 := by kernel_rfl
@[simp] theorem by100 : byOf Try.prog 100 = some 24 := by kernel_rfl
@[simp] theorem ze100 : zeroOf Try.prog 100 = some [(.slice none 0 0)] := by kernel_rfl
@[simp] theorem dk101 : descK Try.prog 101 = some .other := by kernel_rfl
@[simp] theorem sz101 : szOf Try.prog 101 = some 1 := by kernel_rfl
@[simp] theorem by101 : byOf Try.prog 101 = some 8 := by kernel_rfl
@[simp] theorem ze101 : zeroOf Try.prog 101 = some [(.nilFunc)] := by kernel_rfl
@[simp] theorem dk102 : descK Try.prog 102 = some .other := by kernel_rfl
@[simp] theorem sz102 : szOf Try.prog 102 = some 1 := by kernel_rfl
@[simp] theorem by102 : byOf Try.prog 102 = some 8 := by kernel_rfl
@[simp] theorem ze102 : zeroOf Try.prog 102 = some [(.nilFunc)] := by kernel_rfl
@[simp] theorem dk103 : descK Try.prog 103 = some .strct := by kernel_rfl
@[simp] theorem sz103 : szOf Try.prog 103 = some 2 := by kernel_rfl
@[simp] theorem by103 : byOf Try.prog 103 = some 16 := by kernel_rfl
@[simp] theorem ze103 : zeroOf Try.prog 103 = some [(.bool false), (.int .i64 0)] := by kernel_rfl
@[simp] theorem fd103_0 : fieldT Try.prog 103 0 = some (4, 0) := by kernel_rfl
@[simp] theorem fd103_1 : fieldT Try.prog 103 1 = some (3, 1) := by kernel_rfl
@[simp] theorem dk104 : descK Try.prog 104 = some .strct := by kernel_rfl
@[simp] theorem sz104 : szOf Try.prog 104 = some 5 := by kernel_rfl
@[simp] theorem by104 : byOf Try.prog 104 = some 56 := by kernel_rfl
@[simp] theorem ze104 : zeroOf Try.prog 104 = some [(.int .i64 0), (.int .i64 0), (.bool false), (.int .i64 0), (.slice none 0 0)] := by kernel_rfl
@[simp] theorem fd104_0 : fieldT Try.prog 104 0 = some (3, 0) := by kernel_rfl
@[simp] theorem fd104_1 : fieldT Try.prog 104 1 = some (3, 1) := by kernel_rfl
@[simp] theorem fd104_2 : fieldT Try.prog 104 2 = some (103, 2) := by kernel_rfl
@[simp] theorem fd104_3 : fieldT Try.prog 104 3 = some (39, 4) := by kernel_rfl
@[simp] theorem dk105 : descK Try.prog 105 = some .strct := by kernel_rfl
@[simp] theorem sz105 : szOf Try.prog 105 = some 5 := by kernel_rfl
@[simp] theorem by105 : byOf Try.prog 105 = some 56 := by kernel_rfl
@[simp] theorem ze105 : zeroOf Try.prog 105 = some [(.int .i64 0), (.int .i64 0), (.bool false), (.int .i64 0), (.slice none 0 0)] := by kernel_rfl
@[simp] theorem fd105_0 : fieldT Try.prog 105 0 = some (3, 0) := by kernel_rfl
@[simp] theorem fd105_1 : fieldT Try.prog 105 1 = some (3, 1) := by kernel_rfl
@[simp] theorem fd105_2 : fieldT Try.prog 105 2 = some (103, 2) := by kernel_rfl
@[simp] theorem fd105_3 : fieldT Try.prog 105 3 = some (39, 4) := by kernel_rfl
@[simp] theorem dk106 : descK Try.prog 106 = some .other := by kernel_rfl
@[simp] theorem sz106 : szOf Try.prog 106 = some 1 := by kernel_rfl
@[simp] theorem by106 : byOf Try.prog 106 = some 8 := by kernel_rfl
@[simp] theorem ze106 : zeroOf Try.prog 106 = some [(.nilFunc)] := by kernel_rfl
@[simp] theorem dk107 : descK Try.prog 107 = some .other := by kernel_rfl
@[simp] theorem sz107 : szOf Try.prog 107 = some 1 := by kernel_rfl
@[simp] theorem by107 : byOf Try.prog 107 = some 8 := by kernel_rfl
@[simp] theorem ze107 : zeroOf Try.prog 107 = some [(.nilFunc)] := by kernel_rfl
@[simp] theorem dk108 : descK Try.prog 108 = some .other := by kernel_rfl
@[simp] theorem sz108 : szOf Try.prog 108 = some 1 := by kernel_rfl
@[simp] theorem by108 : byOf Try.prog 108 = some 8 := by kernel_rfl
@[simp] theorem ze108 : zeroOf Try.prog 108 = some [(.nilFunc)] := by kernel_rfl
@[simp] theorem dk109 : descK Try.prog 109 = some .other := by kernel_rfl
@[simp] theorem sz109 : szOf Try.prog 109 = some 1 := by kernel_rfl
@[simp] theorem by109 : byOf Try.prog 109 = some 8 := by kernel_rfl
@[simp] theorem ze109 : zeroOf Try.prog 109 = some [(.nilFunc)] := by kernel_rfl
@[simp] theorem dk110 : descK Try.prog 110 = some .other := by kernel_rfl
@[simp] theorem sz110 : szOf Try.prog 110 = some 1 := by kernel_rfl
@[simp] theorem by110 : byOf Try.prog 110 = some 8 := by kernel_rfl
@[simp] theorem ze110 : zeroOf Try.prog 110 = some [(.nilFunc)] := by kernel_rfl
@[simp] theorem dk111 : descK Try.prog 111 = some .other := by kernel_rfl
@[simp] theorem sz111 : szOf Try.prog 111 = some 1 := by kernel_rfl
@[simp] theorem by111 : byOf Try.prog 111 = some 8 := by kernel_rfl
@[simp] theorem ze111 : zeroOf Try.prog 111 = some [(.nilFunc)] := by kernel_rfl
@[simp] theorem dk113 : descK Try.prog 113 = some .other := by kernel_rfl
@[simp] theorem sz113 : szOf Try.prog 113 = some 1 := by kernel_rfl
@[simp] theorem by113 : byOf Try.prog 113 = some 8 := by kernel_rfl
@[simp] theorem ze113 : zeroOf Try.prog 113 = some [(.nilFunc)] := by kernel_rfl
@[simp] theorem dk114 : descK Try.prog 114 = some (.array 2 3) := by kernel_rfl
@[simp] theorem sz114 : szOf Try.prog 114 = some 2 := by kernel_rfl
@[simp] theorem by114 : byOf Try.prog 114 = some 16 := by kernel_rfl
@[simp] theorem ze114 : zeroOf Try.prog 114 = some [(.int .i64 0), (.int .i64 0)] := by kernel_rfl
@[simp] theorem dk115 : descK Try.prog 115 = some .other := by kernel_rfl
@[simp] theorem sz115 : szOf Try.prog 115 = some 1 := by kernel_rfl
@[simp] theorem by115 : byOf Try.prog 115 = some 8 := by kernel_rfl
@[simp] theorem ze115 : zeroOf Try.prog 115 = some [(.nilFunc)] := by kernel_rfl
@[simp] theorem dk116 : descK Try.prog 116 = some (.slice 97) := by kernel_rfl
@[simp] theorem sz116 : szOf Try.prog 116 = some 1 := by kernel_rfl
@[simp] theorem by116 : byOf Try.prog 116 = some 24 := by kernel_rfl
@[simp] theorem ze116 : zeroOf Try.prog 116 = some [(.slice none 0 0)] := by kernel_rfl
@[simp] theorem dk117 : descK Try.prog 117 = some .other := by kernel_rfl
@[simp] theorem sz117 : szOf Try.prog 117 = some 1 := by kernel_rfl
@[simp] theorem by117 : byOf Try.prog 117 = some 8 := by kernel_rfl
@[simp] theorem ze117 : zeroOf Try.prog 117 = some [(.nilFunc)] := by kernel_rfl
@[simp] theorem dk118 : descK Try.prog 118 = some .other := by kernel_rfl
@[simp] theorem sz118 : szOf Try.prog 118 = some 1 := by kernel_rfl
@[simp] theorem by118 : byOf Try.prog 118 = some 8 := by kernel_rfl
@[simp] theorem ze118 : zeroOf Try.prog 118 = some [(.nilFunc)] := by kernel_rfl
@[simp] theorem dk119 : descK Try.prog 119 = some .other := by kernel_rfl
@[simp] theorem sz119 : szOf Try.prog 119 = some 1 := by kernel_rfl
@[simp] theorem by119 : byOf Try.prog 119 = some 8 := by kernel_rfl
@[simp] theorem ze119 : zeroOf Try.prog 119 = some [(.nilFunc)] := by kernel_rfl
@[simp] theorem dk120 : descK Try.prog 120 = some .other := by kernel_rfl
@[simp] theorem sz120 : szOf Try.prog 120 = some 1 := by kernel_rfl
@[simp] theorem by120 : byOf Try.prog 120 = some 8 := by kernel_rfl
@[simp] theorem ze120 : zeroOf Try.prog 120 = some [(.nilFunc)] := by kernel_rfl
@[simp] theorem dk121 : descK Try.prog 121 = some .other := by kernel_rfl
@[simp] theorem sz121 : szOf Try.prog 121 = some 1 := by kernel_rfl
@[simp] theorem by121 : byOf Try.prog 121 = some 8 := by kernel_rfl
@[simp] theorem ze121 : zeroOf Try.prog 121 = some [(.nilFunc)] := by kernel_rfl
@[simp] theorem dk122 : descK Try.prog 122 = some .other := by kernel_rfl
@[simp] theorem sz122 : szOf Try.prog 122 = some 1 := by kernel_rfl
@[simp] theorem by122 : byOf Try.prog 122 = some 8 := by kernel_rfl
@[simp] theorem ze122 : zeroOf Try.prog 122 = some [(.nilFunc)] := by kernel_rfl
@[simp] theorem dk123 : descK Try.prog 123 = some .other := by kernel_rfl
@[simp] theorem sz123 : szOf Try.prog 123 = some 1 := by kernel_rfl
@[simp] theorem by123 : byOf Try.prog 123 = some 8 := by kernel_rfl
@[simp] theorem ze123 : zeroOf Try.prog 123 = some [(.nilFunc)] := by kernel_rfl
@[simp] theorem dk124 : descK Try.prog 124 = some .other := by kernel_rfl
@[simp] theorem sz124 : szOf Try.prog 124 = some 1 := by kernel_rfl
@[simp] theorem by124 : byOf Try.prog 124 = some 8 := by kernel_rfl
@[simp] theorem ze124 : zeroOf Try.prog 124 = some [(.nilFunc)] := by kernel_rfl
@[simp] theorem dk125 : descK Try.prog 125 = some .other := by kernel_rfl
@[simp] theorem sz125 : szOf Try.prog 125 = some 1 := by kernel_rfl
@[simp] theorem by125 : byOf Try.prog 125 = some 8 := by kernel_rfl
@[simp] theorem ze125 : zeroOf Try.prog 125 = some [(.nilFunc)] := by kernel_rfl
@[simp] theorem dk126 : descK Try.prog 126 = some .strct := by kernel_rfl
@[simp] theorem sz126 : szOf Try.prog 126 = some 4 := by kernel_rfl
@[simp] theorem by126 : byOf Try.prog 126 = some 40 := by kernel_rfl
@[simp] theorem ze126 : zeroOf Try.prog 126 = some [(.pointer none), (.pointer none), (.pointer none), (.string ⟨#[]⟩)] := by kernel_rfl
@[simp] theorem fd126_0 : fieldT Try.prog 126 0 = some (17, 0) := by kernel_rfl
@[simp] theorem fd126_1 : fieldT Try.prog 126 1 = some (17, 1) := by kernel_rfl
@[simp] theorem fd126_2 : fieldT Try.prog 126 2 = some (17, 2) := by kernel_rfl
@[simp] theorem fd126_3 : fieldT Try.prog 126 3 = some (9, 3) := by kernel_rfl
@[simp] theorem dk127 : descK Try.prog 127 = some .strct := by kernel_rfl
@[simp] theorem sz127 : szOf Try.prog 127 = some 4 := by kernel_rfl
@[simp] theorem by127 : byOf Try.prog 127 = some 40 := by kernel_rfl
@[simp] theorem ze127 : zeroOf Try.prog 127 = some [(.pointer none), (.pointer none), (.pointer none), (.string ⟨#[]⟩)] := by kernel_rfl
@[simp] theorem fd127_0 : fieldT Try.prog 127 0 = some (17, 0) := by kernel_rfl
@[simp] theorem fd127_1 : fieldT Try.prog 127 1 = some (17, 1) := by kernel_rfl
@[simp] theorem fd127_2 : fieldT Try.prog 127 2 = some (17, 2) := by kernel_rfl
@[simp] theorem fd127_3 : fieldT Try.prog 127 3 = some (9, 3) := by kernel_rfl
@[simp] theorem dk128 : descK Try.prog 128 = some (.array 0 16) := by kernel_rfl
@[simp] theorem sz128 : szOf Try.prog 128 = some 0 := by kernel_rfl
@[simp] theorem by128 : byOf Try.prog 128 = some 0 := by kernel_rfl
@[simp] theorem ze128 : zeroOf Try.prog 128 = some [] := by kernel_rfl
@[simp] theorem dk129 : descK Try.prog 129 = some .strct := by kernel_rfl
@[simp] theorem sz129 : szOf Try.prog 129 = some 0 := by kernel_rfl
@[simp] theorem by129 : byOf Try.prog 129 = some 0 := by kernel_rfl
@[simp] theorem ze129 : zeroOf Try.prog 129 = some [] := by kernel_rfl
@[simp] theorem fd129_0 : fieldT Try.prog 129 0 = some (128, 0) := by kernel_rfl
@[simp] theorem dk130 : descK Try.prog 130 = some .strct := by kernel_rfl
@[simp] theorem sz130 : szOf Try.prog 130 = some 0 := by kernel_rfl
@[simp] theorem by130 : byOf Try.prog 130 = some 0 := by kernel_rfl
@[simp] theorem ze130 : zeroOf Try.prog 130 = some [] := by kernel_rfl
@[simp] theorem fd130_0 : fieldT Try.prog 130 0 = some (128, 0) := by kernel_rfl
@[simp] theorem dk131 : descK Try.prog 131 = some (.int .u32) := by kernel_rfl
@[simp] theorem sz131 : szOf Try.prog 131 = some 1 := by kernel_rfl
@[simp] theorem by131 : byOf Try.prog 131 = some 4 := by kernel_rfl
@[simp] theorem ze131 : zeroOf Try.prog 131 = some [(.int .u32 0)] := by kernel_rfl
@[simp] theorem dk132 : descK Try.prog 132 = some (.int .u8) := by kernel_rfl
@[simp] theorem sz132 : szOf Try.prog 132 = some 1 := by kernel_rfl
@[simp] theorem by132 : byOf Try.prog 132 = some 1 := by kernel_rfl
@[simp] theorem ze132 : zeroOf Try.prog 132 = some [(.int .u8 0)] := by kernel_rfl
@[simp] theorem dk133 : descK Try.prog 133 = some (.int .u8) := by kernel_rfl
@[simp] theorem sz133 : szOf Try.prog 133 = some 1 := by kernel_rfl
@[simp] theorem by133 : byOf Try.prog 133 = some 1 := by kernel_rfl
@[simp] theorem ze133 : zeroOf Try.prog 133 = some [(.int .u8 0)] := by kernel_rfl
@[simp] theorem dk134 : descK Try.prog 134 = some .other := by kernel_rfl
@[simp] theorem sz134 : szOf Try.prog 134 = some 1 := by kernel_rfl
@[simp] theorem by134 : byOf Try.prog 134 = some 8 := by kernel_rfl
@[simp] theorem ze134 : zeroOf Try.prog 134 = some [(.nilFunc)] := by kernel_rfl
@[simp] theorem dk135 : descK Try.prog 135 = some .other := by kernel_rfl
@[simp] theorem sz135 : szOf Try.prog 135 = some 1 := by kernel_rfl
@[simp] theorem by135 : byOf Try.prog 135 = some 8 := by kernel_rfl
@[simp] theorem ze135 : zeroOf Try.prog 135 = some [(.pointer none)] := by kernel_rfl
@[simp] theorem dk136 : descK Try.prog 136 = some (.int .i32) := by kernel_rfl
@[simp] theorem sz136 : szOf Try.prog 136 = some 1 := by kernel_rfl
@[simp] theorem by136 : byOf Try.prog 136 = some 4 := by kernel_rfl
@[simp] theorem ze136 : zeroOf Try.prog 136 = some [(.int .i32 0)] := by kernel_rfl
@[simp] theorem dk137 : descK Try.prog 137 = some (.int .i32) := by kernel_rfl
@[simp] theorem sz137 : szOf Try.prog 137 = some 1 := by kernel_rfl
@[simp] theorem by137 : byOf Try.prog 137 = some 4 := by kernel_rfl
@[simp] theorem ze137 : zeroOf Try.prog 137 = some [(.int .i32 0)] := by kernel_rfl
@[simp] theorem dk138 : descK Try.prog 138 = some .strct := by kernel_rfl
@[simp] theorem sz138 : szOf Try.prog 138 = some 11 := by kernel_rfl
@[simp] theorem by138 : byOf Try.prog 138 = some 48 := by kernel_rfl
@[simp] theorem ze138 : zeroOf Try.prog 138 = some [(.int .u64 0), (.int .u64 0), (.int .u32 0), (.int .u8 0), (.int .u8 0), (.int .u8 0), (.int .u8 0), (.nilFunc), (.pointer none), (.int .i32 0), (.int .i32 0)] := by kernel_rfl
@[simp] theorem fd138_0 : fieldT Try.prog 138 0 = some (12, 0) := by kernel_rfl
@[simp] theorem fd138_1 : fieldT Try.prog 138 1 = some (12, 1) := by kernel_rfl
@[simp] theorem fd138_2 : fieldT Try.prog 138 2 = some (131, 2) := by kernel_rfl
@[simp] theorem fd138_3 : fieldT Try.prog 138 3 = some (132, 3) := by kernel_rfl
@[simp] theorem fd138_4 : fieldT Try.prog 138 4 = some (5, 4) := by kernel_rfl
@[simp] theorem fd138_5 : fieldT Try.prog 138 5 = some (5, 5) := by kernel_rfl
@[simp] theorem fd138_6 : fieldT Try.prog 138 6 = some (133, 6) := by kernel_rfl
@[simp] theorem fd138_7 : fieldT Try.prog 138 7 = some (134, 7) := by kernel_rfl
@[simp] theorem fd138_8 : fieldT Try.prog 138 8 = some (135, 8) := by kernel_rfl
@[simp] theorem fd138_9 : fieldT Try.prog 138 9 = some (136, 9) := by kernel_rfl
@[simp] theorem fd138_10 : fieldT Try.prog 138 10 = some (137, 10) := by kernel_rfl
@[simp] theorem dk139 : descK Try.prog 139 = some .strct := by kernel_rfl
@[simp] theorem sz139 : szOf Try.prog 139 = some 11 := by kernel_rfl
@[simp] theorem by139 : byOf Try.prog 139 = some 48 := by kernel_rfl
@[simp] theorem ze139 : zeroOf Try.prog 139 = some [(.int .u64 0), (.int .u64 0), (.int .u32 0), (.int .u8 0), (.int .u8 0), (.int .u8 0), (.int .u8 0), (.nilFunc), (.pointer none), (.int .i32 0), (.int .i32 0)] := by kernel_rfl
@[simp] theorem fd139_0 : fieldT Try.prog 139 0 = some (12, 0) := by kernel_rfl
@[simp] theorem fd139_1 : fieldT Try.prog 139 1 = some (12, 1) := by kernel_rfl
@[simp] theorem fd139_2 : fieldT Try.prog 139 2 = some (131, 2) := by kernel_rfl
@[simp] theorem fd139_3 : fieldT Try.prog 139 3 = some (132, 3) := by kernel_rfl
@[simp] theorem fd139_4 : fieldT Try.prog 139 4 = some (5, 4) := by kernel_rfl
@[simp] theorem fd139_5 : fieldT Try.prog 139 5 = some (5, 5) := by kernel_rfl
@[simp] theorem fd139_6 : fieldT Try.prog 139 6 = some (133, 6) := by kernel_rfl
@[simp] theorem fd139_7 : fieldT Try.prog 139 7 = some (134, 7) := by kernel_rfl
@[simp] theorem fd139_8 : fieldT Try.prog 139 8 = some (135, 8) := by kernel_rfl
@[simp] theorem fd139_9 : fieldT Try.prog 139 9 = some (136, 9) := by kernel_rfl
@[simp] theorem fd139_10 : fieldT Try.prog 139 10 = some (137, 10) := by kernel_rfl
@[simp] theorem dk140 : descK Try.prog 140 = some .other := by kernel_rfl
end Go.Proofs.Yteihcffblfdgfaa

/- The executor is right for this program. No condition. -/
namespace Go.Proofs.Yteihcffblfdgfaa
open Go Go.Av
set_option maxHeartbeats 2000000
theorem ft : fieldTest Try.prog = true := by kernel_rfl
theorem nt : fnTest Try.prog = true := by kernel_rfl
theorem mo : Try.prog.follows .mixedOrders = true := by kernel_rfl
theorem eqS : ∀ t, eqTy t = true → eqTest Try.prog t = true := by
  intro t h
  unfold eqTy at h
  split at h
  · kernel_rfl
  · kernel_rfl
  · kernel_rfl
  · cases h
end Go.Proofs.Yteihcffblfdgfaa

/- The executor's context, opened for simplification. No condition. -/
namespace Go.Proofs.Yteihcffblfdgfaa
open Go Go.Av
@[simp] theorem C_P : C0.P = Try.prog := (rfl)
@[simp] theorem C_G (f) : C0.G f = GS f := (rfl)
@[simp] theorem C_o (f) : C0.ownArgs f = ownA f := (rfl)
@[simp] theorem C_k (f) : C0.keepRes f = keepR f := (rfl)
@[simp] theorem C_e (f) : C0.eqT f = eqTy f := (rfl)
@[simp] theorem C_t : C0.tree = false := (rfl)
theorem bytesI_get : ∀ {l : List UInt8} {j : Nat}, j < l.length → ∃ x : Nat, x < 256 ∧ nthE (bytesI l) j = some [.lit (.int .u8 x)]
  | [], j, h => by simp at h
  | b :: l, 0, _ => ⟨b.toNat, b.toNat_lt, by simp [bytesI, nthE]⟩
  | b :: l, j + 1, h => by
    obtain ⟨x, h1, h2⟩ := bytesI_get (l := l) (j := j) (by simpa using h)
    exact ⟨x, h1, by simpa [bytesI, nthE] using h2⟩
theorem bytesI_length : ∀ (l : List UInt8), (bytesI l).length = l.length
  | [] => rfl
  | _ :: l => by simp [bytesI, bytesI_length l]
theorem wrap64 {x : Int} (h1 : -9223372036854775808 ≤ x) (h2 : x < 9223372036854775808) : IntKind.i64.wrap x = x := by
  unfold IntKind.wrap
  simp [IntKind.signed, IntKind.bits]
  omega
/-- A reader of bytes at a place. -/
abbrev Rd (l : List UInt8) (p : Int) : Option Blk := some (.box [.i (.isl (bytesI l)), .int p])
end Go.Proofs.Yteihcffblfdgfaa

/- The reader. No condition. -/
namespace Go.Proofs.Yteihcffblfdgfaa
open Go Go.Av
set_option maxHeartbeats 4000000
set_option maxRecDepth 4000
theorem xor64 {S : Int} (h0 : 0 ≤ S) (h1 : S < 4611686018427387904) : 0 ≤ IntKind.i64.wrap ((((S % 2 ^ IntKind.i64.bits).toNat ^^^ (IntKind.i64.wrap (S.tdiv 64) % 2 ^ IntKind.i64.bits).toNat : Nat)) : Int) := by
  have e1 : 0 ≤ S.tdiv 64 := Int.tdiv_nonneg h0 (by omega)
  have e2 : S.tdiv 64 ≤ S := Int.tdiv_le_self _ h0
  have e3 : IntKind.i64.wrap (S.tdiv 64) = S.tdiv 64 := wrap64 (by omega) (by omega)
  have e4 : ∀ T : Int, 0 ≤ T → T < 4611686018427387904 → (T % 2 ^ IntKind.i64.bits).toNat < 2 ^ 62 := fun T k1 k2 => by
    have : T % 2 ^ IntKind.i64.bits = T := Int.emod_eq_of_lt k1 (by simp [IntKind.bits]; omega)
    rw [this]; omega
  rw [e3]
  have := Nat.xor_lt_two_pow (e4 S h0 h1) (e4 (S.tdiv 64) e1 (by omega))
  rw [wrap64 (by omega) (by omega)]
  omega
theorem pick_eq (l : List UInt8) (p n : Int) (h0 : 0 ≤ p) (h1 : p < 1000000000) (hl : l.length ≤ 2000) : ∃ v, callA C0 59 [.own 0 0, .int n] [Rd l p] = some (.int v, [Rd l (p + 1)]) ∧ (1 ≤ n → 0 ≤ v ∧ v < n) ∧ (n < 1 → v = 0) := by
  have hw : IntKind.i64.wrap (p + 1) = p + 1 := wrap64 (by omega) (by omega)
  have hw' : IntKind.i64.wrap p = p := wrap64 (by omega) (by omega)
  by_cases hn : n < 1
  · refine ⟨0, ?_, by omega, fun _ => rfl⟩
    rw [callA_eq rfl Try.func59 rfl rfl]
    simp [Rd, hw, hn]
  by_cases he : l = []
  · refine ⟨0, ?_, by omega, fun _ => rfl⟩
    rw [callA_eq rfl Try.func59 rfl rfl]
    subst he
    simp [Rd, hw, hn]
  have hlen : 0 < l.length := List.length_pos_iff.2 he
  have hn0 : n ≠ 0 := by omega
  have hn1 : (n != 0) = true := by simp [hn0]
  by_cases hk : p < l.length
  · obtain ⟨x, hx1, hx2⟩ := bytesI_get (l := l) (j := p.toNat) (by omega)
    have hwx : IntKind.i64.wrap (x : Int) = x := wrap64 (by omega) (by omega)
    refine ⟨(x : Int).tmod n, ?_, fun _ => ⟨Int.tmod_nonneg _ (by omega), Int.tmod_lt_of_pos _ (by omega)⟩, by omega⟩
    rw [callA_eq rfl Try.func59 rfl rfl]
    simp [Rd, hw, hw', hn, hk, he, h0, bytesI_length, hx2, hn1, hwx]
  · obtain ⟨x, hx1, hx2⟩ := bytesI_get (l := l) (j := (p.tmod l.length).toNat) (by have := Int.tmod_lt_of_pos p (b := l.length) (by omega); omega)
    obtain ⟨y, hy1, hy2⟩ := bytesI_get (l := l) (j := ((p * 7 + 3).tmod l.length).toNat) (by have := Int.tmod_lt_of_pos (p * 7 + 3) (b := l.length) (by omega); omega)
    have a1 : 0 ≤ p.tmod l.length := Int.tmod_nonneg _ h0
    have a2 : p.tmod l.length < l.length := Int.tmod_lt_of_pos _ (by omega)
    have a3 : 0 ≤ (p * 7 + 3).tmod l.length := Int.tmod_nonneg _ (by omega)
    have a4 : (p * 7 + 3).tmod l.length < l.length := Int.tmod_lt_of_pos _ (by omega)
    have w7 : IntKind.i64.wrap (p * 7) = p * 7 := wrap64 (by omega) (by omega)
    have w8 : IntKind.i64.wrap (p * 7 + 3) = p * 7 + 3 := wrap64 (by omega) (by omega)
    have hwx : IntKind.i64.wrap (x : Int) = x := wrap64 (by omega) (by omega)
    have hwy : IntKind.i64.wrap (y : Int) = y := wrap64 (by omega) (by omega)
    have hl1 : ((l.length : Int) != 0) = true := by simp [he]
    rw [callA_eq rfl Try.func59 rfl rfl]
    have d1 : 0 ≤ p.tdiv l.length := Int.tdiv_nonneg h0 (by omega)
    have d2 : p.tdiv l.length ≤ p := Int.tdiv_le_self _ h0
    have w1 : IntKind.i64.wrap ((x : Int) * 131) = x * 131 := wrap64 (by omega) (by omega)
    have w2 : IntKind.i64.wrap ((y : Int) * 1117) = y * 1117 := wrap64 (by omega) (by omega)
    have w3 : IntKind.i64.wrap (p * 29) = p * 29 := wrap64 (by omega) (by omega)
    have w4 : IntKind.i64.wrap (p.tdiv l.length) = p.tdiv l.length := wrap64 (by omega) (by omega)
    have w5 : IntKind.i64.wrap (p.tdiv l.length * 53) = p.tdiv l.length * 53 := wrap64 (by omega) (by omega)
    have w6 : IntKind.i64.wrap ((x : Int) * 131 + y * 1117) = x * 131 + y * 1117 := wrap64 (by omega) (by omega)
    have w9 : IntKind.i64.wrap ((x : Int) * 131 + y * 1117 + p * 29) = x * 131 + y * 1117 + p * 29 := wrap64 (by omega) (by omega)
    have wA : IntKind.i64.wrap ((x : Int) * 131 + y * 1117 + p * 29 + p.tdiv l.length * 53) = x * 131 + y * 1117 + p * 29 + p.tdiv l.length * 53 := wrap64 (by omega) (by omega)
    simp [Rd, hw, hw', hn, hk, he, bytesI_length, hx2, hy2, hn1, hwx, hwy, w7, w8, hl1, a1, a2, a3, a4, w1, w2, w3, w4, w5, w6, w9, wA]
    intro hn2
    have hx := xor64 (S := x * 131 + y * 1117 + p * 29 + p.tdiv l.length * 53) (by omega) (by omega)
    exact ⟨Int.tmod_nonneg _ hx, Int.tmod_lt_of_pos _ (by omega)⟩
end Go.Proofs.Yteihcffblfdgfaa

/- The small functions on kinds, widths and values. No condition. -/
namespace Go.Proofs.Yteihcffblfdgfaa
open Go Go.Av
set_option maxRecDepth 4000
theorem kidsCases (n : Int) : n = 1 ∨ n = 2 ∨ n = 3 ∨ n = 4 ∨ n = 5 ∨ n = 6 ∨ n = 7 ∨ n = 8 ∨ n = 9 ∨ n = 10 ∨ n = 11 ∨ (n ≠ 1 ∧ n ≠ 2 ∧ n ≠ 3 ∧ n ≠ 4 ∧ n ≠ 5 ∧ n ≠ 6 ∧ n ≠ 7 ∧ n ≠ 8 ∧ n ≠ 9 ∧ n ≠ 10 ∧ n ≠ 11) := by omega
@[simp] theorem kidsOfKind_eq (n : Int) : callA C0 104 [.int n] [] = some (.int (kidsK n), []) := by
  rw [callA_eq rfl Try.func104 rfl rfl]
  rcases kidsCases n with rfl | rfl | rfl | rfl | rfl | rfl | rfl | rfl | rfl | rfl | rfl | ⟨h1, h2, h3, h4, h5, h6, h7, h8, h9, h10, h11⟩
  all_goals first
    | (simp [kidsK]; done)
    | (have e : kidsK n = -1 := by
        unfold kidsK
        rw [if_neg (by omega), if_neg (by omega), if_neg (by omega)]
       simp [e, h1, h2, h3, h4, h5, h6, h7, h8, h9, h10, h11])
@[simp] theorem kidsOf_eq (n : Int) : callA C0 98 [.int n] [] = some (.int (kidsK n), []) := by
  rw [callA_eq rfl Try.func98 rfl rfl]
  rcases kidsCases n with rfl | rfl | rfl | rfl | rfl | rfl | rfl | rfl | rfl | rfl | rfl | ⟨h1, h2, h3, h4, h5, h6, h7, h8, h9, h10, h11⟩
  all_goals first
    | (simp [kidsK]; done)
    | (have e : kidsK n = -1 := by
        unfold kidsK
        rw [if_neg (by omega), if_neg (by omega), if_neg (by omega)]
       simp [e, h1, h2, h3, h4, h5, h6, h7, h8, h9, h10, h11])
@[simp] theorem validWidth_eq (n : Int) : callA C0 90 [.int n] [] = some (.bool (okWidth n), []) := by
  rw [callA_eq rfl Try.func90 rfl rfl]
  by_cases h1 : 1 ≤ n <;> by_cases h2 : n ≤ 6 <;> simp [okWidth, h1, h2]
@[simp] theorem inRange_eq (n a b : Int) : callA C0 73 [.int n, .int a, .int b] [] = some (.bool (decide (a ≤ n ∧ n ≤ b)), []) := by
  rw [callA_eq rfl Try.func73 rfl rfl]
  by_cases h1 : a ≤ n <;> by_cases h2 : n ≤ b <;> simp [h1, h2]
@[simp] theorem valid_eq (b : Bool) (n : Int) : callA C0 105 [.i (.agg [.bool b, .int n])] [] = some (.bool (Val.ok ⟨b, n⟩), []) := by
  rw [callA_eq rfl Try.func105 rfl rfl]
  cases b
  · by_cases h1 : -9999 ≤ n <;> by_cases h2 : n ≤ 9999 <;> simp [Val.ok, h1, h2]
  · by_cases h1 : n = 0 <;> simp [Val.ok, h1]
@[simp] theorem validValue_eq (b : Bool) (n : Int) : callA C0 102 [.i (.agg [.bool b, .int n])] [] = some (.bool (Val.ok ⟨b, n⟩), []) := by
  rw [callA_eq rfl Try.func102 rfl rfl]
  cases b
  · by_cases h1 : -9999 ≤ n <;> by_cases h2 : n ≤ 9999 <;> simp [Val.ok, h1, h2]
  · by_cases h1 : n = 0
    · subst h1; simp [Val.ok]
    · by_cases h2 : -9999 ≤ n <;> by_cases h3 : n ≤ 9999 <;> simp [Val.ok, h1, h2, h3]
@[simp] theorem constant_eq (v : Val) : callA C0 96 [.i (.agg [.bool v.null, .int v.n])] [] = some (.i (.agg (Ex.mk 2 0 v []).cells), []) := by
  rw [callA_eq rfl Try.func96 rfl rfl]
  simp [Ex.cells, Ex.cellsL]
end Go.Proofs.Yteihcffblfdgfaa

/- Valid expressions. No condition. -/
namespace Go.Proofs.Yteihcffblfdgfaa
open Go Go.Av
set_option maxRecDepth 4000
theorem vb_len {e : Ex} {w : Int} (n : Nat) (hk : ¬ (e.kids.length : Int) = kidsK e.kind) : callA C0 103 [.i (.iref e.cells), .int w, .int n] [] = some (.bool false, []) := by
  rw [callA_eq rfl Try.func103 rfl rfl, Ex.cells_eq]
  simp [Ex.cellsL_length, hk]
theorem vb_deep {e : Ex} {w : Int} (hk : (e.kids.length : Int) = kidsK e.kind) (hz : 0 < kidsK e.kind) : callA C0 103 [.i (.iref e.cells), .int w, .int 0] [] = some (.bool false, []) := by
  rw [callA_eq rfl Try.func103 rfl rfl, Ex.cells_eq]
  simp [Ex.cellsL_length, hk, hz]
theorem vb_head {e : Ex} {w : Int} (n : Nat) (hk : (e.kids.length : Int) = kidsK e.kind) (hz : 0 < kidsK e.kind → n ≠ 0) (hh : e.headOk w = false) :
    callA C0 103 [.i (.iref e.cells), .int w, .int n] [] = some (.bool false, []) := by
  rw [callA_eq rfl Try.func103 rfl rfl, Ex.cells_eq]
  unfold Ex.headOk at hh
  by_cases h1 : e.kind = 1
  · rw [h1] at hz hk; simp [h1, kidsK] at hh hk
    by_cases h2 : 0 ≤ e.col
    · by_cases h3 : e.col < w
      · cases h4 : e.val.null with
        | true => simp [Ex.cellsL_length, hk, h1, Int.not_lt.2 h2, Int.not_le.2 h3, h4, kidsK]
        | false => simp [Ex.cellsL_length, hk, h1, Int.not_lt.2 h2, Int.not_le.2 h3, h4, hh h2 h3 h4, kidsK]
      · simp [Ex.cellsL_length, hk, h1, Int.not_lt.2 h2, Int.not_lt.1 h3, kidsK]
    · simp [Ex.cellsL_length, hk, h1, Int.not_le.1 h2, kidsK]
  · by_cases h2 : e.kind = 2
    · rw [h2] at hz hk; simp [h2, kidsK] at hh hk
      by_cases h3 : e.col = 0
      · have h4 : Val.ok ⟨e.val.null, e.val.n⟩ = false := hh h3
        simp [Ex.cellsL_length, hk, h2, h3, h4, kidsK]
      · simp [Ex.cellsL_length, hk, h2, h3, kidsK]
    · simp [h1, h2] at hh
      by_cases h0 : 0 < kidsK e.kind
      · have hn := hz h0
        by_cases h3 : e.col = 0
        · cases h4 : e.val.null with
          | true => simp [Ex.cellsL_length, hk, h1, h2, h3, h4, h0, hn, hz h0]
          | false => simp [Ex.cellsL_length, hk, h1, h2, h3, h4, hh h3 h4, h0, hn, hz h0]
        · simp [Ex.cellsL_length, hk, h1, h2, h3, h0, hn, hz h0]
      · by_cases h3 : e.col = 0
        · cases h4 : e.val.null with
          | true => simp [Ex.cellsL_length, hk, h1, h2, h3, h4, h0]
          | false => simp [Ex.cellsL_length, hk, h1, h2, h3, h4, hh h3 h4, h0]
        · simp [Ex.cellsL_length, hk, h1, h2, h3, h0]
def VX (e : Ex) (w n : Int) (i : Nat) : AS :=
  { env := [(0, .i (.iref [.int e.kind, .int 0, .bool false, .int 0, .isl (Ex.cellsL e.kids)])), (1, .int w), (2, .int n), (6, .bool false), (7, .int (kidsK e.kind)), (8, jk i (.int (i - 1))), (28, .bool (n == 0)), (62, .bool false), (90, .bool false), (95, .int (kidsK e.kind)), (96, .int i), (97, jk i (.bool true)), (109, jk i (.bool false))], st := [] }
theorem vb_go {e : Ex} {w : Int} (n : Nat) (hn : n ≤ 8) (hk : (e.kids.length : Int) = kidsK e.kind) (hz : 0 < kidsK e.kind → n ≠ 0) (hh : e.headOk w = true) (ih : ∀ k ∈ e.kids, 0 < kidsK e.kind → callA C0 103 [.i (.iref k.cells), .int w, .int ((n : Int) - 1)] [] = some (.bool (Ex.vB w (n - 1) k), [])) :
    callA C0 103 [.i (.iref e.cells), .int w, .int n] [] = some (.bool (e.kids.all (Ex.vB w (n - 1))), []) := by
  rw [callA_eq rfl Try.func103 rfl rfl, Ex.cells_eq]
  rcases Ex.head_cases w e with h | ⟨-, ⟨hA, hB, hC, hD, hE, hF⟩ | ⟨hA, hB, hC, hD, hE, hF⟩ | ⟨hA, hB, hC, hD, hE, hF⟩⟩
  · simp [h] at hh
  · have h2 : e.kids = [] := by rw [hF] at hk; simpa using hk
    simp [h2, Ex.cellsL, hA, hD, hE, Int.not_lt.2 hB, Int.not_le.2 hC, kidsK]
    rw [execA_loop]
    simp
  · have h2 : e.kids = [] := by rw [hF] at hk; simpa using hk
    simp [h2, Ex.cellsL, hA, hB, hC, kidsK]
    rw [execA_loop]
    simp
  · by_cases h0 : 0 < kidsK e.kind
    · have hn := hz h0
      simp [Ex.cellsL_length, hk, hA, hB, hC, hD, hE, h0, hn, hz h0]
      obtain ⟨j, h1, h2⟩ := upto_bad (Ex.vB w (n - 1)) e.kids
      have w1 : IntKind.i64.wrap ((n : Int) - 1) = n - 1 := wrap64 (by omega) (by omega)
      have rd : ∀ (i : Nat) (k : Ex), e.kids[i]? = some k → k ∈ e.kids → i < e.kids.length ∧ nthE (Ex.cellsL e.kids) i = some k.cells ∧ callA C0 103 [.i (.iref k.cells), .int w, .int ((n : Int) - 1)] [] = some (.bool (Ex.vB w (n - 1) k), []) :=
        fun i k a b => ⟨(List.getElem?_eq_some_iff.1 a).1, Ex.cellsL_nth a, ih k b h0⟩
      have hlen : e.kids.length ≤ 2 := by have : kidsK e.kind ≤ 2 := by
                                            unfold kidsK; split; · omega
                                            split; · omega
                                            split <;> omega
                                          omega
      rw [loop_to (VX e w n) j (by simp [VX])]
      · rw [execA_loop]
        rcases h2 with ⟨hj, ha⟩ | ⟨k, h3, h4, h5, ha⟩
        · have l1 : ¬ ((j : Int) < kidsK e.kind) := by omega
          simp [VX, l1, ha]
        · obtain ⟨r1, r2, r3⟩ := rd j k h3 h4
          have l1 : (j : Int) < kidsK e.kind := by omega
          rw [Ex.cells_eq] at r2 r3
          simp [VX, l1, r1, ha, r2, r3, w1, h5]
      · intro i hi
        obtain ⟨k, h3, h4, h5⟩ := h1 i hi
        obtain ⟨r1, r2, r3⟩ := rd i k h3 h4
        have l1 : (i : Int) < kidsK e.kind := by omega
        have w2 : IntKind.i64.wrap ((i : Int) + 1) = i + 1 := wrap64 (by omega) (by omega)
        rw [Ex.cells_eq] at r2 r3
        simp [VX, l1, r1, r2, r3, w1, w2, h5]
    · have h2 : e.kids = [] := by cases h : e.kids with
        | nil => rfl
        | cons a l => rw [h] at hk; simp at hk; omega
      rw [h2] at hk
      simp at hk
      simp [h2, Ex.cellsL, hA, hB, hC, hD, hE, ← hk]
      rw [execA_loop]
      simp
@[simp] theorem validBelow_eq {w : Int} : ∀ (n : Nat) (e : Ex), n ≤ 8 → callA C0 103 [.i (.iref e.cells), .int w, .int n] [] = some (.bool (Ex.vB w n e), [])
  | 0, e, hn => by
    by_cases hk : (e.kids.length : Int) = kidsK e.kind
    · by_cases hz : 0 < kidsK e.kind
      · rw [show ((0 : Nat) : Int) = 0 from rfl, vb_deep hk hz]
        simp [Ex.vB, Int.not_le.2 hz]
      · cases hh : e.headOk w with
        | false => rw [vb_head 0 hk (fun h => absurd h hz) hh]; simp [Ex.vB, hh]
        | true =>
          rw [vb_go 0 hn hk (fun h => absurd h hz) hh (fun k _ h => absurd h hz)]
          have : e.kids = [] := by cases h : e.kids with
            | nil => rfl
            | cons a l => rw [h] at hk; simp at hk; omega
          have h3 : kidsK e.kind = 0 := by rw [this] at hk; simpa using hk.symm
          simp [Ex.vB, hh, h3, this]
    · rw [vb_len 0 hk]; simp [Ex.vB, hk]
  | n + 1, e, hn => by
    by_cases hk : (e.kids.length : Int) = kidsK e.kind
    · cases hh : e.headOk w with
      | false => rw [vb_head (n + 1) hk (fun _ => by omega) hh]; simp [Ex.vB, hh]
      | true =>
        rw [vb_go (n + 1) hn hk (fun _ => by omega) hh (fun k _ _ => by
          have := validBelow_eq (w := w) n k (by omega)
          rw [show (((n + 1 : Nat) : Int) - 1) = (n : Int) by omega]
          exact this)]
        simp [Ex.vB, hh, hk]
    · rw [vb_len (n + 1) hk]; simp [Ex.vB, hk]
end Go.Proofs.Yteihcffblfdgfaa

/- Valid expressions, as the reference has them. No condition. -/
namespace Go.Proofs.Yteihcffblfdgfaa
open Go Go.Av
set_option maxRecDepth 4000
theorem ve_len {e : Ex} {w : Int} (n : Nat) (hk : ¬ (e.kids.length : Int) = kidsK e.kind) : callA C0 99 [.i (.agg e.cells), .int w, .int n] [] = some (.bool false, []) := by
  rw [callA_eq rfl Try.func99 rfl rfl, Ex.cells_eq]
  simp [hk]
theorem ve_deep {e : Ex} {w : Int} (hk : (e.kids.length : Int) = kidsK e.kind) (hz : 0 < kidsK e.kind) : callA C0 99 [.i (.agg e.cells), .int w, .int 0] [] = some (.bool false, []) := by
  rw [callA_eq rfl Try.func99 rfl rfl, Ex.cells_eq]
  simp [hk, hz]
def EX (e : Ex) (w n : Int) (v : AV) (i : Nat) : AS :=
  { env := [(0, .i (.agg [.int e.kind, .int e.col, .bool e.val.null, .int e.val.n, .isl (Ex.cellsL e.kids)])), (1, .int w), (2, .int n), (3, .own 0 0), (6, .bool false), (7, .int i), (24, v), (29, jk i (.bool true)), (41, jk i (.bool false)), (43, .junk), (44, .junk), (57, .junk)],
    st := [some (.box [.int e.kind, .int e.col, .bool e.val.null, .int e.val.n, .i (.isl (Ex.cellsL e.kids))])] }
theorem ve_go {e : Ex} {w : Int} (n : Nat) (hn : n ≤ 8) (hk : (e.kids.length : Int) = kidsK e.kind) (hz : 0 < kidsK e.kind → n ≠ 0)  (hw : 1 ≤ w ∧ w ≤ 6)
  (ih : ∀ k ∈ e.kids, 0 < kidsK e.kind → callA C0 99 [.i (.agg k.cells), .int w, .int ((n : Int) - 1)] [] = some (.bool (Ex.vB w (n - 1) k), [])) :
    callA C0 99 [.i (.agg e.cells), .int w, .int n] [] = some (.bool (e.kids.all (Ex.vB w (n - 1)) && e.headOk w), []) := by
  rw [callA_eq rfl Try.func99 rfl rfl, Ex.cells_eq]
  have w0 : IntKind.i64.wrap (w - 1) = w - 1 := wrap64 (by omega) (by omega)
  by_cases h0 : 0 < kidsK e.kind
  · have hn := hz h0
    simp [hk, h0, hn]
    obtain ⟨j, h1, h2⟩ := upto_bad (Ex.vB w (n - 1)) e.kids
    have w1 : IntKind.i64.wrap ((n : Int) - 1) = n - 1 := wrap64 (by omega) (by omega)
    have rd : ∀ (i : Nat) (k : Ex), e.kids[i]? = some k → k ∈ e.kids → i < e.kids.length ∧ nthE (Ex.cellsL e.kids) i = some k.cells ∧ callA C0 99 [.i (.agg k.cells), .int w, .int ((n : Int) - 1)] [] = some (.bool (Ex.vB w (n - 1) k), []) :=
      fun i k a b => ⟨(List.getElem?_eq_some_iff.1 a).1, Ex.cellsL_nth a, ih k b h0⟩
    have hlen : e.kids.length ≤ 2 := by have : kidsK e.kind ≤ 2 := by
                                          unfold kidsK; split; · omega
                                          split; · omega
                                          split <;> omega
                                        omega
    have hk1 : e.kind ≠ 1 := fun h => by rw [h] at h0; simp [kidsK] at h0
    have hk2 : e.kind ≠ 2 := fun h => by rw [h] at h0; simp [kidsK] at h0
    rw [loop_to (EX e w n (.bool ((n : Int) == 0)) ) j (by simp [EX])]
    · rw [execA_loop]
      rcases h2 with ⟨hj, ha⟩ | ⟨k, h3, h4, h5, ha⟩
      · have l1 : ¬ ((j : Int) < kidsK e.kind) := by omega
        by_cases h6 : e.col = 0
        · cases h7 : e.val.null with
          | true => simp [EX, l1, hk, ha, Ex.headOk, hk1, hk2, h6, h7]
          | false => simp [EX, l1, hk, ha, Ex.headOk, hk1, hk2, h6, h7]
        · simp [EX, l1, hk, ha, Ex.headOk, hk1, hk2, h6]
      · obtain ⟨r1, r2, r3⟩ := rd j k h3 h4
        have l1 : (j : Int) < kidsK e.kind := by omega
        rw [Ex.cells_eq] at r2 r3
        simp [EX, l1, r1, hk, ha, r2, r3, w1, h5]
    · intro i hi
      obtain ⟨k, h3, h4, h5⟩ := h1 i hi
      obtain ⟨r1, r2, r3⟩ := rd i k h3 h4
      have l1 : (i : Int) < kidsK e.kind := by omega
      have w2 : IntKind.i64.wrap ((i : Int) + 1) = i + 1 := wrap64 (by omega) (by omega)
      rw [Ex.cells_eq] at r2 r3
      simp [EX, l1, r1, hk, r2, r3, w1, w2, h5]
  · have h2 : e.kids = [] := by cases h : e.kids with
      | nil => rfl
      | cons a l => rw [h] at hk; simp at hk; omega
    rw [h2] at hk
    simp at hk
    simp [h2, Ex.cellsL, ← hk]
    rw [execA_loop]
    by_cases h1 : e.kind = 1
    · by_cases h4 : 0 ≤ e.col
      · by_cases h5 : e.col < w
        · cases h7 : e.val.null with
          | true => simp [h1, w0, Ex.headOk, h4, h5, h7, show e.col ≤ w - 1 by omega]
          | false => simp [h1, w0, Ex.headOk, h4, h5, h7, show e.col ≤ w - 1 by omega]
        · simp [h1, w0, Ex.headOk, h4, h5, show ¬ e.col ≤ w - 1 by omega]
      · simp [h1, w0, Ex.headOk, h4]
    · by_cases h3 : e.kind = 2
      · by_cases h4 : e.col = 0
        · simp [h3, Ex.headOk, h4]
        · simp [h3, Ex.headOk, h4]
      · by_cases h4 : e.col = 0
        · cases h7 : e.val.null with
          | true => simp [h1, h3, Ex.headOk, h4, h7]
          | false => simp [h1, h3, Ex.headOk, h4, h7]
        · simp [h1, h3, Ex.headOk, h4]
theorem validExpr_eq {w : Int} (hw : 1 ≤ w ∧ w ≤ 6) : ∀ (n : Nat) (e : Ex), n ≤ 8 → callA C0 99 [.i (.agg e.cells), .int w, .int n] [] = some (.bool (Ex.vB w n e), [])
  | 0, e, hn => by
    by_cases hk : (e.kids.length : Int) = kidsK e.kind
    · by_cases hz : 0 < kidsK e.kind
      · rw [show ((0 : Nat) : Int) = 0 from rfl, ve_deep hk hz]
        simp [Ex.vB, Int.not_le.2 hz]
      · rw [ve_go 0 hn hk (fun h => absurd h hz) hw (fun k _ h => absurd h hz)]
        have : e.kids = [] := by cases h : e.kids with
          | nil => rfl
          | cons a l => rw [h] at hk; simp at hk; omega
        have h3 : kidsK e.kind = 0 := by rw [this] at hk; simpa using hk.symm
        simp [Ex.vB, h3, this]
    · rw [ve_len 0 hk]; simp [Ex.vB, hk]
  | n + 1, e, hn => by
    by_cases hk : (e.kids.length : Int) = kidsK e.kind
    · rw [ve_go (n + 1) hn hk (fun _ => by omega) hw (fun k _ _ => by
          have := validExpr_eq (w := w) hw n k (by omega)
          rw [show (((n + 1 : Nat) : Int) - 1) = (n : Int) by omega]
          exact this)]
      simp [Ex.vB, hk, Bool.and_comm]
    · rw [ve_len (n + 1) hk]; simp [Ex.vB, hk]
end Go.Proofs.Yteihcffblfdgfaa

/- Valid expressions, both ways. No condition. -/
namespace Go.Proofs.Yteihcffblfdgfaa
open Go Go.Av
set_option maxRecDepth 4000
theorem ok_eq (w : Int) (e : Ex) : callA C0 101 [.i (.agg e.cells), .int w] [] = some (.bool (e.ok w), []) := by
  rw [callA_eq rfl Try.func101 rfl rfl]
  have h := validBelow_eq (w := w) 8 e (by omega)
  rw [Ex.cells_eq] at h ⊢
  have e8 : ((8 : Nat) : Int) = 8 := rfl
  rw [e8] at h
  cases hw : okWidth w with
  | false => simp [hw, Ex.ok]
  | true => simp [hw, Ex.ok, h]
theorem sok_eq (w : Int) (e : Ex) : callA C0 85 [.i (.agg e.cells), .int w] [] = some (.bool (e.ok w), []) := by
  rw [callA_eq rfl Try.func85 rfl rfl]
  by_cases hw : 1 ≤ w ∧ w ≤ 6
  · have h := validExpr_eq hw 8 e (by omega)
    rw [Ex.cells_eq] at h ⊢
    have e8 : ((8 : Nat) : Int) = 8 := rfl
    rw [e8] at h
    simp [hw, Ex.ok, okWidth, h]
  · rw [Ex.cells_eq]
    simp [hw, Ex.ok, okWidth]
end Go.Proofs.Yteihcffblfdgfaa

/- Equal expressions. No condition. -/
namespace Go.Proofs.Yteihcffblfdgfaa
open Go Go.Av
set_option maxRecDepth 4000
theorem eqE_step {a b : Ex} (ih : callA C0 33 [.i (.isl (Ex.cellsL a.kids)), .i (.isl (Ex.cellsL b.kids))] [] = some (.bool (Ex.eqbL a.kids b.kids), [])) :
    callA C0 75 [.i (.agg a.cells), .i (.agg b.cells)] [] = some (.bool (a.eqb b), []) := by
  rw [callA_eq rfl Try.func75 rfl rfl, Ex.cells_eq, Ex.cells_eq, Ex.eqb_def]
  by_cases h1 : a.kind = b.kind
  · by_cases h2 : a.col = b.col
    · cases h3 : (a.val.null == b.val.null && a.val.n == b.val.n) with
      | true => simp [h1, h2, h3, ih]
      | false => simp [h1, h2, h3]
    · simp [h1, h2]
  · simp [h1]
def LX (l m : List Ex) (i : Nat) : AS :=
  { env := [(0, .i (.isl (Ex.cellsL l))), (1, .i (.isl (Ex.cellsL m))), (4, .bool false), (5, .int i), (10, .bool false), (14, jk i (.bool true)), (26, jk i (.bool false))], st := [] }
theorem eqL_step {l m : List Ex} (hl : l.length < 1000000000) (ih : ∀ a ∈ l, ∀ b, callA C0 75 [.i (.agg a.cells), .i (.agg b.cells)] [] = some (.bool (a.eqb b), [])) :
    callA C0 33 [.i (.isl (Ex.cellsL l)), .i (.isl (Ex.cellsL m))] [] = some (.bool (Ex.eqbL l m), []) := by
  rw [callA_eq rfl Try.func33 rfl rfl]
  by_cases hlm : l.length = m.length
  · simp [hlm]
    obtain ⟨j, h1, h2⟩ := Ex.eqbL_upto l m hlm
    rw [loop_to (LX l m) j (by simp [LX])]
    · rw [execA_loop]
      rcases h2 with ⟨hj, ha⟩ | ⟨a, b, k1, k2, k3, k4, ha⟩
      · simp [LX, hj, hlm, ha]
      · have r1 := (List.getElem?_eq_some_iff.1 k1).1
        have r2 := (List.getElem?_eq_some_iff.1 k2).1
        have s1 := Ex.cellsL_nth k1
        have s2 := Ex.cellsL_nth k2
        have hc := ih a k3 b
        rw [Ex.cells_eq] at s1 s2
        rw [Ex.cells_eq, Ex.cells_eq] at hc
        simp [LX, r1, r2, s1, s2, ha, hc, k4]
    · intro i hi
      obtain ⟨a, b, k1, k2, k3, k4⟩ := h1 i hi
      have r1 := (List.getElem?_eq_some_iff.1 k1).1
      have r2 := (List.getElem?_eq_some_iff.1 k2).1
      have s1 := Ex.cellsL_nth k1
      have s2 := Ex.cellsL_nth k2
      have hc := ih a k3 b
      have w2 : IntKind.i64.wrap ((i : Int) + 1) = i + 1 := wrap64 (by omega) (by omega)
      rw [Ex.cells_eq] at s1 s2
      rw [Ex.cells_eq, Ex.cells_eq] at hc
      simp [LX, r1, r2, s1, s2, hc, k4, w2]
  · simp [show ¬ (l.length : Int) = m.length by omega, Ex.eqbL_len l m hlm]
theorem equalExprs_eq : ∀ (a : Ex), a.thin → ∀ b : Ex, callA C0 75 [.i (.agg a.cells), .i (.agg b.cells)] [] = some (.bool (a.eqb b), []) := by
  intro a
  induction a using Ex.ind with
  | h k c v ks ih =>
    intro ht b
    have ht' := (Ex.thin_iff _).1 ht
    exact eqE_step (eqL_step ht'.1 fun a ha b => ih a ha (ht'.2 a ha) b)
end Go.Proofs.Yteihcffblfdgfaa

/- Copies of expressions. No condition. -/
namespace Go.Proofs.Yteihcffblfdgfaa
open Go Go.Av
set_option maxRecDepth 4000
theorem wrap_1 : IntKind.i64.wrap 1 = 1 := wrap64 (by omega) (by omega)
def CX (e : Ex) (i : Nat) : AS :=
  { env := [(0, .i (.agg [.int e.kind, .int e.col, .bool e.val.null, .int e.val.n, .isl (Ex.cellsL e.kids)])), (1, .own 0 0), (2, .own 1 0), (3, .own 2 0), (4, .int i), (16, jk i (.bool true))],
    st := some (.box [.int e.kind, .int e.col, .bool e.val.null, .int e.val.n, .i (.isl (Ex.cellsL e.kids))]) :: some (.box [.int 0, .int 0, .bool false, .int 0, .nils]) ::
      some (.box [.int e.kind, .int e.col, .bool e.val.null, .int e.val.n, gro 3 5 i]) :: groB 5 (Ex.cellsL (e.kids.take i)) i }
theorem cp_step {e : Ex} (hl : e.kids.length < 1000000000) (ih : ∀ a ∈ e.kids, callA C0 89 [.i (.agg a.cells)] [] = some (.i (.agg a.cells), [])) :
    callA C0 89 [.i (.agg e.cells)] [] = some (.i (.agg e.cells), []) := by
  rw [callA_eq rfl Try.func89 rfl rfl, Ex.cells_eq]
  simp
  rw [loop_to (CX e) e.kids.length (by simp [CX])]
  · rw [execA_loop]
    cases hn : e.kids.length with
    | zero =>
      have : e.kids = [] := List.length_eq_zero_iff.1 hn
      simp [CX, this, Ex.cellsL]
    | succ n =>
      have : e.kids.take (n + 1) = e.kids := List.take_of_length_le (by omega)
      simp [CX, hn, this]
  · intro i hi
    have h3 := List.getElem?_eq_getElem hi
    have hc := ih _ (List.mem_of_getElem? h3)
    have r2 := Ex.cellsL_nth h3
    generalize e.kids[i] = a at h3 hc r2
    have w2 : IntKind.i64.wrap ((i : Int) + 1) = i + 1 := wrap64 (by omega) (by omega)
    by_cases h0 : i = 0
    · subst h0; simp [CX, hi, r2, hc, wrap_1, take_snoc h3, Ex.cellsL]
    · simp [CX, gro_pos h0, groB_pos h0, jk_pos h0, hi, r2, hc, w2, take_snoc h3, Ex.cellsL_snoc, show min i e.kids.length = i by omega, show (i + 1) * 56 ≤ 140737488355328 by omega, List.take_take]
theorem copyExpr_eq : ∀ (e : Ex), e.thin → callA C0 89 [.i (.agg e.cells)] [] = some (.i (.agg e.cells), []) := by
  intro e
  induction e using Ex.ind with
  | h k c v ks ih =>
    intro ht
    have ht' := (Ex.thin_iff _).1 ht
    exact cp_step ht'.1 fun a ha => ih a ha (ht'.2 a ha)
def SX (e : Ex) (l : List Ex) (f : Ex → Ex) (i : Nat) : AS :=
  { env := [(0, .i (.agg [.int e.kind, .int e.col, .bool e.val.null, .int e.val.n, .isl (Ex.cellsL e.kids)])), (1, .i (.isl (Ex.cellsL l))), (2, .own 0 0), (4, .own 1 0), (5, .own 2 0), (6, .int i), (9, .bool false), (27, jk i (.bool true))],
    st := some (.box [.int e.kind, .int e.col, .bool e.val.null, .int e.val.n, .i (.isl (Ex.cellsL e.kids))]) :: some (.box [.int 0, .int 0, .bool false, .int 0, .nils]) ::
      some (.box [.int e.kind, .int e.col, .bool e.val.null, .int e.val.n, gro 3 5 i]) :: groB 5 (Ex.cellsL ((e.kids.take i).map f)) i }
end Go.Proofs.Yteihcffblfdgfaa

/- Heights. No condition. -/
namespace Go.Proofs.Yteihcffblfdgfaa
open Go Go.Av
set_option maxRecDepth 4000
def HX (e : Ex) (i : Nat) : AS :=
  { env := [(0, .i (.iref [.int e.kind, .int e.col, .bool e.val.null, .int e.val.n, .isl (Ex.cellsL e.kids)])), (2, .int 0), (3, .int (Ex.htL (e.kids.take i) : Nat)), (4, jk i (.int (i - 1))), (9, .int e.kids.length), (10, .int i), (11, jk i (.bool true))], st := [] }
end Go.Proofs.Yteihcffblfdgfaa

/- Whether what has been replaced fits; what is replaced. No condition. -/
namespace Go.Proofs.Yteihcffblfdgfaa
open Go Go.Av
set_option maxRecDepth 4000
def FX (e : Ex) (hs : List Nat) (n : Int) (i : Nat) : AS :=
  { env := [(0, .i (.iref [.int e.kind, .int e.col, .bool e.val.null, .int e.val.n, .isl (Ex.cellsL e.kids)])), (1, .i (.isl (natsL hs))), (2, .int n), (6, .bool false), (7, jk i (.int (i - 1))), (27, .bool false), (32, .int e.kids.length), (33, .int i), (34, jk i (.bool true)), (46, jk i (.bool false))], st := [] }
end Go.Proofs.Yteihcffblfdgfaa

/- What is replaced. No condition. -/
namespace Go.Proofs.Yteihcffblfdgfaa
open Go Go.Av
set_option maxRecDepth 4000
@[simp] theorem copied_eq {e : Ex} (h : e.size < 1000000000) : callA C0 70 [.i (.iref e.cells)] [] = some (.i (.agg e.cells), []) := by
  rw [callA_prim (p := copyE) rfl]; exact copyE_eq h
def zrow : List IV := [.int 0, .int 0, .bool false, .int 0, .isl []]
end Go.Proofs.Yteihcffblfdgfaa

/- Substitute, both ways. No condition. -/
namespace Go.Av
/-- What Substitute returns. -/
def Ex.subst (e : Ex) (l : List Ex) (w : Int) : Option Ex := if e.ok l.length && (l.all (Ex.ok w) && (e.sub l).ok w) then some (e.sub l) else none
def resE : Option Ex → AV
  | some e => .tup [.i (.agg e.cells), .bool true]
  | none => .tup [.i (.agg Ex.zero.cells), .bool false]
theorem zero_cells : Ex.zero.cells = [.int 0, .int 0, .bool false, .int 0, .isl []] := by simp [Ex.zero, Ex.cells, Ex.cellsL, Val.zero]
end Go.Av
namespace Go.Proofs.Yteihcffblfdgfaa
open Go Go.Av
set_option maxRecDepth 4000
def TX (e : Ex) (l : List Ex) (w : Int) (i : Nat) : AS :=
  { env := [(0, .i (.agg [.int e.kind, .int e.col, .bool e.val.null, .int e.val.n, .isl (Ex.cellsL e.kids)])), (1, .i (.isl (Ex.cellsL l))), (2, .int w), (3, .own 0 0), (6, .own 1 0), (7, .bool false), (8, .int i), (9, .junk), (14, .bool false), (19, jk i (.bool true)), (28, jk i (.bool false)), (36, .junk)],
    st := [some (.box [.int e.kind, .int e.col, .bool e.val.null, .int e.val.n, .i (.isl (Ex.cellsL e.kids))]), some (.box [.int 0, .int 0, .bool false, .int 0, .nils])] }
end Go.Proofs.Yteihcffblfdgfaa

/- Substitute, as the program has it. No condition. -/
namespace Go.Proofs.Yteihcffblfdgfaa
open Go Go.Av
set_option maxRecDepth 4000
theorem natsL_snoc : ∀ (hs : List Nat) (h : Nat), natsL hs ++ [[.int h]] = natsL (hs ++ [h])
  | [], _ => rfl
  | _ :: hs, h => by simp [natsL, natsL_snoc hs h]
def IX (e : Ex) (l : List Ex) (w : Int) (i : Nat) : AS :=
  { env := [(0, .i (.agg [.int e.kind, .int e.col, .bool e.val.null, .int e.val.n, .isl (Ex.cellsL e.kids)])), (1, .i (.isl (Ex.cellsL l))), (2, .int w), (3, .own 0 0), (4, .own 1 0), (6, .own 2 0), (7, .bool false), (8, .osl 3 1 0 l.length), (9, jk i (.int (i - 1))), (14, .bool false), (20, .int l.length), (21, .int i), (22, jk i (.bool true)), (30, jk i (.bool false)), (42, .junk)],
    st := [some (.box [.int e.kind, .int e.col, .bool e.val.null, .int e.val.n, .i (.isl (Ex.cellsL e.kids))]), some (.box [.i (.isl (Ex.cellsL l))]), some (.box [.int 0, .int 0, .bool false, .int 0, .nils]), some (.arr 1 (natsL ((l.map Ex.ht).take i) ++ List.replicate (l.length - i) [.int 0]))] }
end Go.Proofs.Yteihcffblfdgfaa

/- Drawing values and expressions. No condition. -/
namespace Go.Av
@[simp] theorem bytesI_widths : ∀ l : List UInt8, widths 1 (bytesI l) = true
  | [] => rfl
  | _ :: l => by have := bytesI_widths l; simp only [widths] at this; simp [bytesI, widths, this]
@[simp] theorem bytesI_take : ∀ (n : Nat) (l : List UInt8), (bytesI l).take n = bytesI (l.take n)
  | 0, l => by simp [bytesI]
  | n + 1, [] => by simp [bytesI]
  | n + 1, b :: l => by simp [bytesI, bytesI_take n l]
end Go.Av
namespace Go.Proofs.Yteihcffblfdgfaa
open Go Go.Av
set_option maxRecDepth 4000
theorem newReader_eq (l : List UInt8) : ∃ l' : List UInt8, l'.length ≤ 2000 ∧ callA C0 25 [.i (.isl (bytesI l))] [] = some (.own 0 0, [Rd l' 0]) := by
  by_cases h : (l.length : Int) > 2000
  · refine ⟨l.take 2000, by simp; omega, ?_⟩
    rw [callA_eq rfl Try.func25 rfl rfl]
    simp [bytesI_length, h, show (2000 : Int) ≤ l.length by omega]
  · refine ⟨l, by omega, ?_⟩
    rw [callA_eq rfl Try.func25 rfl rfl]
    simp [bytesI_length, h]
theorem one_eq (l : List UInt8) (p : Int) (h0 : 0 ≤ p) (h1 : p < 1000000000) (hl : l.length ≤ 2000) (es : List (List IV)) (hn : 0 < es.length) (hes : es.length ≤ 100) (hi : ∀ r ∈ es, ∃ x, r = [.int x]) :
    ∃ x : Int, callA C0 65 [.own 0 0, .osl 1 1 0 es.length] [Rd l p, some (.arr 1 es)] = some (.int x, [Rd l (p + 1), some (.arr 1 es)]) ∧ [.int x] ∈ es := by
  obtain ⟨v, hv, hv1, hv2⟩ := pick_eq l p es.length h0 h1 hl
  obtain ⟨v0, v1⟩ := hv1 (by omega)
  have hlt : v.toNat < es.length := by omega
  have hm := List.getElem_mem hlt
  obtain ⟨x, hx⟩ := hi _ hm
  refine ⟨x, ?_, hx ▸ hm⟩
  have hnth : nthE es v.toNat = some [.int x] := by rw [nthE_eq, List.getElem?_eq_getElem hlt, hx]
  have hw : widths 1 es = true := by
    rw [widths, List.all_eq_true]; intro r hr; obtain ⟨y, rfl⟩ := hi r hr; rfl
  rw [callA_eq rfl Try.func65 rfl rfl]
  simp [hv, v0, v1, hnth, hw]

theorem randomValue_eq (l : List UInt8) (p : Int) (h0 : 0 ≤ p) (h1 : p < 900000000) (hl : l.length ≤ 2000) :
    ∃ (v : Val) (p' : Int), callA C0 97 [.own 0 0] [Rd l p] = some (.i (.agg [.bool v.null, .int v.n]), [Rd l p']) ∧ p ≤ p' ∧ p' ≤ p + 2 := by
  obtain ⟨v, hv, hv1, hv2⟩ := pick_eq l p 5 h0 (by omega) hl
  by_cases h : v = 0
  · refine ⟨⟨true, 0⟩, p + 1, ?_, by omega, by omega⟩
    rw [callA_eq rfl Try.func97 rfl rfl]
    simp [hv, h]
  · obtain ⟨x, hx, _⟩ := one_eq l (p + 1) (by omega) (by omega) hl [[.int 0], [.int 1], [.int 2], [.int 3], [.int (-1)]] (by simp) (by simp) (by simp)
    refine ⟨⟨false, x⟩, p + 1 + 1, ?_, by omega, by omega⟩
    rw [callA_eq rfl Try.func97 rfl rfl]
    simp at hx
    simp [hv, h, hx]
end Go.Proofs.Yteihcffblfdgfaa

/- Drawing expressions. No condition. -/
namespace Go.Proofs.Yteihcffblfdgfaa
open Go Go.Av
set_option maxRecDepth 4000
set_option maxHeartbeats 1000000
def RE (l : List UInt8) (w : Int) (n c : Nat) : Prop := ∀ p : Int, 0 ≤ p → p < 800000000 → ∃ (e : Ex) (p' : Int), callA C0 83 [.own 0 0, .int w, .int n] [Rd l p] = some (.i (.agg e.cells), [Rd l p']) ∧ p ≤ p' ∧ p' ≤ p + c ∧ e.size ≤ c
theorem rE_leaf {l : List UInt8} (hl : l.length ≤ 2000) {w : Int} {n : Nat} {p k : Int} (h0 : 0 ≤ p) (h1 : p < 800000000) (hk : callA C0 59 [.own 0 0, .int 13] [Rd l p] = some (.int k, [Rd l (p + 1)])) (hc : n = 0 ∨ k > 10) :
    ∃ (e : Ex) (p' : Int), callA C0 83 [.own 0 0, .int w, .int n] [Rd l p] = some (.i (.agg e.cells), [Rd l p']) ∧ p ≤ p' ∧ p' ≤ p + 4 ∧ e.size = 1 := by
  obtain ⟨t, ht, ht1, ht2⟩ := pick_eq l (p + 1) 3 (by omega) (by omega) hl
  by_cases g : t > 0
  · obtain ⟨c, hc', -, -⟩ := pick_eq l (p + 1 + 1) w (by omega) (by omega) hl
    refine ⟨.mk 1 c Val.zero [], p + 1 + 1 + 1, ?_, by omega, by omega, by simp [Ex.size, Ex.sizeL]⟩
    rw [callA_eq rfl Try.func83 rfl rfl]
    by_cases hn : n = 0
    · simp [hk, hn, ht, g, hc', Ex.cells, Ex.cellsL, Val.zero]
    · have hk10 : k > 10 := by omega
      simp [hk, hn, hk10, ht, g, hc', Ex.cells, Ex.cellsL, Val.zero]
  · obtain ⟨v, p2, hv, q1, q2⟩ := randomValue_eq l (p + 1 + 1) (by omega) (by omega) hl
    refine ⟨.mk 2 0 v [], p2, ?_, by omega, by omega, by simp [Ex.size, Ex.sizeL]⟩
    rw [callA_eq rfl Try.func83 rfl rfl]
    by_cases hn : n = 0
    · simp [hk, hn, ht, g, hv]
    · have hk10 : k > 10 := by omega
      simp [hk, hn, hk10, ht, g, hv]
theorem rE_node {l : List UInt8} (hl : l.length ≤ 2000) {w : Int} {n c : Nat} {p k : Int} (h0 : 0 ≤ p) (h1 : p < 800000000) (hk : callA C0 59 [.own 0 0, .int 13] [Rd l p] = some (.int k, [Rd l (p + 1)])) (hk0 : 0 ≤ k) (hk1 : k ≤ 10) (hn : n < 10) (hc : c < 100) (hpc : p + (2 * c + 1) < 700000000) (ih : ∀ p : Int, 0 ≤ p → p + c < 700000000 → ∃ (e : Ex) (p' : Int), callA C0 83 [.own 0 0, .int w, .int n] [Rd l p] = some (.i (.agg e.cells), [Rd l p']) ∧ p ≤ p' ∧ p' ≤ p + c ∧ e.size ≤ c) :
    ∃ (e : Ex) (p' : Int), callA C0 83 [.own 0 0, .int w, .int ((n + 1 : Nat) : Int)] [Rd l p] = some (.i (.agg e.cells), [Rd l p']) ∧ p ≤ p' ∧ p' ≤ p + (2 * c + 1 : Nat) ∧ e.size ≤ 2 * c + 1 := by
  obtain ⟨e1, p1, he1, a1, a2, a3⟩ := ih (p + 1) (by omega) (by omega)
  obtain ⟨e2, p2, he2, b1, b2, b3⟩ := ih p1 (by omega) (by omega)
  have t1 : 0 ≤ k.tmod 9 := Int.tmod_nonneg _ hk0
  have t2 : k.tmod 9 < 9 := Int.tmod_lt_of_pos _ (by omega)
  have w1 : IntKind.i64.wrap (3 + k.tmod 9) = 3 + k.tmod 9 := wrap64 (by omega) (by omega)
  have w2 : IntKind.i64.wrap (n : Int) = n := wrap64 (by omega) (by omega)
  have w3 : IntKind.i64.wrap 2 = 2 := wrap64 (by omega) (by omega)
  have hn1 : ¬ ((n : Int) + 1 = 0) := by omega
  have wn : ((n : Int) + 1 == 0) = false := by simp [hn1]
  have hkk : ¬ (10 < k) := by omega
  have hK : kidsK (3 + k.tmod 9) = 1 ∨ kidsK (3 + k.tmod 9) = 2 := by
    unfold kidsK; split; · omega
    split; · exact .inl rfl
    split; · exact .inr rfl
    · omega
  rcases hK with hK | hK
  · refine ⟨.mk (3 + k.tmod 9) 0 Val.zero [e1], p1, ?_, by omega, by omega, by simp [Ex.size, Ex.sizeL]; omega⟩
    rw [callA_eq rfl Try.func83 rfl rfl]
    simp [hk, hn1, wn, hkk, w1]
    rw [execA_loop]
    simp [hK, w2, he1, wrap_1]
    rw [execA_loop]
    simp [hK, Ex.cells, Ex.cellsL, Val.zero]
  · refine ⟨.mk (3 + k.tmod 9) 0 Val.zero [e1, e2], p2, ?_, by omega, by omega, by simp [Ex.size, Ex.sizeL]; omega⟩
    rw [callA_eq rfl Try.func83 rfl rfl]
    simp [hk, hn1, wn, hkk, w1]
    rw [execA_loop]
    simp [hK, w2, he1, wrap_1]
    rw [execA_loop]
    simp [hK, w2, he2, w3]
    rw [execA_loop]
    simp [hK, Ex.cells, Ex.cellsL, Val.zero]
def costE : Nat → Nat
  | 0 => 4
  | n + 1 => 2 * costE n + 1
theorem costE_ge : ∀ n, 4 ≤ costE n
  | 0 => by simp [costE]
  | n + 1 => by have := costE_ge n; simp only [costE]; omega
theorem rE (l : List UInt8) (hl : l.length ≤ 2000) (w : Int) : ∀ n : Nat, costE n < 200 → n < 10 → ∀ p : Int, 0 ≤ p → p + costE n < 700000000 → ∃ (e : Ex) (p' : Int), callA C0 83 [.own 0 0, .int w, .int n] [Rd l p] = some (.i (.agg e.cells), [Rd l p']) ∧ p ≤ p' ∧ p' ≤ p + costE n ∧ e.size ≤ costE n
  | 0, hc, hn, p, h0, h1 => by
    obtain ⟨k, hk, -, -⟩ := pick_eq l p 13 h0 (by omega) hl
    obtain ⟨e, p', a1, a2, a3, a4⟩ := rE_leaf hl (n := 0) (w := w) h0 (by omega) hk (.inl rfl)
    exact ⟨e, p', a1, a2, by simp [costE]; omega, by simp [costE]; omega⟩
  | n + 1, hc, hn, p, h0, h1 => by
    obtain ⟨k, hk, hk1, -⟩ := pick_eq l p 13 h0 (by omega) hl
    obtain ⟨k0, k1⟩ := hk1 (by omega)
    have hc' : costE (n + 1) = 2 * costE n + 1 := rfl
    by_cases hg : k > 10
    · obtain ⟨e, p', a1, a2, a3, a4⟩ := rE_leaf hl (n := n + 1) (w := w) h0 (by omega) hk (.inr hg)
      have h4 := costE_ge n
      exact ⟨e, p', a1, a2, by omega, by omega⟩
    · rw [hc']
      exact rE_node hl h0 (by omega) hk k0 (by omega) (by omega) (by omega) (by omega) fun q q0 q1 => rE l hl w n (by omega) (by omega) q q0 q1
theorem randomExpr3 (l : List UInt8) (hl : l.length ≤ 2000) (w p : Int) (h0 : 0 ≤ p) (h1 : p < 600000000) : ∃ (e : Ex) (p' : Int), callA C0 83 [.own 0 0, .int w, .int 3] [Rd l p] = some (.i (.agg e.cells), [Rd l p']) ∧ p ≤ p' ∧ p' ≤ p + 39 ∧ e.size ≤ 39 := rE l hl w 3 (by decide) (by omega) p h0 (by simp only [costE]; omega)
theorem randomExpr2 (l : List UInt8) (hl : l.length ≤ 2000) (w p : Int) (h0 : 0 ≤ p) (h1 : p < 600000000) : ∃ (e : Ex) (p' : Int), callA C0 83 [.own 0 0, .int w, .int 2] [Rd l p] = some (.i (.agg e.cells), [Rd l p']) ∧ p ≤ p' ∧ p' ≤ p + 19 ∧ e.size ≤ 19 := rE l hl w 2 (by decide) (by omega) p h0 (by simp only [costE]; omega)
end Go.Proofs.Yteihcffblfdgfaa

/- Drawing expressions that may be invalid; the arguments of Substitute. No condition. -/
namespace Go.Av
@[simp] theorem Ex.cells_splice (e e' : Ex) : splice e'.cells 0 e.cells = some e.cells := splice_all (by simp)
end Go.Av
namespace Go.Proofs.Yteihcffblfdgfaa
open Go Go.Av
set_option maxRecDepth 4000
set_option maxHeartbeats 1000000
end Go.Proofs.Yteihcffblfdgfaa
