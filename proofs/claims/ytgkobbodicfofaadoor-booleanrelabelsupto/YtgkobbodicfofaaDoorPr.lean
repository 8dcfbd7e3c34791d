import Derived.Test.YtgkobbodicfofaaDoorPt
import Derived.KernelRfl
import Derived.Test.YtgkobbodicfofaaDoorMk
noncomputable section
namespace Go.Proofs.YtgkobbodicfofaaDoor.Am
open Go Go.AM Go.Bk
set_option maxRecDepth 100000
set_option linter.unusedVariables false
abbrev i_ref03_Few : Nat := 28
abbrev i_ref01_count : Nat := 51
abbrev i_ref01_Few : Nat := 29
abbrev i_law05_few : Nat := 8
abbrev i_tree_ValidAlphabet_1 : Nat := 62
abbrev i_slices_IndexFuncY : Nat := 1001
abbrev i_slices_ContainsFuncY : Nat := 1000
abbrev i_tree_ValidAlphabet : Nat := 47
abbrev i_auto_Valid_1 : Nat := 52
abbrev i_auto_Valid : Nat := 34
abbrev i_slices_Clone_int_int : Nat := 37
abbrev i_auto_Copy : Nat := 35
abbrev i_ref01_ValidAlphabet : Nat := 21
abbrev i_ref03_Valid : Nat := 33
abbrev i_ref03_In : Nat := 54
abbrev i_ref03_Insert : Nat := 69
abbrev i_ref03_Step : Nat := 55
abbrev i_ref03_Of : Nat := 43
abbrev i_ref03_Meet : Nat := 42
abbrev i_ref03_Has : Nat := 16
abbrev i_law05_awake : Nat := 9
abbrev i_boolean_mapped : Nat := 48
abbrev i_math_bits_Len64 : Nat := 103
abbrev i_math_bits_Len : Nat := 80
abbrev i_cmp_isNaN_int : Nat := 104
abbrev i_cmp_Compare_int : Nat := 82
abbrev i_slices_Compare_int_int : Nat := 83
abbrev i_cmp_Or_int : Nat := 81
abbrev i_auto_Order : Nat := 64
abbrev i_slices_insertionSortX : Nat := 1004
abbrev i_slices_siftDownX : Nat := 1006
abbrev i_slices_heapSortX : Nat := 1005
abbrev i_slices_nextPowerOfTwo : Nat := 109
abbrev i_slices_xorshift_Next : Nat := 110
abbrev i_slices_breakPatternsX : Nat := 1007
abbrev i_slices_order2X : Nat := 1011
abbrev i_slices_medianX : Nat := 1010
abbrev i_slices_medianAdjacentX : Nat := 1009
abbrev i_slices_choosePivotX : Nat := 1008
abbrev i_slices_reverseRangeX : Nat := 1012
abbrev i_slices_partialInsertionSortX : Nat := 1013
abbrev i_slices_partitionEqualX : Nat := 1014
abbrev i_slices_partitionX : Nat := 1015
abbrev i_slices_pdqsortX : Nat := 1003
abbrev i_slices_SortFuncX : Nat := 1002
abbrev i_auto_Sorted_1 : Nat := 66
abbrev i_slices_CompactFuncX : Nat := 1016
abbrev i_auto_Sorted : Nat := 50
abbrev i_boolean_Relabel : Nat := 26
abbrev i_law05_valid : Nat := 11
abbrev i_ref05_Mapped : Nat := 22
abbrev i_ref01_shaped : Nat := 39
abbrev i_ref01_Valid : Nat := 12
abbrev i_ref05_Map : Nat := 24
abbrev i_ref05_Relabel : Nat := 27
abbrev i_ref03_Reached : Nat := 85
abbrev i_ref03_Used : Nat := 72
abbrev i_ref03_key : Nat := 106
abbrev i_ref03_Less : Nat := 105
abbrev i_ref03_Sort : Nat := 84
abbrev i_ref03_Keep : Nat := 71
abbrev i_ref03_Trimmed : Nat := 57
abbrev i_ref03_Power : Nat := 70
abbrev i_ref04_Bits : Nat := 56
abbrev i_ref01_List : Nat := 49
abbrev i_ref03_One : Nat := 23
abbrev i_ref03_Full : Nat := 58
abbrev i_ref04_Light : Nat := 44
abbrev i_ref04_Lists : Nat := 87
abbrev i_ref04_pick : Nat := 88
abbrev i_ref04_place : Nat := 89
abbrev i_ref04_Sets : Nat := 86
abbrev i_ref04_Subset : Nat := 73
abbrev i_ref04_Over : Nat := 74
abbrev i_ref04_Filled : Nat := 75
abbrev i_ref04_Table_index : Nat := 107
abbrev i_ref04_Make : Nat := 90
abbrev i_ref04_Table_Next : Nat := 93
abbrev i_ref04_alike : Nat := 91
abbrev i_ref04_many : Nat := 92
abbrev i_ref04_classes : Nat := 76
abbrev i_ref04_Renumber : Nat := 77
abbrev i_ref04_Minimal : Nat := 59
abbrev i_ref03_Same : Nat := 60
abbrev i_ref04_Equal : Nat := 45
abbrev i_ref04_Alike : Nat := 17
abbrev i_law05_BooleanRelabels : Nat := 7
theorem e_ref03_Few (n : Nat) (f : prg.Fs) (x : A41) : prg.phi 28 n f x = Go.Bk.ref03_Few.P n x := by kernel_rfl
theorem e_ref01_count (n : Nat) (f : prg.Fs) (x : A12) : prg.phi 51 n f x = Go.Bk.ref01_count.P (f 51) n x := by kernel_rfl
theorem e_ref01_Few (n : Nat) (f : prg.Fs) (x : A12) : prg.phi 29 n f x = Go.Bk.ref01_Few.P (f 51) n x := by kernel_rfl
theorem e_law05_few (n : Nat) (f : prg.Fs) (x : A26) : prg.phi 8 n f x = Go.Bk.law05_few.P (f 29) (f 28) n x := by kernel_rfl
theorem e_tree_ValidAlphabet_1 (n : Nat) (f : prg.Fs) (x : Int) : prg.phi 62 n f x = Go.Bk.tree_ValidAlphabet_1.P n x := by kernel_rfl
theorem e_slices_IndexFuncY (n : Nat) (f : prg.Fs) (x : List Int) : prg.phi 1001 n f x = Go.Bk.slices_IndexFuncY.P (f 62) n x := by kernel_rfl
theorem e_slices_ContainsFuncY (n : Nat) (f : prg.Fs) (x : List Int) : prg.phi 1000 n f x = Go.Bk.slices_ContainsFuncY.P (f 1001) n x := by kernel_rfl
theorem e_tree_ValidAlphabet (n : Nat) (f : prg.Fs) (x : List Int) : prg.phi 47 n f x = Go.Bk.tree_ValidAlphabet.P (f 1000) n x := by kernel_rfl
theorem e_auto_Valid_1 (n : Nat) (f : prg.Fs) (x : A56) : prg.phi 52 n f x = Go.Bk.auto_Valid_1.P n x := by kernel_rfl
theorem e_auto_Valid (n : Nat) (f : prg.Fs) (x : A2) : prg.phi 34 n f x = Go.Bk.auto_Valid.P (f 52) (f 47) n x := by kernel_rfl
theorem e_auto_Copy (n : Nat) (f : prg.Fs) (x : A3) : prg.phi 35 n f x = Go.Bk.auto_Copy.P (f 37) n x := by kernel_rfl
theorem e_ref01_ValidAlphabet (n : Nat) (f : prg.Fs) (x : List Int) : prg.phi 21 n f x = Go.Bk.ref01_ValidAlphabet.P n x := by kernel_rfl
theorem e_ref03_Valid (n : Nat) (f : prg.Fs) (x : A2) : prg.phi 33 n f x = Go.Bk.ref03_Valid.P (f 21) n x := by kernel_rfl
theorem e_ref03_In (n : Nat) (f : prg.Fs) (x : A18) : prg.phi 54 n f x = Go.Bk.ref03_In.P n x := by kernel_rfl
theorem e_ref03_Insert (n : Nat) (f : prg.Fs) (x : A18) : prg.phi 69 n f x = Go.Bk.ref03_Insert.P n x := by kernel_rfl
theorem e_ref03_Step (n : Nat) (f : prg.Fs) (x : A14) : prg.phi 55 n f x = Go.Bk.ref03_Step.P (f 54) (f 69) n x := by kernel_rfl
theorem e_ref03_Of (n : Nat) (f : prg.Fs) (x : A8) : prg.phi 43 n f x = Go.Bk.ref03_Of.P (f 43) (f 55) n x := by kernel_rfl
theorem e_ref03_Meet (n : Nat) (f : prg.Fs) (x : A19) : prg.phi 42 n f x = Go.Bk.ref03_Meet.P (f 54) n x := by kernel_rfl
theorem e_ref03_Has (n : Nat) (f : prg.Fs) (x : A8) : prg.phi 16 n f x = Go.Bk.ref03_Has.P (f 42) (f 43) n x := by kernel_rfl
theorem e_boolean_mapped (n : Nat) (f : prg.Fs) (x : A81) : prg.phi 48 n f x = Go.Bk.boolean_mapped.P n x := by kernel_rfl
theorem e_math_bits_Len64 (n : Nat) (f : prg.Fs) (x : Int) : prg.phi 103 n f x = Go.Bk.math_bits_Len64.P n x := by kernel_rfl
theorem e_math_bits_Len (n : Nat) (f : prg.Fs) (x : Int) : prg.phi 80 n f x = Go.Bk.math_bits_Len.P (f 103) n x := by kernel_rfl
theorem e_cmp_isNaN_int (n : Nat) (f : prg.Fs) (x : Int) : prg.phi 104 n f x = Go.Bk.cmp_isNaN_int.P n x := by kernel_rfl
theorem e_cmp_Compare_int (n : Nat) (f : prg.Fs) (x : A11) : prg.phi 82 n f x = Go.Bk.cmp_Compare_int.P (f 104) n x := by kernel_rfl
theorem e_slices_Compare_int_int (n : Nat) (f : prg.Fs) (x : A19) : prg.phi 83 n f x = Go.Bk.slices_Compare_int_int.P (f 82) n x := by kernel_rfl
theorem e_cmp_Or_int (n : Nat) (f : prg.Fs) (x : List Int) : prg.phi 81 n f x = Go.Bk.cmp_Or_int.P n x := by kernel_rfl
theorem e_auto_Order (n : Nat) (f : prg.Fs) (x : A1) : prg.phi 64 n f x = Go.Bk.auto_Order.P (f 82) (f 81) (f 83) n x := by kernel_rfl
theorem e_slices_insertionSortX (n : Nat) (f : prg.Fs) (x : A4) : prg.phi 1004 n f x = Go.Bk.slices_insertionSortX.P (f 64) n x := by kernel_rfl
theorem e_slices_siftDownX (n : Nat) (f : prg.Fs) (x : A0) : prg.phi 1006 n f x = Go.Bk.slices_siftDownX.P (f 64) n x := by kernel_rfl
theorem e_slices_heapSortX (n : Nat) (f : prg.Fs) (x : A4) : prg.phi 1005 n f x = Go.Bk.slices_heapSortX.P (f 1006) n x := by kernel_rfl
theorem e_slices_nextPowerOfTwo (n : Nat) (f : prg.Fs) (x : Int) : prg.phi 109 n f x = Go.Bk.slices_nextPowerOfTwo.P (f 80) n x := by kernel_rfl
theorem e_slices_xorshift_Next (n : Nat) (f : prg.Fs) (x : Int) : prg.phi 110 n f x = Go.Bk.slices_xorshift_Next.P n x := by kernel_rfl
theorem e_slices_breakPatternsX (n : Nat) (f : prg.Fs) (x : A4) : prg.phi 1007 n f x = Go.Bk.slices_breakPatternsX.P (f 109) (f 110) n x := by kernel_rfl
theorem e_slices_order2X (n : Nat) (f : prg.Fs) (x : A0) : prg.phi 1011 n f x = Go.Bk.slices_order2X.P (f 64) n x := by kernel_rfl
theorem e_slices_medianX (n : Nat) (f : prg.Fs) (x : A5) : prg.phi 1010 n f x = Go.Bk.slices_medianX.P (f 1011) n x := by kernel_rfl
theorem e_slices_choosePivotX (n : Nat) (f : prg.Fs) (x : A4) : prg.phi 1008 n f x = Go.Bk.slices_choosePivotX.P (f 1009) (f 1010) n x := by kernel_rfl
theorem e_slices_reverseRangeX (n : Nat) (f : prg.Fs) (x : A4) : prg.phi 1012 n f x = Go.Bk.slices_reverseRangeX.P n x := by kernel_rfl
theorem e_slices_partialInsertionSortX (n : Nat) (f : prg.Fs) (x : A4) : prg.phi 1013 n f x = Go.Bk.slices_partialInsertionSortX.P (f 64) n x := by kernel_rfl
theorem e_slices_partitionEqualX (n : Nat) (f : prg.Fs) (x : A0) : prg.phi 1014 n f x = Go.Bk.slices_partitionEqualX.P (f 64) n x := by kernel_rfl
theorem e_slices_partitionX (n : Nat) (f : prg.Fs) (x : A0) : prg.phi 1015 n f x = Go.Bk.slices_partitionX.P (f 64) n x := by kernel_rfl
theorem e_slices_pdqsortX (n : Nat) (f : prg.Fs) (x : A0) : prg.phi 1003 n f x = Go.Bk.slices_pdqsortX.P (f 64) (f 1007) (f 1008) (f 1005) (f 1004) (f 1013) (f 1015) (f 1014) (f 1003) (f 1012) n x := by kernel_rfl
theorem e_slices_SortFuncX (n : Nat) (f : prg.Fs) (x : List Ru) : prg.phi 1002 n f x = Go.Bk.slices_SortFuncX.P (f 80) (f 1003) n x := by kernel_rfl
theorem e_auto_Sorted_1 (n : Nat) (f : prg.Fs) (x : A1) : prg.phi 66 n f x = Go.Bk.auto_Sorted_1.P (f 64) n x := by kernel_rfl
theorem e_slices_CompactFuncX (n : Nat) (f : prg.Fs) (x : List Ru) : prg.phi 1016 n f x = Go.Bk.slices_CompactFuncX.P (f 66) n x := by kernel_rfl
theorem e_auto_Sorted (n : Nat) (f : prg.Fs) (x : List Ru) : prg.phi 50 n f x = Go.Bk.auto_Sorted.P (f 1016) (f 1002) n x := by kernel_rfl
theorem e_boolean_Relabel (n : Nat) (f : prg.Fs) (x : A65) : prg.phi 26 n f x = Go.Bk.boolean_Relabel.P (f 35) (f 50) (f 34) (f 48) (f 47) n x := by kernel_rfl
theorem e_law05_valid (n : Nat) (f : prg.Fs) (x : A20) : prg.phi 11 n f x = Go.Bk.law05_valid.P (f 33) n x := by kernel_rfl
theorem e_ref05_Mapped (n : Nat) (f : prg.Fs) (x : A81) : prg.phi 22 n f x = Go.Bk.ref05_Mapped.P n x := by kernel_rfl
theorem e_ref01_shaped (n : Nat) (f : prg.Fs) (x : A7) : prg.phi 39 n f x = Go.Bk.ref01_shaped.P (f 39) n x := by kernel_rfl
theorem e_ref01_Valid (n : Nat) (f : prg.Fs) (x : A7) : prg.phi 12 n f x = Go.Bk.ref01_Valid.P (f 29) (f 21) (f 39) n x := by kernel_rfl
theorem e_ref05_Map (n : Nat) (f : prg.Fs) (x : A7) : prg.phi 24 n f x = Go.Bk.ref05_Map.P (f 24) n x := by kernel_rfl
theorem e_ref05_Relabel (n : Nat) (f : prg.Fs) (x : A2) : prg.phi 27 n f x = Go.Bk.ref05_Relabel.P n x := by kernel_rfl
theorem e_ref03_Reached (n : Nat) (f : prg.Fs) (x : A3) : prg.phi 85 n f x = Go.Bk.ref03_Reached.P n x := by kernel_rfl
theorem e_ref03_Used (n : Nat) (f : prg.Fs) (x : A3) : prg.phi 72 n f x = Go.Bk.ref03_Used.P (f 85) n x := by kernel_rfl
theorem e_ref03_key (n : Nat) (f : prg.Fs) (x : A102) : prg.phi 106 n f x = Go.Bk.ref03_key.P n x := by kernel_rfl
theorem e_ref03_Less (n : Nat) (f : prg.Fs) (x : A19) : prg.phi 105 n f x = Go.Bk.ref03_Less.P n x := by kernel_rfl
theorem e_ref03_Sort (n : Nat) (f : prg.Fs) (x : List Ru) : prg.phi 84 n f x = Go.Bk.ref03_Sort.P (f 105) (f 106) n x := by kernel_rfl
theorem e_ref03_Keep (n : Nat) (f : prg.Fs) (x : A75) : prg.phi 71 n f x = Go.Bk.ref03_Keep.P (f 84) n x := by kernel_rfl
theorem e_ref03_Trimmed (n : Nat) (f : prg.Fs) (x : A3) : prg.phi 57 n f x = Go.Bk.ref03_Trimmed.P (f 71) (f 72) n x := by kernel_rfl
theorem e_ref03_Power (n : Nat) (f : prg.Fs) (x : A11) : prg.phi 70 n f x = Go.Bk.ref03_Power.P n x := by kernel_rfl
theorem e_ref04_Bits (n : Nat) (f : prg.Fs) (x : A3) : prg.phi 56 n f x = Go.Bk.ref04_Bits.P (f 70) (f 57) n x := by kernel_rfl
theorem e_ref01_List (n : Nat) (f : prg.Fs) (x : A19) : prg.phi 49 n f x = Go.Bk.ref01_List.P n x := by kernel_rfl
theorem e_ref03_One (n : Nat) (f : prg.Fs) (x : A3) : prg.phi 23 n f x = Go.Bk.ref03_One.P (f 49) n x := by kernel_rfl
theorem e_ref03_Full (n : Nat) (f : prg.Fs) (x : A18) : prg.phi 58 n f x = Go.Bk.ref03_Full.P (f 70) n x := by kernel_rfl
theorem e_ref04_Light (n : Nat) (f : prg.Fs) (x : A20) : prg.phi 44 n f x = Go.Bk.ref04_Light.P (f 58) (f 23) (f 57) (f 56) n x := by kernel_rfl
theorem e_ref04_Lists (n : Nat) (f : prg.Fs) (x : A11) : prg.phi 87 n f x = Go.Bk.ref04_Lists.P (f 87) n x := by kernel_rfl
theorem e_ref04_pick (n : Nat) (f : prg.Fs) (x : A59) : prg.phi 88 n f x = Go.Bk.ref04_pick.P n x := by kernel_rfl
theorem e_ref04_place (n : Nat) (f : prg.Fs) (x : A59) : prg.phi 89 n f x = Go.Bk.ref04_place.P (f 49) n x := by kernel_rfl
theorem e_ref04_Sets (n : Nat) (f : prg.Fs) (x : A2) : prg.phi 86 n f x = Go.Bk.ref04_Sets.P (f 55) (f 87) (f 88) (f 89) n x := by kernel_rfl
theorem e_ref04_Subset (n : Nat) (f : prg.Fs) (x : A2) : prg.phi 73 n f x = Go.Bk.ref04_Subset.P (f 42) (f 55) (f 33) (f 87) (f 86) (f 88) (f 89) n x := by kernel_rfl
theorem e_ref04_Over (n : Nat) (f : prg.Fs) (x : A18) : prg.phi 74 n f x = Go.Bk.ref04_Over.P (f 58) n x := by kernel_rfl
theorem e_ref04_Filled (n : Nat) (f : prg.Fs) (x : A2) : prg.phi 75 n f x = Go.Bk.ref04_Filled.P (f 49) (f 87) n x := by kernel_rfl
theorem e_ref04_Table_index (n : Nat) (f : prg.Fs) (x : A100) : prg.phi 107 n f x = Go.Bk.ref04_Table_index.P n x := by kernel_rfl
theorem e_ref04_Make (n : Nat) (f : prg.Fs) (x : A2) : prg.phi 90 n f x = Go.Bk.ref04_Make.P (f 70) (f 107) n x := by kernel_rfl
theorem e_ref04_Table_Next (n : Nat) (f : prg.Fs) (x : A29) : prg.phi 93 n f x = Go.Bk.ref04_Table_Next.P (f 107) n x := by kernel_rfl
theorem e_ref04_alike (n : Nat) (f : prg.Fs) (x : A27) : prg.phi 91 n f x = Go.Bk.ref04_alike.P (f 87) (f 93) n x := by kernel_rfl
theorem e_ref04_many (n : Nat) (f : prg.Fs) (x : List Int) : prg.phi 92 n f x = Go.Bk.ref04_many.P (f 69) n x := by kernel_rfl
theorem e_ref04_classes (n : Nat) (f : prg.Fs) (x : A2) : prg.phi 76 n f x = Go.Bk.ref04_classes.P (f 90) (f 91) (f 92) n x := by kernel_rfl
theorem e_ref04_Renumber (n : Nat) (f : prg.Fs) (x : A2) : prg.phi 77 n f x = Go.Bk.ref04_Renumber.P (f 54) (f 84) (f 87) (f 90) (f 93) n x := by kernel_rfl
theorem e_ref04_Minimal (n : Nat) (f : prg.Fs) (x : A2) : prg.phi 59 n f x = Go.Bk.ref04_Minimal.P (f 54) (f 69) (f 57) (f 75) (f 74) (f 77) (f 73) (f 76) n x := by kernel_rfl
theorem e_ref03_Same (n : Nat) (f : prg.Fs) (x : A6) : prg.phi 60 n f x = Go.Bk.ref03_Same.P (f 49) n x := by kernel_rfl
theorem e_ref04_Equal (n : Nat) (f : prg.Fs) (x : A9) : prg.phi 45 n f x = Go.Bk.ref04_Equal.P (f 60) (f 59) n x := by kernel_rfl
theorem e_ref04_Alike (n : Nat) (f : prg.Fs) (x : A9) : prg.phi 17 n f x = Go.Bk.ref04_Alike.P (f 45) (f 44) n x := by kernel_rfl
theorem e_law05_BooleanRelabels (n : Nat) (f : prg.Fs) (x : A37) : prg.phi 7 n f x = Go.Bk.law05_BooleanRelabels.P (f 26) (f 9) (f 8) (f 11) (f 12) (f 21) (f 16) (f 17) (f 24) (f 22) (f 27) n x := by kernel_rfl
end Go.Proofs.YtgkobbodicfofaaDoor.Am
end
noncomputable section
namespace Go.Proofs.YtgkobbodicfofaaDoor.Am
open Go Go.AM Go.Bk
set_option maxRecDepth 100000
set_option linter.unusedVariables false
noncomputable def f_slices_Clone_int_int (n : Nat) (x : List Int) : Option (List Int) := prg.run n i_slices_Clone_int_int x
theorem s_slices_Clone_int_int (n : Nat) (x : List Int) : f_slices_Clone_int_int (n + 1) x = cloneX x := by kernel_rfl
noncomputable def f_ref03_Few (n : Nat) (x : A41) : Option Bool := prg.run n i_ref03_Few x
noncomputable def f_ref01_count (n : Nat) (x : A12) : Option Int := prg.run n i_ref01_count x
noncomputable def f_ref01_Few (n : Nat) (x : A12) : Option Bool := prg.run n i_ref01_Few x
noncomputable def f_law05_few (n : Nat) (x : A26) : Option Bool := prg.run n i_law05_few x
noncomputable def f_tree_ValidAlphabet_1 (n : Nat) (x : Int) : Option Bool := prg.run n i_tree_ValidAlphabet_1 x
noncomputable def f_slices_IndexFuncY (n : Nat) (x : List Int) : Option Int := prg.run n i_slices_IndexFuncY x
noncomputable def f_slices_ContainsFuncY (n : Nat) (x : List Int) : Option Bool := prg.run n i_slices_ContainsFuncY x
noncomputable def f_tree_ValidAlphabet (n : Nat) (x : List Int) : Option Bool := prg.run n i_tree_ValidAlphabet x
noncomputable def f_auto_Valid_1 (n : Nat) (x : A56) : Option Bool := prg.run n i_auto_Valid_1 x
noncomputable def f_auto_Valid (n : Nat) (x : A2) : Option Bool := prg.run n i_auto_Valid x
noncomputable def f_auto_Copy (n : Nat) (x : A3) : Option (A3) := prg.run n i_auto_Copy x
noncomputable def f_ref01_ValidAlphabet (n : Nat) (x : List Int) : Option Bool := prg.run n i_ref01_ValidAlphabet x
noncomputable def f_ref03_Valid (n : Nat) (x : A2) : Option Bool := prg.run n i_ref03_Valid x
noncomputable def f_ref03_In (n : Nat) (x : A18) : Option Bool := prg.run n i_ref03_In x
noncomputable def f_ref03_Insert (n : Nat) (x : A18) : Option LI := prg.run n i_ref03_Insert x
noncomputable def f_ref03_Step (n : Nat) (x : A14) : Option LI := prg.run n i_ref03_Step x
noncomputable def f_ref03_Of (n : Nat) (x : A8) : Option LI := prg.run n i_ref03_Of x
noncomputable def f_ref03_Meet (n : Nat) (x : A19) : Option Bool := prg.run n i_ref03_Meet x
noncomputable def f_ref03_Has (n : Nat) (x : A8) : Option Bool := prg.run n i_ref03_Has x
noncomputable def f_law05_awake (n : Nat) (x : Unit) : Option Bool := prg.run n i_law05_awake x
noncomputable def f_boolean_mapped (n : Nat) (x : A81) : Option Int := prg.run n i_boolean_mapped x
noncomputable def f_math_bits_Len64 (n : Nat) (x : Int) : Option Int := prg.run n i_math_bits_Len64 x
noncomputable def f_math_bits_Len (n : Nat) (x : Int) : Option Int := prg.run n i_math_bits_Len x
noncomputable def f_cmp_isNaN_int (n : Nat) (x : Int) : Option Bool := prg.run n i_cmp_isNaN_int x
noncomputable def f_cmp_Compare_int (n : Nat) (x : A11) : Option Int := prg.run n i_cmp_Compare_int x
noncomputable def f_slices_Compare_int_int (n : Nat) (x : A19) : Option Int := prg.run n i_slices_Compare_int_int x
noncomputable def f_cmp_Or_int (n : Nat) (x : List Int) : Option Int := prg.run n i_cmp_Or_int x
noncomputable def f_auto_Order (n : Nat) (x : A1) : Option Int := prg.run n i_auto_Order x
noncomputable def f_slices_insertionSortX (n : Nat) (x : A4) : Option LR := prg.run n i_slices_insertionSortX x
noncomputable def f_slices_siftDownX (n : Nat) (x : A0) : Option LR := prg.run n i_slices_siftDownX x
noncomputable def f_slices_heapSortX (n : Nat) (x : A4) : Option LR := prg.run n i_slices_heapSortX x
noncomputable def f_slices_nextPowerOfTwo (n : Nat) (x : Int) : Option Int := prg.run n i_slices_nextPowerOfTwo x
noncomputable def f_slices_xorshift_Next (n : Nat) (x : Int) : Option (A11) := prg.run n i_slices_xorshift_Next x
noncomputable def f_slices_breakPatternsX (n : Nat) (x : A4) : Option LR := prg.run n i_slices_breakPatternsX x
noncomputable def f_slices_order2X (n : Nat) (x : A0) : Option (A117) := prg.run n i_slices_order2X x
noncomputable def f_slices_medianX (n : Nat) (x : A5) : Option (A111) := prg.run n i_slices_medianX x
noncomputable def f_slices_medianAdjacentX (n : Nat) (x : A4) : Option (A111) := prg.run n i_slices_medianAdjacentX x
noncomputable def f_slices_choosePivotX (n : Nat) (x : A4) : Option (A122) := prg.run n i_slices_choosePivotX x
noncomputable def f_slices_reverseRangeX (n : Nat) (x : A4) : Option LR := prg.run n i_slices_reverseRangeX x
noncomputable def f_slices_partialInsertionSortX (n : Nat) (x : A4) : Option (A123) := prg.run n i_slices_partialInsertionSortX x
noncomputable def f_slices_partitionEqualX (n : Nat) (x : A0) : Option (Int × LR) := prg.run n i_slices_partitionEqualX x
noncomputable def f_slices_partitionX (n : Nat) (x : A0) : Option (A119) := prg.run n i_slices_partitionX x
noncomputable def f_slices_pdqsortX (n : Nat) (x : A0) : Option LR := prg.run n i_slices_pdqsortX x
noncomputable def f_slices_SortFuncX (n : Nat) (x : List Ru) : Option LR := prg.run n i_slices_SortFuncX x
noncomputable def f_auto_Sorted_1 (n : Nat) (x : A1) : Option Bool := prg.run n i_auto_Sorted_1 x
noncomputable def f_slices_CompactFuncX (n : Nat) (x : List Ru) : Option LR := prg.run n i_slices_CompactFuncX x
noncomputable def f_auto_Sorted (n : Nat) (x : List Ru) : Option LR := prg.run n i_auto_Sorted x
noncomputable def f_boolean_Relabel (n : Nat) (x : A65) : Option (A121) := prg.run n i_boolean_Relabel x
noncomputable def f_law05_valid (n : Nat) (x : A20) : Option Bool := prg.run n i_law05_valid x
noncomputable def f_ref05_Mapped (n : Nat) (x : A81) : Option Int := prg.run n i_ref05_Mapped x
noncomputable def f_ref01_shaped (n : Nat) (x : A7) : Option Bool := prg.run n i_ref01_shaped x
noncomputable def f_ref01_Valid (n : Nat) (x : A7) : Option Bool := prg.run n i_ref01_Valid x
noncomputable def f_ref05_Map (n : Nat) (x : A7) : Option (A97) := prg.run n i_ref05_Map x
noncomputable def f_ref05_Relabel (n : Nat) (x : A2) : Option (A3) := prg.run n i_ref05_Relabel x
noncomputable def f_ref03_Reached (n : Nat) (x : A3) : Option (List Bool) := prg.run n i_ref03_Reached x
noncomputable def f_ref03_Used (n : Nat) (x : A3) : Option (List Bool) := prg.run n i_ref03_Used x
noncomputable def f_ref03_key (n : Nat) (x : A102) : Option LI := prg.run n i_ref03_key x
noncomputable def f_ref03_Less (n : Nat) (x : A19) : Option Int := prg.run n i_ref03_Less x
noncomputable def f_ref03_Sort (n : Nat) (x : List Ru) : Option LR := prg.run n i_ref03_Sort x
noncomputable def f_ref03_Keep (n : Nat) (x : A75) : Option (A3) := prg.run n i_ref03_Keep x
noncomputable def f_ref03_Trimmed (n : Nat) (x : A3) : Option (A3) := prg.run n i_ref03_Trimmed x
noncomputable def f_ref03_Power (n : Nat) (x : A11) : Option Int := prg.run n i_ref03_Power x
noncomputable def f_ref04_Bits (n : Nat) (x : A3) : Option Int := prg.run n i_ref04_Bits x
noncomputable def f_ref01_List (n : Nat) (x : A19) : Option Bool := prg.run n i_ref01_List x
noncomputable def f_ref03_One (n : Nat) (x : A3) : Option Bool := prg.run n i_ref03_One x
noncomputable def f_ref03_Full (n : Nat) (x : A18) : Option Int := prg.run n i_ref03_Full x
noncomputable def f_ref04_Light (n : Nat) (x : A20) : Option Bool := prg.run n i_ref04_Light x
noncomputable def f_ref04_Lists (n : Nat) (x : A11) : Option LL := prg.run n i_ref04_Lists x
noncomputable def f_ref04_pick (n : Nat) (x : A59) : Option LL := prg.run n i_ref04_pick x
noncomputable def f_ref04_place (n : Nat) (x : A59) : Option Int := prg.run n i_ref04_place x
noncomputable def f_ref04_Sets (n : Nat) (x : A2) : Option (A128) := prg.run n i_ref04_Sets x
noncomputable def f_ref04_Subset (n : Nat) (x : A2) : Option (A110) := prg.run n i_ref04_Subset x
noncomputable def f_ref04_Over (n : Nat) (x : A18) : Option Bool := prg.run n i_ref04_Over x
noncomputable def f_ref04_Filled (n : Nat) (x : A2) : Option (A3) := prg.run n i_ref04_Filled x
noncomputable def f_ref04_Table_index (n : Nat) (x : A100) : Option Int := prg.run n i_ref04_Table_index x
noncomputable def f_ref04_Make (n : Nat) (x : A2) : Option (Int × LL) := prg.run n i_ref04_Make x
noncomputable def f_ref04_Table_Next (n : Nat) (x : A29) : Option Int := prg.run n i_ref04_Table_Next x
noncomputable def f_ref04_alike (n : Nat) (x : A27) : Option Bool := prg.run n i_ref04_alike x
noncomputable def f_ref04_many (n : Nat) (x : List Int) : Option Int := prg.run n i_ref04_many x
noncomputable def f_ref04_classes (n : Nat) (x : A2) : Option LI := prg.run n i_ref04_classes x
noncomputable def f_ref04_Renumber (n : Nat) (x : A2) : Option (A3) := prg.run n i_ref04_Renumber x
noncomputable def f_ref04_Minimal (n : Nat) (x : A2) : Option (A118) := prg.run n i_ref04_Minimal x
noncomputable def f_ref03_Same (n : Nat) (x : A6) : Option Bool := prg.run n i_ref03_Same x
noncomputable def f_ref04_Equal (n : Nat) (x : A9) : Option (Bool × Bool) := prg.run n i_ref04_Equal x
noncomputable def f_ref04_Alike (n : Nat) (x : A9) : Option Bool := prg.run n i_ref04_Alike x
noncomputable def f_law05_BooleanRelabels (n : Nat) (x : A37) : Option Bool := prg.run n i_law05_BooleanRelabels x
theorem s_ref03_Few (n : Nat) (x : A41) : f_ref03_Few (n + 1) x = Go.Bk.ref03_Few.P n x := e_ref03_Few n (prg.run n) x
theorem s_ref01_count (n : Nat) (x : A12) : f_ref01_count (n + 1) x = Go.Bk.ref01_count.P (f_ref01_count n) n x := e_ref01_count n (prg.run n) x
theorem s_ref01_Few (n : Nat) (x : A12) : f_ref01_Few (n + 1) x = Go.Bk.ref01_Few.P (f_ref01_count n) n x := e_ref01_Few n (prg.run n) x
theorem s_law05_few (n : Nat) (x : A26) : f_law05_few (n + 1) x = Go.Bk.law05_few.P (f_ref01_Few n) (f_ref03_Few n) n x := e_law05_few n (prg.run n) x
theorem s_tree_ValidAlphabet_1 (n : Nat) (x : Int) : f_tree_ValidAlphabet_1 (n + 1) x = Go.Bk.tree_ValidAlphabet_1.P n x := e_tree_ValidAlphabet_1 n (prg.run n) x
theorem s_slices_IndexFuncY (n : Nat) (x : List Int) : f_slices_IndexFuncY (n + 1) x = Go.Bk.slices_IndexFuncY.P (f_tree_ValidAlphabet_1 n) n x := e_slices_IndexFuncY n (prg.run n) x
theorem s_slices_ContainsFuncY (n : Nat) (x : List Int) : f_slices_ContainsFuncY (n + 1) x = Go.Bk.slices_ContainsFuncY.P (f_slices_IndexFuncY n) n x := e_slices_ContainsFuncY n (prg.run n) x
theorem s_tree_ValidAlphabet (n : Nat) (x : List Int) : f_tree_ValidAlphabet (n + 1) x = Go.Bk.tree_ValidAlphabet.P (f_slices_ContainsFuncY n) n x := e_tree_ValidAlphabet n (prg.run n) x
theorem s_auto_Valid_1 (n : Nat) (x : A56) : f_auto_Valid_1 (n + 1) x = Go.Bk.auto_Valid_1.P n x := e_auto_Valid_1 n (prg.run n) x
theorem s_auto_Valid (n : Nat) (x : A2) : f_auto_Valid (n + 1) x = Go.Bk.auto_Valid.P (f_auto_Valid_1 n) (f_tree_ValidAlphabet n) n x := e_auto_Valid n (prg.run n) x
theorem s_auto_Copy (n : Nat) (x : A3) : f_auto_Copy (n + 1) x = Go.Bk.auto_Copy.P (f_slices_Clone_int_int n) n x := e_auto_Copy n (prg.run n) x
theorem s_ref01_ValidAlphabet (n : Nat) (x : List Int) : f_ref01_ValidAlphabet (n + 1) x = Go.Bk.ref01_ValidAlphabet.P n x := e_ref01_ValidAlphabet n (prg.run n) x
theorem s_ref03_Valid (n : Nat) (x : A2) : f_ref03_Valid (n + 1) x = Go.Bk.ref03_Valid.P (f_ref01_ValidAlphabet n) n x := e_ref03_Valid n (prg.run n) x
theorem s_ref03_In (n : Nat) (x : A18) : f_ref03_In (n + 1) x = Go.Bk.ref03_In.P n x := e_ref03_In n (prg.run n) x
theorem s_ref03_Insert (n : Nat) (x : A18) : f_ref03_Insert (n + 1) x = Go.Bk.ref03_Insert.P n x := e_ref03_Insert n (prg.run n) x
theorem s_ref03_Step (n : Nat) (x : A14) : f_ref03_Step (n + 1) x = Go.Bk.ref03_Step.P (f_ref03_In n) (f_ref03_Insert n) n x := e_ref03_Step n (prg.run n) x
theorem s_ref03_Of (n : Nat) (x : A8) : f_ref03_Of (n + 1) x = Go.Bk.ref03_Of.P (f_ref03_Of n) (f_ref03_Step n) n x := e_ref03_Of n (prg.run n) x
theorem s_ref03_Meet (n : Nat) (x : A19) : f_ref03_Meet (n + 1) x = Go.Bk.ref03_Meet.P (f_ref03_In n) n x := e_ref03_Meet n (prg.run n) x
theorem s_ref03_Has (n : Nat) (x : A8) : f_ref03_Has (n + 1) x = Go.Bk.ref03_Has.P (f_ref03_Meet n) (f_ref03_Of n) n x := e_ref03_Has n (prg.run n) x
theorem s_boolean_mapped (n : Nat) (x : A81) : f_boolean_mapped (n + 1) x = Go.Bk.boolean_mapped.P n x := e_boolean_mapped n (prg.run n) x
theorem s_math_bits_Len64 (n : Nat) (x : Int) : f_math_bits_Len64 (n + 1) x = Go.Bk.math_bits_Len64.P n x := e_math_bits_Len64 n (prg.run n) x
theorem s_math_bits_Len (n : Nat) (x : Int) : f_math_bits_Len (n + 1) x = Go.Bk.math_bits_Len.P (f_math_bits_Len64 n) n x := e_math_bits_Len n (prg.run n) x
theorem s_cmp_isNaN_int (n : Nat) (x : Int) : f_cmp_isNaN_int (n + 1) x = Go.Bk.cmp_isNaN_int.P n x := e_cmp_isNaN_int n (prg.run n) x
theorem s_cmp_Compare_int (n : Nat) (x : A11) : f_cmp_Compare_int (n + 1) x = Go.Bk.cmp_Compare_int.P (f_cmp_isNaN_int n) n x := e_cmp_Compare_int n (prg.run n) x
theorem s_slices_Compare_int_int (n : Nat) (x : A19) : f_slices_Compare_int_int (n + 1) x = Go.Bk.slices_Compare_int_int.P (f_cmp_Compare_int n) n x := e_slices_Compare_int_int n (prg.run n) x
theorem s_cmp_Or_int (n : Nat) (x : List Int) : f_cmp_Or_int (n + 1) x = Go.Bk.cmp_Or_int.P n x := e_cmp_Or_int n (prg.run n) x
theorem s_auto_Order (n : Nat) (x : A1) : f_auto_Order (n + 1) x = Go.Bk.auto_Order.P (f_cmp_Compare_int n) (f_cmp_Or_int n) (f_slices_Compare_int_int n) n x := e_auto_Order n (prg.run n) x
theorem s_slices_insertionSortX (n : Nat) (x : A4) : f_slices_insertionSortX (n + 1) x = Go.Bk.slices_insertionSortX.P (f_auto_Order n) n x := e_slices_insertionSortX n (prg.run n) x
theorem s_slices_siftDownX (n : Nat) (x : A0) : f_slices_siftDownX (n + 1) x = Go.Bk.slices_siftDownX.P (f_auto_Order n) n x := e_slices_siftDownX n (prg.run n) x
theorem s_slices_heapSortX (n : Nat) (x : A4) : f_slices_heapSortX (n + 1) x = Go.Bk.slices_heapSortX.P (f_slices_siftDownX n) n x := e_slices_heapSortX n (prg.run n) x
theorem s_slices_nextPowerOfTwo (n : Nat) (x : Int) : f_slices_nextPowerOfTwo (n + 1) x = Go.Bk.slices_nextPowerOfTwo.P (f_math_bits_Len n) n x := e_slices_nextPowerOfTwo n (prg.run n) x
theorem s_slices_xorshift_Next (n : Nat) (x : Int) : f_slices_xorshift_Next (n + 1) x = Go.Bk.slices_xorshift_Next.P n x := e_slices_xorshift_Next n (prg.run n) x
theorem s_slices_breakPatternsX (n : Nat) (x : A4) : f_slices_breakPatternsX (n + 1) x = Go.Bk.slices_breakPatternsX.P (f_slices_nextPowerOfTwo n) (f_slices_xorshift_Next n) n x := e_slices_breakPatternsX n (prg.run n) x
theorem s_slices_order2X (n : Nat) (x : A0) : f_slices_order2X (n + 1) x = Go.Bk.slices_order2X.P (f_auto_Order n) n x := e_slices_order2X n (prg.run n) x
theorem s_slices_medianX (n : Nat) (x : A5) : f_slices_medianX (n + 1) x = Go.Bk.slices_medianX.P (f_slices_order2X n) n x := e_slices_medianX n (prg.run n) x
theorem s_slices_choosePivotX (n : Nat) (x : A4) : f_slices_choosePivotX (n + 1) x = Go.Bk.slices_choosePivotX.P (f_slices_medianAdjacentX n) (f_slices_medianX n) n x := e_slices_choosePivotX n (prg.run n) x
theorem s_slices_reverseRangeX (n : Nat) (x : A4) : f_slices_reverseRangeX (n + 1) x = Go.Bk.slices_reverseRangeX.P n x := e_slices_reverseRangeX n (prg.run n) x
theorem s_slices_partialInsertionSortX (n : Nat) (x : A4) : f_slices_partialInsertionSortX (n + 1) x = Go.Bk.slices_partialInsertionSortX.P (f_auto_Order n) n x := e_slices_partialInsertionSortX n (prg.run n) x
theorem s_slices_partitionEqualX (n : Nat) (x : A0) : f_slices_partitionEqualX (n + 1) x = Go.Bk.slices_partitionEqualX.P (f_auto_Order n) n x := e_slices_partitionEqualX n (prg.run n) x
theorem s_slices_partitionX (n : Nat) (x : A0) : f_slices_partitionX (n + 1) x = Go.Bk.slices_partitionX.P (f_auto_Order n) n x := e_slices_partitionX n (prg.run n) x
theorem s_slices_pdqsortX (n : Nat) (x : A0) : f_slices_pdqsortX (n + 1) x = Go.Bk.slices_pdqsortX.P (f_auto_Order n) (f_slices_breakPatternsX n) (f_slices_choosePivotX n) (f_slices_heapSortX n) (f_slices_insertionSortX n) (f_slices_partialInsertionSortX n) (f_slices_partitionX n) (f_slices_partitionEqualX n) (f_slices_pdqsortX n) (f_slices_reverseRangeX n) n x := e_slices_pdqsortX n (prg.run n) x
theorem s_slices_SortFuncX (n : Nat) (x : List Ru) : f_slices_SortFuncX (n + 1) x = Go.Bk.slices_SortFuncX.P (f_math_bits_Len n) (f_slices_pdqsortX n) n x := e_slices_SortFuncX n (prg.run n) x
theorem s_auto_Sorted_1 (n : Nat) (x : A1) : f_auto_Sorted_1 (n + 1) x = Go.Bk.auto_Sorted_1.P (f_auto_Order n) n x := e_auto_Sorted_1 n (prg.run n) x
theorem s_slices_CompactFuncX (n : Nat) (x : List Ru) : f_slices_CompactFuncX (n + 1) x = Go.Bk.slices_CompactFuncX.P (f_auto_Sorted_1 n) n x := e_slices_CompactFuncX n (prg.run n) x
theorem s_auto_Sorted (n : Nat) (x : List Ru) : f_auto_Sorted (n + 1) x = Go.Bk.auto_Sorted.P (f_slices_CompactFuncX n) (f_slices_SortFuncX n) n x := e_auto_Sorted n (prg.run n) x
theorem s_boolean_Relabel (n : Nat) (x : A65) : f_boolean_Relabel (n + 1) x = Go.Bk.boolean_Relabel.P (f_auto_Copy n) (f_auto_Sorted n) (f_auto_Valid n) (f_boolean_mapped n) (f_tree_ValidAlphabet n) n x := e_boolean_Relabel n (prg.run n) x
theorem s_law05_valid (n : Nat) (x : A20) : f_law05_valid (n + 1) x = Go.Bk.law05_valid.P (f_ref03_Valid n) n x := e_law05_valid n (prg.run n) x
theorem s_ref05_Mapped (n : Nat) (x : A81) : f_ref05_Mapped (n + 1) x = Go.Bk.ref05_Mapped.P n x := e_ref05_Mapped n (prg.run n) x
theorem s_ref01_shaped (n : Nat) (x : A7) : f_ref01_shaped (n + 1) x = Go.Bk.ref01_shaped.P (f_ref01_shaped n) n x := e_ref01_shaped n (prg.run n) x
theorem s_ref01_Valid (n : Nat) (x : A7) : f_ref01_Valid (n + 1) x = Go.Bk.ref01_Valid.P (f_ref01_Few n) (f_ref01_ValidAlphabet n) (f_ref01_shaped n) n x := e_ref01_Valid n (prg.run n) x
theorem s_ref05_Map (n : Nat) (x : A7) : f_ref05_Map (n + 1) x = Go.Bk.ref05_Map.P (f_ref05_Map n) n x := e_ref05_Map n (prg.run n) x
theorem s_ref05_Relabel (n : Nat) (x : A2) : f_ref05_Relabel (n + 1) x = Go.Bk.ref05_Relabel.P n x := e_ref05_Relabel n (prg.run n) x
theorem s_ref03_Reached (n : Nat) (x : A3) : f_ref03_Reached (n + 1) x = Go.Bk.ref03_Reached.P n x := e_ref03_Reached n (prg.run n) x
theorem s_ref03_Used (n : Nat) (x : A3) : f_ref03_Used (n + 1) x = Go.Bk.ref03_Used.P (f_ref03_Reached n) n x := e_ref03_Used n (prg.run n) x
theorem s_ref03_key (n : Nat) (x : A102) : f_ref03_key (n + 1) x = Go.Bk.ref03_key.P n x := e_ref03_key n (prg.run n) x
theorem s_ref03_Less (n : Nat) (x : A19) : f_ref03_Less (n + 1) x = Go.Bk.ref03_Less.P n x := e_ref03_Less n (prg.run n) x
theorem s_ref03_Sort (n : Nat) (x : List Ru) : f_ref03_Sort (n + 1) x = Go.Bk.ref03_Sort.P (f_ref03_Less n) (f_ref03_key n) n x := e_ref03_Sort n (prg.run n) x
theorem s_ref03_Keep (n : Nat) (x : A75) : f_ref03_Keep (n + 1) x = Go.Bk.ref03_Keep.P (f_ref03_Sort n) n x := e_ref03_Keep n (prg.run n) x
theorem s_ref03_Trimmed (n : Nat) (x : A3) : f_ref03_Trimmed (n + 1) x = Go.Bk.ref03_Trimmed.P (f_ref03_Keep n) (f_ref03_Used n) n x := e_ref03_Trimmed n (prg.run n) x
theorem s_ref03_Power (n : Nat) (x : A11) : f_ref03_Power (n + 1) x = Go.Bk.ref03_Power.P n x := e_ref03_Power n (prg.run n) x
theorem s_ref04_Bits (n : Nat) (x : A3) : f_ref04_Bits (n + 1) x = Go.Bk.ref04_Bits.P (f_ref03_Power n) (f_ref03_Trimmed n) n x := e_ref04_Bits n (prg.run n) x
theorem s_ref01_List (n : Nat) (x : A19) : f_ref01_List (n + 1) x = Go.Bk.ref01_List.P n x := e_ref01_List n (prg.run n) x
theorem s_ref03_One (n : Nat) (x : A3) : f_ref03_One (n + 1) x = Go.Bk.ref03_One.P (f_ref01_List n) n x := e_ref03_One n (prg.run n) x
theorem s_ref03_Full (n : Nat) (x : A18) : f_ref03_Full (n + 1) x = Go.Bk.ref03_Full.P (f_ref03_Power n) n x := e_ref03_Full n (prg.run n) x
theorem s_ref04_Light (n : Nat) (x : A20) : f_ref04_Light (n + 1) x = Go.Bk.ref04_Light.P (f_ref03_Full n) (f_ref03_One n) (f_ref03_Trimmed n) (f_ref04_Bits n) n x := e_ref04_Light n (prg.run n) x
theorem s_ref04_Lists (n : Nat) (x : A11) : f_ref04_Lists (n + 1) x = Go.Bk.ref04_Lists.P (f_ref04_Lists n) n x := e_ref04_Lists n (prg.run n) x
theorem s_ref04_pick (n : Nat) (x : A59) : f_ref04_pick (n + 1) x = Go.Bk.ref04_pick.P n x := e_ref04_pick n (prg.run n) x
theorem s_ref04_place (n : Nat) (x : A59) : f_ref04_place (n + 1) x = Go.Bk.ref04_place.P (f_ref01_List n) n x := e_ref04_place n (prg.run n) x
theorem s_ref04_Sets (n : Nat) (x : A2) : f_ref04_Sets (n + 1) x = Go.Bk.ref04_Sets.P (f_ref03_Step n) (f_ref04_Lists n) (f_ref04_pick n) (f_ref04_place n) n x := e_ref04_Sets n (prg.run n) x
theorem s_ref04_Subset (n : Nat) (x : A2) : f_ref04_Subset (n + 1) x = Go.Bk.ref04_Subset.P (f_ref03_Meet n) (f_ref03_Step n) (f_ref03_Valid n) (f_ref04_Lists n) (f_ref04_Sets n) (f_ref04_pick n) (f_ref04_place n) n x := e_ref04_Subset n (prg.run n) x
theorem s_ref04_Over (n : Nat) (x : A18) : f_ref04_Over (n + 1) x = Go.Bk.ref04_Over.P (f_ref03_Full n) n x := e_ref04_Over n (prg.run n) x
theorem s_ref04_Filled (n : Nat) (x : A2) : f_ref04_Filled (n + 1) x = Go.Bk.ref04_Filled.P (f_ref01_List n) (f_ref04_Lists n) n x := e_ref04_Filled n (prg.run n) x
theorem s_ref04_Table_index (n : Nat) (x : A100) : f_ref04_Table_index (n + 1) x = Go.Bk.ref04_Table_index.P n x := e_ref04_Table_index n (prg.run n) x
theorem s_ref04_Make (n : Nat) (x : A2) : f_ref04_Make (n + 1) x = Go.Bk.ref04_Make.P (f_ref03_Power n) (f_ref04_Table_index n) n x := e_ref04_Make n (prg.run n) x
theorem s_ref04_Table_Next (n : Nat) (x : A29) : f_ref04_Table_Next (n + 1) x = Go.Bk.ref04_Table_Next.P (f_ref04_Table_index n) n x := e_ref04_Table_Next n (prg.run n) x
theorem s_ref04_alike (n : Nat) (x : A27) : f_ref04_alike (n + 1) x = Go.Bk.ref04_alike.P (f_ref04_Lists n) (f_ref04_Table_Next n) n x := e_ref04_alike n (prg.run n) x
theorem s_ref04_many (n : Nat) (x : List Int) : f_ref04_many (n + 1) x = Go.Bk.ref04_many.P (f_ref03_Insert n) n x := e_ref04_many n (prg.run n) x
theorem s_ref04_classes (n : Nat) (x : A2) : f_ref04_classes (n + 1) x = Go.Bk.ref04_classes.P (f_ref04_Make n) (f_ref04_alike n) (f_ref04_many n) n x := e_ref04_classes n (prg.run n) x
theorem s_ref04_Renumber (n : Nat) (x : A2) : f_ref04_Renumber (n + 1) x = Go.Bk.ref04_Renumber.P (f_ref03_In n) (f_ref03_Sort n) (f_ref04_Lists n) (f_ref04_Make n) (f_ref04_Table_Next n) n x := e_ref04_Renumber n (prg.run n) x
theorem s_ref04_Minimal (n : Nat) (x : A2) : f_ref04_Minimal (n + 1) x = Go.Bk.ref04_Minimal.P (f_ref03_In n) (f_ref03_Insert n) (f_ref03_Trimmed n) (f_ref04_Filled n) (f_ref04_Over n) (f_ref04_Renumber n) (f_ref04_Subset n) (f_ref04_classes n) n x := e_ref04_Minimal n (prg.run n) x
theorem s_ref03_Same (n : Nat) (x : A6) : f_ref03_Same (n + 1) x = Go.Bk.ref03_Same.P (f_ref01_List n) n x := e_ref03_Same n (prg.run n) x
theorem s_ref04_Equal (n : Nat) (x : A9) : f_ref04_Equal (n + 1) x = Go.Bk.ref04_Equal.P (f_ref03_Same n) (f_ref04_Minimal n) n x := e_ref04_Equal n (prg.run n) x
theorem s_ref04_Alike (n : Nat) (x : A9) : f_ref04_Alike (n + 1) x = Go.Bk.ref04_Alike.P (f_ref04_Equal n) (f_ref04_Light n) n x := e_ref04_Alike n (prg.run n) x
theorem s_law05_BooleanRelabels (n : Nat) (x : A37) : f_law05_BooleanRelabels (n + 1) x = Go.Bk.law05_BooleanRelabels.P (f_boolean_Relabel n) (f_law05_awake n) (f_law05_few n) (f_law05_valid n) (f_ref01_Valid n) (f_ref01_ValidAlphabet n) (f_ref03_Has n) (f_ref04_Alike n) (f_ref05_Map n) (f_ref05_Mapped n) (f_ref05_Relabel n) n x := e_law05_BooleanRelabels n (prg.run n) x
end Go.Proofs.YtgkobbodicfofaaDoor.Am
end
