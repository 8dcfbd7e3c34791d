import Derived.Test.YtgkobbodicfofaaDoorPt
import Derived.KernelRfl
import Derived.Test.YtgkobbodicfofaaDoorMk
noncomputable section
namespace Go.Proofs.YtgkobbodicfofaaDoor.Am
open Go Go.AM Go.Bk
set_option maxRecDepth 100000
set_option linter.unusedVariables false
abbrev i_ref03_Few : Nat := 28
abbrev i_ref01_count : Nat := 51
abbrev i_ref01_Few : Nat := 29
abbrev i_law05_few : Nat := 8
abbrev i_law05_even : Nat := 30
abbrev i_tree_ValidAlphabet_1 : Nat := 62
abbrev i_slices_IndexFunc_int_int_of_tree_ValidAlphabet_1 : Nat := 1001
abbrev i_slices_ContainsFunc_int_int_of_tree_ValidAlphabet_1 : Nat := 1000
abbrev i_tree_ValidAlphabet : Nat := 47
abbrev i_auto_Valid_1 : Nat := 52
abbrev i_auto_Valid : Nat := 34
abbrev i_slices_Clone_int_int : Nat := 37
abbrev i_auto_Copy : Nat := 35
abbrev i_auto_Final : Nat := 36
abbrev i_math_bits_Mul64 : Nat := 68
abbrev i_math_bits_Mul : Nat := 53
abbrev i_slices_Repeat_int_int : Nat := 38
abbrev i_boolean_Under : Nat := 10
abbrev i_law05_leaf : Nat := 32
abbrev i_law05_f : Nat := 31
abbrev i_ref01_ValidAlphabet : Nat := 21
abbrev i_ref03_Valid : Nat := 33
abbrev i_ref03_In : Nat := 54
abbrev i_ref03_Insert : Nat := 69
abbrev i_ref03_Step : Nat := 55
abbrev i_ref03_Of : Nat := 43
abbrev i_ref03_Meet : Nat := 42
abbrev i_ref03_Has : Nat := 16
abbrev i_law05_awake : Nat := 9
abbrev i_auto_Copy_own : Nat := 1002
abbrev i_boolean_Union : Nat := 15
abbrev i_law05_valid : Nat := 11
abbrev i_ref01_shaped : Nat := 39
abbrev i_ref01_Valid : Nat := 12
abbrev i_law05_right : Nat := 13
abbrev i_ref05_shift : Nat := 46
abbrev i_ref05_Union : Nat := 18
abbrev i_ref03_Reached : Nat := 85
abbrev i_ref03_Used : Nat := 72
abbrev i_ref03_key : Nat := 106
abbrev i_ref03_Less : Nat := 105
abbrev i_ref03_Sort : Nat := 84
abbrev i_ref03_Keep : Nat := 71
abbrev i_ref03_Trimmed : Nat := 57
abbrev i_ref03_Power : Nat := 70
abbrev i_ref04_Bits : Nat := 56
abbrev i_ref01_List : Nat := 49
abbrev i_ref03_One : Nat := 23
abbrev i_ref03_Full : Nat := 58
abbrev i_ref04_Light : Nat := 44
abbrev i_ref04_Lists : Nat := 87
abbrev i_ref04_pick : Nat := 88
abbrev i_ref04_place : Nat := 89
abbrev i_ref04_Sets : Nat := 86
abbrev i_ref04_Subset : Nat := 73
abbrev i_ref04_Over : Nat := 74
abbrev i_ref04_Filled : Nat := 75
abbrev i_ref04_Table_index : Nat := 107
abbrev i_ref04_Make : Nat := 90
abbrev i_ref04_Table_Next : Nat := 93
abbrev i_ref04_alike : Nat := 91
abbrev i_ref04_many : Nat := 92
abbrev i_ref04_classes : Nat := 76
abbrev i_ref04_Renumber : Nat := 77
abbrev i_ref04_Minimal : Nat := 59
abbrev i_ref03_Same : Nat := 60
abbrev i_ref04_Equal : Nat := 45
abbrev i_ref04_Alike : Nat := 17
abbrev i_law05_BooleanUnion : Nat := 4
abbrev i_boolean_mapped : Nat := 48
abbrev i_boolean_Unlabel : Nat := 20
abbrev i_ref05_Mapped : Nat := 22
abbrev i_ref05_Map : Nat := 24
abbrev i_ref05_Unlabel : Nat := 25
abbrev i_law05_BooleanUnlabels : Nat := 6
theorem e_ref03_Few (n : Nat) (f : prg.Fs) (x : LI × Int × Int × (List (Int × LI × LR))) : prg.phi 28 n f x = Go.Bk.ref03_Few.P n x := by kernel_rfl
theorem r_ref03_Few (n : Nat) (x : LI × Int × Int × (List (Int × LI × LR))) : prg.run (n + 1) i_ref03_Few x = Go.Bk.ref03_Few.P n x := e_ref03_Few n (prg.run n) x
theorem e_ref01_count (n : Nat) (f : prg.Fs) (x : Int × (List (RT Int)) × Int) : prg.phi 51 n f x = Go.Bk.ref01_count.P (f 51) n x := by kernel_rfl
theorem r_ref01_count (n : Nat) (x : Int × (List (RT Int)) × Int) : prg.run (n + 1) i_ref01_count x = Go.Bk.ref01_count.P (prg.run n i_ref01_count) n x := e_ref01_count n (prg.run n) x
theorem e_ref01_Few (n : Nat) (f : prg.Fs) (x : Int × (List (RT Int)) × Int) : prg.phi 29 n f x = Go.Bk.ref01_Few.P (f 51) n x := by kernel_rfl
theorem r_ref01_Few (n : Nat) (x : Int × (List (RT Int)) × Int) : prg.run (n + 1) i_ref01_Few x = Go.Bk.ref01_Few.P (prg.run n i_ref01_count) n x := e_ref01_Few n (prg.run n) x
theorem e_law05_few (n : Nat) (f : prg.Fs) (x : LI × Int × (List (RT Int)) × (List (Int × LI × LR))) : prg.phi 8 n f x = Go.Bk.law05_few.P (f 29) (f 28) n x := by kernel_rfl
theorem r_law05_few (n : Nat) (x : LI × Int × (List (RT Int)) × (List (Int × LI × LR))) : prg.run (n + 1) i_law05_few x = Go.Bk.law05_few.P (prg.run n i_ref01_Few) (prg.run n i_ref03_Few) n x := e_law05_few n (prg.run n) x
theorem e_law05_even (n : Nat) (f : prg.Fs) (x : Unit) : prg.phi 30 n f x = Go.Bk.law05_even.P n x := by kernel_rfl
theorem r_law05_even (n : Nat) (x : Unit) : prg.run (n + 1) i_law05_even x = Go.Bk.law05_even.P n x := e_law05_even n (prg.run n) x
theorem e_tree_ValidAlphabet_1 (n : Nat) (f : prg.Fs) (x : Int) : prg.phi 62 n f x = Go.Bk.tree_ValidAlphabet_1.P n x := by kernel_rfl
theorem r_tree_ValidAlphabet_1 (n : Nat) (x : Int) : prg.run (n + 1) i_tree_ValidAlphabet_1 x = Go.Bk.tree_ValidAlphabet_1.P n x := e_tree_ValidAlphabet_1 n (prg.run n) x
theorem e_slices_IndexFunc_int_int_of_tree_ValidAlphabet_1 (n : Nat) (f : prg.Fs) (x : List Int) : prg.phi 1001 n f x = Go.Bk.slices_IndexFunc_int_int_of_tree_ValidAlphabet_1.P (f 62) n x := by kernel_rfl
theorem r_slices_IndexFunc_int_int_of_tree_ValidAlphabet_1 (n : Nat) (x : List Int) : prg.run (n + 1) i_slices_IndexFunc_int_int_of_tree_ValidAlphabet_1 x = Go.Bk.slices_IndexFunc_int_int_of_tree_ValidAlphabet_1.P (prg.run n i_tree_ValidAlphabet_1) n x := e_slices_IndexFunc_int_int_of_tree_ValidAlphabet_1 n (prg.run n) x
theorem e_slices_ContainsFunc_int_int_of_tree_ValidAlphabet_1 (n : Nat) (f : prg.Fs) (x : List Int) : prg.phi 1000 n f x = Go.Bk.slices_ContainsFunc_int_int_of_tree_ValidAlphabet_1.P (f 1001) n x := by kernel_rfl
theorem r_slices_ContainsFunc_int_int_of_tree_ValidAlphabet_1 (n : Nat) (x : List Int) : prg.run (n + 1) i_slices_ContainsFunc_int_int_of_tree_ValidAlphabet_1 x = Go.Bk.slices_ContainsFunc_int_int_of_tree_ValidAlphabet_1.P (prg.run n i_slices_IndexFunc_int_int_of_tree_ValidAlphabet_1) n x := e_slices_ContainsFunc_int_int_of_tree_ValidAlphabet_1 n (prg.run n) x
theorem e_tree_ValidAlphabet (n : Nat) (f : prg.Fs) (x : List Int) : prg.phi 47 n f x = Go.Bk.tree_ValidAlphabet.P (f 1000) n x := by kernel_rfl
theorem r_tree_ValidAlphabet (n : Nat) (x : List Int) : prg.run (n + 1) i_tree_ValidAlphabet x = Go.Bk.tree_ValidAlphabet.P (prg.run n i_slices_ContainsFunc_int_int_of_tree_ValidAlphabet_1) n x := e_tree_ValidAlphabet n (prg.run n) x
theorem e_auto_Valid_1 (n : Nat) (f : prg.Fs) (x : Int × Int × LI × LR) : prg.phi 52 n f x = Go.Bk.auto_Valid_1.P n x := by kernel_rfl
theorem r_auto_Valid_1 (n : Nat) (x : Int × Int × LI × LR) : prg.run (n + 1) i_auto_Valid_1 x = Go.Bk.auto_Valid_1.P n x := e_auto_Valid_1 n (prg.run n) x
theorem e_auto_Valid (n : Nat) (f : prg.Fs) (x : LI × Int × LI × LR) : prg.phi 34 n f x = Go.Bk.auto_Valid.P (f 52) (f 47) n x := by kernel_rfl
theorem r_auto_Valid (n : Nat) (x : LI × Int × LI × LR) : prg.run (n + 1) i_auto_Valid x = Go.Bk.auto_Valid.P (prg.run n i_auto_Valid_1) (prg.run n i_tree_ValidAlphabet) n x := e_auto_Valid n (prg.run n) x
theorem e_auto_Copy (n : Nat) (f : prg.Fs) (x : Int × LI × LR) : prg.phi 35 n f x = Go.Bk.auto_Copy.P (f 37) n x := by kernel_rfl
theorem r_auto_Copy (n : Nat) (x : Int × LI × LR) : prg.run (n + 1) i_auto_Copy x = Go.Bk.auto_Copy.P (prg.run n i_slices_Clone_int_int) n x := e_auto_Copy n (prg.run n) x
theorem e_auto_Final (n : Nat) (f : prg.Fs) (x : Int × LI × LR) : prg.phi 36 n f x = Go.Bk.auto_Final.P n x := by kernel_rfl
theorem r_auto_Final (n : Nat) (x : Int × LI × LR) : prg.run (n + 1) i_auto_Final x = Go.Bk.auto_Final.P n x := e_auto_Final n (prg.run n) x
theorem e_math_bits_Mul64 (n : Nat) (f : prg.Fs) (x : Int × Int) : prg.phi 68 n f x = Go.Bk.math_bits_Mul64.P n x := by kernel_rfl
theorem r_math_bits_Mul64 (n : Nat) (x : Int × Int) : prg.run (n + 1) i_math_bits_Mul64 x = Go.Bk.math_bits_Mul64.P n x := e_math_bits_Mul64 n (prg.run n) x
theorem e_math_bits_Mul (n : Nat) (f : prg.Fs) (x : Int × Int) : prg.phi 53 n f x = Go.Bk.math_bits_Mul.P (f 68) n x := by kernel_rfl
theorem r_math_bits_Mul (n : Nat) (x : Int × Int) : prg.run (n + 1) i_math_bits_Mul x = Go.Bk.math_bits_Mul.P (prg.run n i_math_bits_Mul64) n x := e_math_bits_Mul n (prg.run n) x
theorem e_slices_Repeat_int_int (n : Nat) (f : prg.Fs) (x : LI × Int) : prg.phi 38 n f x = Go.Bk.slices_Repeat_int_int.P (f 53) n x := by kernel_rfl
theorem r_slices_Repeat_int_int (n : Nat) (x : LI × Int) : prg.run (n + 1) i_slices_Repeat_int_int x = Go.Bk.slices_Repeat_int_int.P (prg.run n i_math_bits_Mul) n x := e_slices_Repeat_int_int n (prg.run n) x
theorem e_boolean_Under (n : Nat) (f : prg.Fs) (x : LI × Int × LI × LR × Int) : prg.phi 10 n f x = Go.Bk.boolean_Under.P (f 35) (f 36) (f 34) (f 37) (f 38) n x := by kernel_rfl
theorem r_boolean_Under (n : Nat) (x : LI × Int × LI × LR × Int) : prg.run (n + 1) i_boolean_Under x = Go.Bk.boolean_Under.P (prg.run n i_auto_Copy) (prg.run n i_auto_Final) (prg.run n i_auto_Valid) (prg.run n i_slices_Clone_int_int) (prg.run n i_slices_Repeat_int_int) n x := e_boolean_Under n (prg.run n) x
theorem e_law05_leaf (n : Nat) (f : prg.Fs) (x : Unit) : prg.phi 32 n f x = Go.Bk.law05_leaf.P n x := by kernel_rfl
theorem r_law05_leaf (n : Nat) (x : Unit) : prg.run (n + 1) i_law05_leaf x = Go.Bk.law05_leaf.P n x := e_law05_leaf n (prg.run n) x
theorem e_law05_f (n : Nat) (f : prg.Fs) (x : Int × (List (RT Int)) × Int × (List (RT Int))) : prg.phi 31 n f x = Go.Bk.law05_f.P n x := by kernel_rfl
theorem r_law05_f (n : Nat) (x : Int × (List (RT Int)) × Int × (List (RT Int))) : prg.run (n + 1) i_law05_f x = Go.Bk.law05_f.P n x := e_law05_f n (prg.run n) x
theorem e_ref01_ValidAlphabet (n : Nat) (f : prg.Fs) (x : List Int) : prg.phi 21 n f x = Go.Bk.ref01_ValidAlphabet.P n x := by kernel_rfl
theorem r_ref01_ValidAlphabet (n : Nat) (x : List Int) : prg.run (n + 1) i_ref01_ValidAlphabet x = Go.Bk.ref01_ValidAlphabet.P n x := e_ref01_ValidAlphabet n (prg.run n) x
theorem e_ref03_Valid (n : Nat) (f : prg.Fs) (x : LI × Int × LI × LR) : prg.phi 33 n f x = Go.Bk.ref03_Valid.P (f 21) n x := by kernel_rfl
theorem r_ref03_Valid (n : Nat) (x : LI × Int × LI × LR) : prg.run (n + 1) i_ref03_Valid x = Go.Bk.ref03_Valid.P (prg.run n i_ref01_ValidAlphabet) n x := e_ref03_Valid n (prg.run n) x
theorem e_ref03_In (n : Nat) (f : prg.Fs) (x : LI × Int) : prg.phi 54 n f x = Go.Bk.ref03_In.P n x := by kernel_rfl
theorem r_ref03_In (n : Nat) (x : LI × Int) : prg.run (n + 1) i_ref03_In x = Go.Bk.ref03_In.P n x := e_ref03_In n (prg.run n) x
theorem e_ref03_Insert (n : Nat) (f : prg.Fs) (x : LI × Int) : prg.phi 69 n f x = Go.Bk.ref03_Insert.P n x := by kernel_rfl
theorem r_ref03_Insert (n : Nat) (x : LI × Int) : prg.run (n + 1) i_ref03_Insert x = Go.Bk.ref03_Insert.P n x := e_ref03_Insert n (prg.run n) x
theorem e_ref03_Step (n : Nat) (f : prg.Fs) (x : Int × LI × LR × Int × LL) : prg.phi 55 n f x = Go.Bk.ref03_Step.P (f 54) (f 69) n x := by kernel_rfl
theorem r_ref03_Step (n : Nat) (x : Int × LI × LR × Int × LL) : prg.run (n + 1) i_ref03_Step x = Go.Bk.ref03_Step.P (prg.run n i_ref03_In) (prg.run n i_ref03_Insert) n x := e_ref03_Step n (prg.run n) x
theorem e_ref03_Of (n : Nat) (f : prg.Fs) (x : Int × LI × LR × Int × (List (RT Int))) : prg.phi 43 n f x = Go.Bk.ref03_Of.P (f 43) (f 55) n x := by kernel_rfl
theorem r_ref03_Of (n : Nat) (x : Int × LI × LR × Int × (List (RT Int))) : prg.run (n + 1) i_ref03_Of x = Go.Bk.ref03_Of.P (prg.run n i_ref03_Of) (prg.run n i_ref03_Step) n x := e_ref03_Of n (prg.run n) x
theorem e_ref03_Meet (n : Nat) (f : prg.Fs) (x : LI × LI) : prg.phi 42 n f x = Go.Bk.ref03_Meet.P (f 54) n x := by kernel_rfl
theorem r_ref03_Meet (n : Nat) (x : LI × LI) : prg.run (n + 1) i_ref03_Meet x = Go.Bk.ref03_Meet.P (prg.run n i_ref03_In) n x := e_ref03_Meet n (prg.run n) x
theorem e_ref03_Has (n : Nat) (f : prg.Fs) (x : Int × LI × LR × Int × (List (RT Int))) : prg.phi 16 n f x = Go.Bk.ref03_Has.P (f 42) (f 43) n x := by kernel_rfl
theorem r_ref03_Has (n : Nat) (x : Int × LI × LR × Int × (List (RT Int))) : prg.run (n + 1) i_ref03_Has x = Go.Bk.ref03_Has.P (prg.run n i_ref03_Meet) (prg.run n i_ref03_Of) n x := e_ref03_Has n (prg.run n) x
theorem e_law05_awake (n : Nat) (f : prg.Fs) (x : Unit) : prg.phi 9 n f x = Go.Bk.law05_awake.P (f 10) (f 30) (f 31) (f 32) (f 16) (f 33) n x := by kernel_rfl
theorem r_law05_awake (n : Nat) (x : Unit) : prg.run (n + 1) i_law05_awake x = Go.Bk.law05_awake.P (prg.run n i_boolean_Under) (prg.run n i_law05_even) (prg.run n i_law05_f) (prg.run n i_law05_leaf) (prg.run n i_ref03_Has) (prg.run n i_ref03_Valid) n x := e_law05_awake n (prg.run n) x
theorem e_auto_Copy_own (n : Nat) (f : prg.Fs) (x : Int × LI × LR) : prg.phi 1002 n f x = Go.Bk.auto_Copy_own.P (f 37) n x := by kernel_rfl
theorem r_auto_Copy_own (n : Nat) (x : Int × LI × LR) : prg.run (n + 1) i_auto_Copy_own x = Go.Bk.auto_Copy_own.P (prg.run n i_slices_Clone_int_int) n x := e_auto_Copy_own n (prg.run n) x
theorem e_boolean_Union (n : Nat) (f : prg.Fs) (x : LI × Int × LI × LR × Int × LI × LR) : prg.phi 15 n f x = Go.Bk.boolean_Union.P (f 1002) (f 34) n x := by kernel_rfl
theorem r_boolean_Union (n : Nat) (x : LI × Int × LI × LR × Int × LI × LR) : prg.run (n + 1) i_boolean_Union x = Go.Bk.boolean_Union.P (prg.run n i_auto_Copy_own) (prg.run n i_auto_Valid) n x := e_boolean_Union n (prg.run n) x
theorem e_law05_valid (n : Nat) (f : prg.Fs) (x : LI × (List (Int × LI × LR))) : prg.phi 11 n f x = Go.Bk.law05_valid.P (f 33) n x := by kernel_rfl
theorem r_law05_valid (n : Nat) (x : LI × (List (Int × LI × LR))) : prg.run (n + 1) i_law05_valid x = Go.Bk.law05_valid.P (prg.run n i_ref03_Valid) n x := e_law05_valid n (prg.run n) x
theorem e_ref01_shaped (n : Nat) (f : prg.Fs) (x : LI × Int × (List (RT Int))) : prg.phi 39 n f x = Go.Bk.ref01_shaped.P (f 39) n x := by kernel_rfl
theorem r_ref01_shaped (n : Nat) (x : LI × Int × (List (RT Int))) : prg.run (n + 1) i_ref01_shaped x = Go.Bk.ref01_shaped.P (prg.run n i_ref01_shaped) n x := e_ref01_shaped n (prg.run n) x
theorem e_ref01_Valid (n : Nat) (f : prg.Fs) (x : LI × Int × (List (RT Int))) : prg.phi 12 n f x = Go.Bk.ref01_Valid.P (f 29) (f 21) (f 39) n x := by kernel_rfl
theorem r_ref01_Valid (n : Nat) (x : LI × Int × (List (RT Int))) : prg.run (n + 1) i_ref01_Valid x = Go.Bk.ref01_Valid.P (prg.run n i_ref01_Few) (prg.run n i_ref01_ValidAlphabet) (prg.run n i_ref01_shaped) n x := e_ref01_Valid n (prg.run n) x
theorem e_law05_right (n : Nat) (f : prg.Fs) (x : LI × Int × LI × LR × Int × (List (RT Int)) × Bool) : prg.phi 13 n f x = Go.Bk.law05_right.P (f 16) n x := by kernel_rfl
theorem r_law05_right (n : Nat) (x : LI × Int × LI × LR × Int × (List (RT Int)) × Bool) : prg.run (n + 1) i_law05_right x = Go.Bk.law05_right.P (prg.run n i_ref03_Has) n x := e_law05_right n (prg.run n) x
theorem e_ref05_shift (n : Nat) (f : prg.Fs) (x : LR × Int) : prg.phi 46 n f x = Go.Bk.ref05_shift.P n x := by kernel_rfl
theorem r_ref05_shift (n : Nat) (x : LR × Int) : prg.run (n + 1) i_ref05_shift x = Go.Bk.ref05_shift.P n x := e_ref05_shift n (prg.run n) x
theorem e_ref05_Union (n : Nat) (f : prg.Fs) (x : Int × LI × LR × Int × LI × LR) : prg.phi 18 n f x = Go.Bk.ref05_Union.P (f 46) n x := by kernel_rfl
theorem r_ref05_Union (n : Nat) (x : Int × LI × LR × Int × LI × LR) : prg.run (n + 1) i_ref05_Union x = Go.Bk.ref05_Union.P (prg.run n i_ref05_shift) n x := e_ref05_Union n (prg.run n) x
theorem e_ref03_Reached (n : Nat) (f : prg.Fs) (x : Int × LI × LR) : prg.phi 85 n f x = Go.Bk.ref03_Reached.P n x := by kernel_rfl
theorem r_ref03_Reached (n : Nat) (x : Int × LI × LR) : prg.run (n + 1) i_ref03_Reached x = Go.Bk.ref03_Reached.P n x := e_ref03_Reached n (prg.run n) x
theorem e_ref03_Used (n : Nat) (f : prg.Fs) (x : Int × LI × LR) : prg.phi 72 n f x = Go.Bk.ref03_Used.P (f 85) n x := by kernel_rfl
theorem r_ref03_Used (n : Nat) (x : Int × LI × LR) : prg.run (n + 1) i_ref03_Used x = Go.Bk.ref03_Used.P (prg.run n i_ref03_Reached) n x := e_ref03_Used n (prg.run n) x
theorem e_ref03_key (n : Nat) (f : prg.Fs) (x : Int × LI × Int) : prg.phi 106 n f x = Go.Bk.ref03_key.P n x := by kernel_rfl
theorem r_ref03_key (n : Nat) (x : Int × LI × Int) : prg.run (n + 1) i_ref03_key x = Go.Bk.ref03_key.P n x := e_ref03_key n (prg.run n) x
theorem e_ref03_Less (n : Nat) (f : prg.Fs) (x : LI × LI) : prg.phi 105 n f x = Go.Bk.ref03_Less.P n x := by kernel_rfl
theorem r_ref03_Less (n : Nat) (x : LI × LI) : prg.run (n + 1) i_ref03_Less x = Go.Bk.ref03_Less.P n x := e_ref03_Less n (prg.run n) x
theorem e_ref03_Sort (n : Nat) (f : prg.Fs) (x : List Ru) : prg.phi 84 n f x = Go.Bk.ref03_Sort.P (f 105) (f 106) n x := by kernel_rfl
theorem r_ref03_Sort (n : Nat) (x : List Ru) : prg.run (n + 1) i_ref03_Sort x = Go.Bk.ref03_Sort.P (prg.run n i_ref03_Less) (prg.run n i_ref03_key) n x := e_ref03_Sort n (prg.run n) x
theorem e_ref03_Keep (n : Nat) (f : prg.Fs) (x : Int × LI × LR × (List Bool)) : prg.phi 71 n f x = Go.Bk.ref03_Keep.P (f 84) n x := by kernel_rfl
theorem r_ref03_Keep (n : Nat) (x : Int × LI × LR × (List Bool)) : prg.run (n + 1) i_ref03_Keep x = Go.Bk.ref03_Keep.P (prg.run n i_ref03_Sort) n x := e_ref03_Keep n (prg.run n) x
theorem e_ref03_Trimmed (n : Nat) (f : prg.Fs) (x : Int × LI × LR) : prg.phi 57 n f x = Go.Bk.ref03_Trimmed.P (f 71) (f 72) n x := by kernel_rfl
theorem r_ref03_Trimmed (n : Nat) (x : Int × LI × LR) : prg.run (n + 1) i_ref03_Trimmed x = Go.Bk.ref03_Trimmed.P (prg.run n i_ref03_Keep) (prg.run n i_ref03_Used) n x := e_ref03_Trimmed n (prg.run n) x
theorem e_ref03_Power (n : Nat) (f : prg.Fs) (x : Int × Int) : prg.phi 70 n f x = Go.Bk.ref03_Power.P n x := by kernel_rfl
theorem r_ref03_Power (n : Nat) (x : Int × Int) : prg.run (n + 1) i_ref03_Power x = Go.Bk.ref03_Power.P n x := e_ref03_Power n (prg.run n) x
theorem e_ref04_Bits (n : Nat) (f : prg.Fs) (x : Int × LI × LR) : prg.phi 56 n f x = Go.Bk.ref04_Bits.P (f 70) (f 57) n x := by kernel_rfl
theorem r_ref04_Bits (n : Nat) (x : Int × LI × LR) : prg.run (n + 1) i_ref04_Bits x = Go.Bk.ref04_Bits.P (prg.run n i_ref03_Power) (prg.run n i_ref03_Trimmed) n x := e_ref04_Bits n (prg.run n) x
theorem e_ref01_List (n : Nat) (f : prg.Fs) (x : LI × LI) : prg.phi 49 n f x = Go.Bk.ref01_List.P n x := by kernel_rfl
theorem r_ref01_List (n : Nat) (x : LI × LI) : prg.run (n + 1) i_ref01_List x = Go.Bk.ref01_List.P n x := e_ref01_List n (prg.run n) x
theorem e_ref03_One (n : Nat) (f : prg.Fs) (x : Int × LI × LR) : prg.phi 23 n f x = Go.Bk.ref03_One.P (f 49) n x := by kernel_rfl
theorem r_ref03_One (n : Nat) (x : Int × LI × LR) : prg.run (n + 1) i_ref03_One x = Go.Bk.ref03_One.P (prg.run n i_ref01_List) n x := e_ref03_One n (prg.run n) x
theorem e_ref03_Full (n : Nat) (f : prg.Fs) (x : LI × Int) : prg.phi 58 n f x = Go.Bk.ref03_Full.P (f 70) n x := by kernel_rfl
theorem r_ref03_Full (n : Nat) (x : LI × Int) : prg.run (n + 1) i_ref03_Full x = Go.Bk.ref03_Full.P (prg.run n i_ref03_Power) n x := e_ref03_Full n (prg.run n) x
theorem e_ref04_Light (n : Nat) (f : prg.Fs) (x : LI × (List (Int × LI × LR))) : prg.phi 44 n f x = Go.Bk.ref04_Light.P (f 58) (f 23) (f 57) (f 56) n x := by kernel_rfl
theorem r_ref04_Light (n : Nat) (x : LI × (List (Int × LI × LR))) : prg.run (n + 1) i_ref04_Light x = Go.Bk.ref04_Light.P (prg.run n i_ref03_Full) (prg.run n i_ref03_One) (prg.run n i_ref03_Trimmed) (prg.run n i_ref04_Bits) n x := e_ref04_Light n (prg.run n) x
theorem e_ref04_Lists (n : Nat) (f : prg.Fs) (x : Int × Int) : prg.phi 87 n f x = Go.Bk.ref04_Lists.P (f 87) n x := by kernel_rfl
theorem r_ref04_Lists (n : Nat) (x : Int × Int) : prg.run (n + 1) i_ref04_Lists x = Go.Bk.ref04_Lists.P (prg.run n i_ref04_Lists) n x := e_ref04_Lists n (prg.run n) x
theorem e_ref04_pick (n : Nat) (f : prg.Fs) (x : LL × LI) : prg.phi 88 n f x = Go.Bk.ref04_pick.P n x := by kernel_rfl
theorem r_ref04_pick (n : Nat) (x : LL × LI) : prg.run (n + 1) i_ref04_pick x = Go.Bk.ref04_pick.P n x := e_ref04_pick n (prg.run n) x
theorem e_ref04_place (n : Nat) (f : prg.Fs) (x : LL × LI) : prg.phi 89 n f x = Go.Bk.ref04_place.P (f 49) n x := by kernel_rfl
theorem r_ref04_place (n : Nat) (x : LL × LI) : prg.run (n + 1) i_ref04_place x = Go.Bk.ref04_place.P (prg.run n i_ref01_List) n x := e_ref04_place n (prg.run n) x
theorem e_ref04_Sets (n : Nat) (f : prg.Fs) (x : LI × Int × LI × LR) : prg.phi 86 n f x = Go.Bk.ref04_Sets.P (f 55) (f 87) (f 88) (f 89) n x := by kernel_rfl
theorem r_ref04_Sets (n : Nat) (x : LI × Int × LI × LR) : prg.run (n + 1) i_ref04_Sets x = Go.Bk.ref04_Sets.P (prg.run n i_ref03_Step) (prg.run n i_ref04_Lists) (prg.run n i_ref04_pick) (prg.run n i_ref04_place) n x := e_ref04_Sets n (prg.run n) x
theorem e_ref04_Subset (n : Nat) (f : prg.Fs) (x : LI × Int × LI × LR) : prg.phi 73 n f x = Go.Bk.ref04_Subset.P (f 42) (f 55) (f 33) (f 87) (f 86) (f 88) (f 89) n x := by kernel_rfl
theorem r_ref04_Subset (n : Nat) (x : LI × Int × LI × LR) : prg.run (n + 1) i_ref04_Subset x = Go.Bk.ref04_Subset.P (prg.run n i_ref03_Meet) (prg.run n i_ref03_Step) (prg.run n i_ref03_Valid) (prg.run n i_ref04_Lists) (prg.run n i_ref04_Sets) (prg.run n i_ref04_pick) (prg.run n i_ref04_place) n x := e_ref04_Subset n (prg.run n) x
theorem e_ref04_Over (n : Nat) (f : prg.Fs) (x : LI × Int) : prg.phi 74 n f x = Go.Bk.ref04_Over.P (f 58) n x := by kernel_rfl
theorem r_ref04_Over (n : Nat) (x : LI × Int) : prg.run (n + 1) i_ref04_Over x = Go.Bk.ref04_Over.P (prg.run n i_ref03_Full) n x := e_ref04_Over n (prg.run n) x
theorem e_ref04_Filled (n : Nat) (f : prg.Fs) (x : LI × Int × LI × LR) : prg.phi 75 n f x = Go.Bk.ref04_Filled.P (f 49) (f 87) n x := by kernel_rfl
theorem r_ref04_Filled (n : Nat) (x : LI × Int × LI × LR) : prg.run (n + 1) i_ref04_Filled x = Go.Bk.ref04_Filled.P (prg.run n i_ref01_List) (prg.run n i_ref04_Lists) n x := e_ref04_Filled n (prg.run n) x
theorem e_ref04_Table_index (n : Nat) (f : prg.Fs) (x : Int × LL × LI) : prg.phi 107 n f x = Go.Bk.ref04_Table_index.P n x := by kernel_rfl
theorem r_ref04_Table_index (n : Nat) (x : Int × LL × LI) : prg.run (n + 1) i_ref04_Table_index x = Go.Bk.ref04_Table_index.P n x := e_ref04_Table_index n (prg.run n) x
theorem e_ref04_Make (n : Nat) (f : prg.Fs) (x : LI × Int × LI × LR) : prg.phi 90 n f x = Go.Bk.ref04_Make.P (f 70) (f 107) n x := by kernel_rfl
theorem r_ref04_Make (n : Nat) (x : LI × Int × LI × LR) : prg.run (n + 1) i_ref04_Make x = Go.Bk.ref04_Make.P (prg.run n i_ref03_Power) (prg.run n i_ref04_Table_index) n x := e_ref04_Make n (prg.run n) x
theorem e_ref04_Table_Next (n : Nat) (f : prg.Fs) (x : Int × LL × Int × LI) : prg.phi 93 n f x = Go.Bk.ref04_Table_Next.P (f 107) n x := by kernel_rfl
theorem r_ref04_Table_Next (n : Nat) (x : Int × LL × Int × LI) : prg.run (n + 1) i_ref04_Table_Next x = Go.Bk.ref04_Table_Next.P (prg.run n i_ref04_Table_index) n x := e_ref04_Table_Next n (prg.run n) x
theorem e_ref04_alike (n : Nat) (f : prg.Fs) (x : LI × Int × LL × LI × Int × Int) : prg.phi 91 n f x = Go.Bk.ref04_alike.P (f 87) (f 93) n x := by kernel_rfl
theorem r_ref04_alike (n : Nat) (x : LI × Int × LL × LI × Int × Int) : prg.run (n + 1) i_ref04_alike x = Go.Bk.ref04_alike.P (prg.run n i_ref04_Lists) (prg.run n i_ref04_Table_Next) n x := e_ref04_alike n (prg.run n) x
theorem e_ref04_many (n : Nat) (f : prg.Fs) (x : List Int) : prg.phi 92 n f x = Go.Bk.ref04_many.P (f 69) n x := by kernel_rfl
theorem r_ref04_many (n : Nat) (x : List Int) : prg.run (n + 1) i_ref04_many x = Go.Bk.ref04_many.P (prg.run n i_ref03_Insert) n x := e_ref04_many n (prg.run n) x
theorem e_ref04_classes (n : Nat) (f : prg.Fs) (x : LI × Int × LI × LR) : prg.phi 76 n f x = Go.Bk.ref04_classes.P (f 90) (f 91) (f 92) n x := by kernel_rfl
theorem r_ref04_classes (n : Nat) (x : LI × Int × LI × LR) : prg.run (n + 1) i_ref04_classes x = Go.Bk.ref04_classes.P (prg.run n i_ref04_Make) (prg.run n i_ref04_alike) (prg.run n i_ref04_many) n x := e_ref04_classes n (prg.run n) x
theorem e_ref04_Renumber (n : Nat) (f : prg.Fs) (x : LI × Int × LI × LR) : prg.phi 77 n f x = Go.Bk.ref04_Renumber.P (f 54) (f 84) (f 87) (f 90) (f 93) n x := by kernel_rfl
theorem r_ref04_Renumber (n : Nat) (x : LI × Int × LI × LR) : prg.run (n + 1) i_ref04_Renumber x = Go.Bk.ref04_Renumber.P (prg.run n i_ref03_In) (prg.run n i_ref03_Sort) (prg.run n i_ref04_Lists) (prg.run n i_ref04_Make) (prg.run n i_ref04_Table_Next) n x := e_ref04_Renumber n (prg.run n) x
theorem e_ref04_Minimal (n : Nat) (f : prg.Fs) (x : LI × Int × LI × LR) : prg.phi 59 n f x = Go.Bk.ref04_Minimal.P (f 54) (f 69) (f 57) (f 75) (f 74) (f 77) (f 73) (f 76) n x := by kernel_rfl
theorem r_ref04_Minimal (n : Nat) (x : LI × Int × LI × LR) : prg.run (n + 1) i_ref04_Minimal x = Go.Bk.ref04_Minimal.P (prg.run n i_ref03_In) (prg.run n i_ref03_Insert) (prg.run n i_ref03_Trimmed) (prg.run n i_ref04_Filled) (prg.run n i_ref04_Over) (prg.run n i_ref04_Renumber) (prg.run n i_ref04_Subset) (prg.run n i_ref04_classes) n x := e_ref04_Minimal n (prg.run n) x
theorem e_ref03_Same (n : Nat) (f : prg.Fs) (x : Int × LI × LR × Int × LI × LR) : prg.phi 60 n f x = Go.Bk.ref03_Same.P (f 49) n x := by kernel_rfl
theorem r_ref03_Same (n : Nat) (x : Int × LI × LR × Int × LI × LR) : prg.run (n + 1) i_ref03_Same x = Go.Bk.ref03_Same.P (prg.run n i_ref01_List) n x := e_ref03_Same n (prg.run n) x
theorem e_ref04_Equal (n : Nat) (f : prg.Fs) (x : LI × Int × LI × LR × Int × LI × LR) : prg.phi 45 n f x = Go.Bk.ref04_Equal.P (f 60) (f 59) n x := by kernel_rfl
theorem r_ref04_Equal (n : Nat) (x : LI × Int × LI × LR × Int × LI × LR) : prg.run (n + 1) i_ref04_Equal x = Go.Bk.ref04_Equal.P (prg.run n i_ref03_Same) (prg.run n i_ref04_Minimal) n x := e_ref04_Equal n (prg.run n) x
theorem e_ref04_Alike (n : Nat) (f : prg.Fs) (x : LI × Int × LI × LR × Int × LI × LR) : prg.phi 17 n f x = Go.Bk.ref04_Alike.P (f 45) (f 44) n x := by kernel_rfl
theorem r_ref04_Alike (n : Nat) (x : LI × Int × LI × LR × Int × LI × LR) : prg.run (n + 1) i_ref04_Alike x = Go.Bk.ref04_Alike.P (prg.run n i_ref04_Equal) (prg.run n i_ref04_Light) n x := e_ref04_Alike n (prg.run n) x
theorem e_law05_BooleanUnion (n : Nat) (f : prg.Fs) (x : LI × Int × LI × LR × Int × LI × LR × Int × (List (RT Int))) : prg.phi 4 n f x = Go.Bk.law05_BooleanUnion.P (f 15) (f 9) (f 8) (f 13) (f 11) (f 12) (f 16) (f 17) (f 18) n x := by kernel_rfl
theorem r_law05_BooleanUnion (n : Nat) (x : LI × Int × LI × LR × Int × LI × LR × Int × (List (RT Int))) : prg.run (n + 1) i_law05_BooleanUnion x = Go.Bk.law05_BooleanUnion.P (prg.run n i_boolean_Union) (prg.run n i_law05_awake) (prg.run n i_law05_few) (prg.run n i_law05_right) (prg.run n i_law05_valid) (prg.run n i_ref01_Valid) (prg.run n i_ref03_Has) (prg.run n i_ref04_Alike) (prg.run n i_ref05_Union) n x := e_law05_BooleanUnion n (prg.run n) x
theorem e_boolean_mapped (n : Nat) (f : prg.Fs) (x : LI × LI × LI) : prg.phi 48 n f x = Go.Bk.boolean_mapped.P n x := by kernel_rfl
theorem r_boolean_mapped (n : Nat) (x : LI × LI × LI) : prg.run (n + 1) i_boolean_mapped x = Go.Bk.boolean_mapped.P n x := e_boolean_mapped n (prg.run n) x
theorem e_boolean_Unlabel (n : Nat) (f : prg.Fs) (x : LI × LI × LI × Int × LI × LR) : prg.phi 20 n f x = Go.Bk.boolean_Unlabel.P (f 34) (f 48) (f 37) (f 47) n x := by kernel_rfl
theorem r_boolean_Unlabel (n : Nat) (x : LI × LI × LI × Int × LI × LR) : prg.run (n + 1) i_boolean_Unlabel x = Go.Bk.boolean_Unlabel.P (prg.run n i_auto_Valid) (prg.run n i_boolean_mapped) (prg.run n i_slices_Clone_int_int) (prg.run n i_tree_ValidAlphabet) n x := e_boolean_Unlabel n (prg.run n) x
theorem e_ref05_Mapped (n : Nat) (f : prg.Fs) (x : LI × LI × LI) : prg.phi 22 n f x = Go.Bk.ref05_Mapped.P n x := by kernel_rfl
theorem r_ref05_Mapped (n : Nat) (x : LI × LI × LI) : prg.run (n + 1) i_ref05_Mapped x = Go.Bk.ref05_Mapped.P n x := e_ref05_Mapped n (prg.run n) x
theorem e_ref05_Map (n : Nat) (f : prg.Fs) (x : LI × Int × (List (RT Int))) : prg.phi 24 n f x = Go.Bk.ref05_Map.P (f 24) n x := by kernel_rfl
theorem r_ref05_Map (n : Nat) (x : LI × Int × (List (RT Int))) : prg.run (n + 1) i_ref05_Map x = Go.Bk.ref05_Map.P (prg.run n i_ref05_Map) n x := e_ref05_Map n (prg.run n) x
theorem e_ref05_Unlabel (n : Nat) (f : prg.Fs) (x : LI × Int × LI × LR) : prg.phi 25 n f x = Go.Bk.ref05_Unlabel.P n x := by kernel_rfl
theorem r_ref05_Unlabel (n : Nat) (x : LI × Int × LI × LR) : prg.run (n + 1) i_ref05_Unlabel x = Go.Bk.ref05_Unlabel.P n x := e_ref05_Unlabel n (prg.run n) x
theorem e_law05_BooleanUnlabels (n : Nat) (f : prg.Fs) (x : LI × LI × LI × Int × LI × LR × Int × (List (RT Int))) : prg.phi 6 n f x = Go.Bk.law05_BooleanUnlabels.P (f 20) (f 9) (f 8) (f 13) (f 11) (f 12) (f 21) (f 16) (f 23) (f 17) (f 24) (f 22) (f 25) n x := by kernel_rfl
theorem r_law05_BooleanUnlabels (n : Nat) (x : LI × LI × LI × Int × LI × LR × Int × (List (RT Int))) : prg.run (n + 1) i_law05_BooleanUnlabels x = Go.Bk.law05_BooleanUnlabels.P (prg.run n i_boolean_Unlabel) (prg.run n i_law05_awake) (prg.run n i_law05_few) (prg.run n i_law05_right) (prg.run n i_law05_valid) (prg.run n i_ref01_Valid) (prg.run n i_ref01_ValidAlphabet) (prg.run n i_ref03_Has) (prg.run n i_ref03_One) (prg.run n i_ref04_Alike) (prg.run n i_ref05_Map) (prg.run n i_ref05_Mapped) (prg.run n i_ref05_Unlabel) n x := e_law05_BooleanUnlabels n (prg.run n) x
end Go.Proofs.YtgkobbodicfofaaDoor.Am
end
noncomputable section
namespace Go.Proofs.YtgkobbodicfofaaDoor.Am
open Go Go.AM Go.Bk
set_option maxRecDepth 100000
set_option linter.unusedVariables false
noncomputable def f_slices_Clone_int_int (n : Nat) (x : List Int) : Option (List Int) := prg.run n i_slices_Clone_int_int x
theorem s_slices_Clone_int_int (n : Nat) (x : List Int) : f_slices_Clone_int_int (n + 1) x = cloneX x := by kernel_rfl
noncomputable def f_ref03_Few (n : Nat) (x : LI × Int × Int × (List (Int × LI × LR))) : Option Bool := prg.run n i_ref03_Few x
noncomputable def f_ref01_count (n : Nat) (x : Int × (List (RT Int)) × Int) : Option Int := prg.run n i_ref01_count x
noncomputable def f_ref01_Few (n : Nat) (x : Int × (List (RT Int)) × Int) : Option Bool := prg.run n i_ref01_Few x
noncomputable def f_law05_few (n : Nat) (x : LI × Int × (List (RT Int)) × (List (Int × LI × LR))) : Option Bool := prg.run n i_law05_few x
noncomputable def f_law05_even (n : Nat) (x : Unit) : Option (Int × LI × LR) := prg.run n i_law05_even x
noncomputable def f_tree_ValidAlphabet_1 (n : Nat) (x : Int) : Option Bool := prg.run n i_tree_ValidAlphabet_1 x
noncomputable def f_slices_IndexFunc_int_int_of_tree_ValidAlphabet_1 (n : Nat) (x : List Int) : Option Int := prg.run n i_slices_IndexFunc_int_int_of_tree_ValidAlphabet_1 x
noncomputable def f_slices_ContainsFunc_int_int_of_tree_ValidAlphabet_1 (n : Nat) (x : List Int) : Option Bool := prg.run n i_slices_ContainsFunc_int_int_of_tree_ValidAlphabet_1 x
noncomputable def f_tree_ValidAlphabet (n : Nat) (x : List Int) : Option Bool := prg.run n i_tree_ValidAlphabet x
noncomputable def f_auto_Valid_1 (n : Nat) (x : Int × Int × LI × LR) : Option Bool := prg.run n i_auto_Valid_1 x
noncomputable def f_auto_Valid (n : Nat) (x : LI × Int × LI × LR) : Option Bool := prg.run n i_auto_Valid x
noncomputable def f_auto_Copy (n : Nat) (x : Int × LI × LR) : Option (Int × LI × LR) := prg.run n i_auto_Copy x
noncomputable def f_auto_Final (n : Nat) (x : Int × LI × LR) : Option (List Bool) := prg.run n i_auto_Final x
noncomputable def f_math_bits_Mul64 (n : Nat) (x : Int × Int) : Option (Int × Int) := prg.run n i_math_bits_Mul64 x
noncomputable def f_math_bits_Mul (n : Nat) (x : Int × Int) : Option (Int × Int) := prg.run n i_math_bits_Mul x
noncomputable def f_slices_Repeat_int_int (n : Nat) (x : LI × Int) : Option LI := prg.run n i_slices_Repeat_int_int x
noncomputable def f_boolean_Under (n : Nat) (x : LI × Int × LI × LR × Int) : Option (Int × LI × LR × Int) := prg.run n i_boolean_Under x
noncomputable def f_law05_leaf (n : Nat) (x : Unit) : Option (Int × (List (RT Int))) := prg.run n i_law05_leaf x
noncomputable def f_law05_f (n : Nat) (x : Int × (List (RT Int)) × Int × (List (RT Int))) : Option (Int × (List (RT Int))) := prg.run n i_law05_f x
noncomputable def f_ref01_ValidAlphabet (n : Nat) (x : List Int) : Option Bool := prg.run n i_ref01_ValidAlphabet x
noncomputable def f_ref03_Valid (n : Nat) (x : LI × Int × LI × LR) : Option Bool := prg.run n i_ref03_Valid x
noncomputable def f_ref03_In (n : Nat) (x : LI × Int) : Option Bool := prg.run n i_ref03_In x
noncomputable def f_ref03_Insert (n : Nat) (x : LI × Int) : Option LI := prg.run n i_ref03_Insert x
noncomputable def f_ref03_Step (n : Nat) (x : Int × LI × LR × Int × LL) : Option LI := prg.run n i_ref03_Step x
noncomputable def f_ref03_Of (n : Nat) (x : Int × LI × LR × Int × (List (RT Int))) : Option LI := prg.run n i_ref03_Of x
noncomputable def f_ref03_Meet (n : Nat) (x : LI × LI) : Option Bool := prg.run n i_ref03_Meet x
noncomputable def f_ref03_Has (n : Nat) (x : Int × LI × LR × Int × (List (RT Int))) : Option Bool := prg.run n i_ref03_Has x
noncomputable def f_law05_awake (n : Nat) (x : Unit) : Option Bool := prg.run n i_law05_awake x
noncomputable def f_auto_Copy_own (n : Nat) (x : Int × LI × LR) : Option (Int × LI × (List (Option Ru))) := prg.run n i_auto_Copy_own x
noncomputable def f_boolean_Union (n : Nat) (x : LI × Int × LI × LR × Int × LI × LR) : Option (Int × LI × LR × Int) := prg.run n i_boolean_Union x
noncomputable def f_law05_valid (n : Nat) (x : LI × (List (Int × LI × LR))) : Option Bool := prg.run n i_law05_valid x
noncomputable def f_ref01_shaped (n : Nat) (x : LI × Int × (List (RT Int))) : Option Bool := prg.run n i_ref01_shaped x
noncomputable def f_ref01_Valid (n : Nat) (x : LI × Int × (List (RT Int))) : Option Bool := prg.run n i_ref01_Valid x
noncomputable def f_law05_right (n : Nat) (x : LI × Int × LI × LR × Int × (List (RT Int)) × Bool) : Option Bool := prg.run n i_law05_right x
noncomputable def f_ref05_shift (n : Nat) (x : LR × Int) : Option LR := prg.run n i_ref05_shift x
noncomputable def f_ref05_Union (n : Nat) (x : Int × LI × LR × Int × LI × LR) : Option (Int × LI × LR) := prg.run n i_ref05_Union x
noncomputable def f_ref03_Reached (n : Nat) (x : Int × LI × LR) : Option (List Bool) := prg.run n i_ref03_Reached x
noncomputable def f_ref03_Used (n : Nat) (x : Int × LI × LR) : Option (List Bool) := prg.run n i_ref03_Used x
noncomputable def f_ref03_key (n : Nat) (x : Int × LI × Int) : Option LI := prg.run n i_ref03_key x
noncomputable def f_ref03_Less (n : Nat) (x : LI × LI) : Option Int := prg.run n i_ref03_Less x
noncomputable def f_ref03_Sort (n : Nat) (x : List Ru) : Option LR := prg.run n i_ref03_Sort x
noncomputable def f_ref03_Keep (n : Nat) (x : Int × LI × LR × (List Bool)) : Option (Int × LI × LR) := prg.run n i_ref03_Keep x
noncomputable def f_ref03_Trimmed (n : Nat) (x : Int × LI × LR) : Option (Int × LI × LR) := prg.run n i_ref03_Trimmed x
noncomputable def f_ref03_Power (n : Nat) (x : Int × Int) : Option Int := prg.run n i_ref03_Power x
noncomputable def f_ref04_Bits (n : Nat) (x : Int × LI × LR) : Option Int := prg.run n i_ref04_Bits x
noncomputable def f_ref01_List (n : Nat) (x : LI × LI) : Option Bool := prg.run n i_ref01_List x
noncomputable def f_ref03_One (n : Nat) (x : Int × LI × LR) : Option Bool := prg.run n i_ref03_One x
noncomputable def f_ref03_Full (n : Nat) (x : LI × Int) : Option Int := prg.run n i_ref03_Full x
noncomputable def f_ref04_Light (n : Nat) (x : LI × (List (Int × LI × LR))) : Option Bool := prg.run n i_ref04_Light x
noncomputable def f_ref04_Lists (n : Nat) (x : Int × Int) : Option LL := prg.run n i_ref04_Lists x
noncomputable def f_ref04_pick (n : Nat) (x : LL × LI) : Option LL := prg.run n i_ref04_pick x
noncomputable def f_ref04_place (n : Nat) (x : LL × LI) : Option Int := prg.run n i_ref04_place x
noncomputable def f_ref04_Sets (n : Nat) (x : LI × Int × LI × LR) : Option (LL × Bool) := prg.run n i_ref04_Sets x
noncomputable def f_ref04_Subset (n : Nat) (x : LI × Int × LI × LR) : Option (Int × LI × LR × LL × Int) := prg.run n i_ref04_Subset x
noncomputable def f_ref04_Over (n : Nat) (x : LI × Int) : Option Bool := prg.run n i_ref04_Over x
noncomputable def f_ref04_Filled (n : Nat) (x : LI × Int × LI × LR) : Option (Int × LI × LR) := prg.run n i_ref04_Filled x
noncomputable def f_ref04_Table_index (n : Nat) (x : Int × LL × LI) : Option Int := prg.run n i_ref04_Table_index x
noncomputable def f_ref04_Make (n : Nat) (x : LI × Int × LI × LR) : Option (Int × LL) := prg.run n i_ref04_Make x
noncomputable def f_ref04_Table_Next (n : Nat) (x : Int × LL × Int × LI) : Option Int := prg.run n i_ref04_Table_Next x
noncomputable def f_ref04_alike (n : Nat) (x : LI × Int × LL × LI × Int × Int) : Option Bool := prg.run n i_ref04_alike x
noncomputable def f_ref04_many (n : Nat) (x : List Int) : Option Int := prg.run n i_ref04_many x
noncomputable def f_ref04_classes (n : Nat) (x : LI × Int × LI × LR) : Option LI := prg.run n i_ref04_classes x
noncomputable def f_ref04_Renumber (n : Nat) (x : LI × Int × LI × LR) : Option (Int × LI × LR) := prg.run n i_ref04_Renumber x
noncomputable def f_ref04_Minimal (n : Nat) (x : LI × Int × LI × LR) : Option (Int × LI × LR × Bool) := prg.run n i_ref04_Minimal x
noncomputable def f_ref03_Same (n : Nat) (x : Int × LI × LR × Int × LI × LR) : Option Bool := prg.run n i_ref03_Same x
noncomputable def f_ref04_Equal (n : Nat) (x : LI × Int × LI × LR × Int × LI × LR) : Option (Bool × Bool) := prg.run n i_ref04_Equal x
noncomputable def f_ref04_Alike (n : Nat) (x : LI × Int × LI × LR × Int × LI × LR) : Option Bool := prg.run n i_ref04_Alike x
noncomputable def f_law05_BooleanUnion (n : Nat) (x : LI × Int × LI × LR × Int × LI × LR × Int × (List (RT Int))) : Option Bool := prg.run n i_law05_BooleanUnion x
noncomputable def f_boolean_mapped (n : Nat) (x : LI × LI × LI) : Option Int := prg.run n i_boolean_mapped x
noncomputable def f_boolean_Unlabel (n : Nat) (x : LI × LI × LI × Int × LI × LR) : Option (Int × LI × LR × Int) := prg.run n i_boolean_Unlabel x
noncomputable def f_ref05_Mapped (n : Nat) (x : LI × LI × LI) : Option Int := prg.run n i_ref05_Mapped x
noncomputable def f_ref05_Map (n : Nat) (x : LI × Int × (List (RT Int))) : Option (Int × (List (RT Int))) := prg.run n i_ref05_Map x
noncomputable def f_ref05_Unlabel (n : Nat) (x : LI × Int × LI × LR) : Option (Int × LI × LR) := prg.run n i_ref05_Unlabel x
noncomputable def f_law05_BooleanUnlabels (n : Nat) (x : LI × LI × LI × Int × LI × LR × Int × (List (RT Int))) : Option Bool := prg.run n i_law05_BooleanUnlabels x
theorem s_ref03_Few (n : Nat) (x : LI × Int × Int × (List (Int × LI × LR))) : f_ref03_Few (n + 1) x = Go.Bk.ref03_Few.P n x := r_ref03_Few n x
theorem s_ref01_count (n : Nat) (x : Int × (List (RT Int)) × Int) : f_ref01_count (n + 1) x = Go.Bk.ref01_count.P (f_ref01_count n) n x := r_ref01_count n x
theorem s_ref01_Few (n : Nat) (x : Int × (List (RT Int)) × Int) : f_ref01_Few (n + 1) x = Go.Bk.ref01_Few.P (f_ref01_count n) n x := r_ref01_Few n x
theorem s_law05_few (n : Nat) (x : LI × Int × (List (RT Int)) × (List (Int × LI × LR))) : f_law05_few (n + 1) x = Go.Bk.law05_few.P (f_ref01_Few n) (f_ref03_Few n) n x := r_law05_few n x
theorem s_law05_even (n : Nat) (x : Unit) : f_law05_even (n + 1) x = Go.Bk.law05_even.P n x := r_law05_even n x
theorem s_tree_ValidAlphabet_1 (n : Nat) (x : Int) : f_tree_ValidAlphabet_1 (n + 1) x = Go.Bk.tree_ValidAlphabet_1.P n x := r_tree_ValidAlphabet_1 n x
theorem s_slices_IndexFunc_int_int_of_tree_ValidAlphabet_1 (n : Nat) (x : List Int) : f_slices_IndexFunc_int_int_of_tree_ValidAlphabet_1 (n + 1) x = Go.Bk.slices_IndexFunc_int_int_of_tree_ValidAlphabet_1.P (f_tree_ValidAlphabet_1 n) n x := r_slices_IndexFunc_int_int_of_tree_ValidAlphabet_1 n x
theorem s_slices_ContainsFunc_int_int_of_tree_ValidAlphabet_1 (n : Nat) (x : List Int) : f_slices_ContainsFunc_int_int_of_tree_ValidAlphabet_1 (n + 1) x = Go.Bk.slices_ContainsFunc_int_int_of_tree_ValidAlphabet_1.P (f_slices_IndexFunc_int_int_of_tree_ValidAlphabet_1 n) n x := r_slices_ContainsFunc_int_int_of_tree_ValidAlphabet_1 n x
theorem s_tree_ValidAlphabet (n : Nat) (x : List Int) : f_tree_ValidAlphabet (n + 1) x = Go.Bk.tree_ValidAlphabet.P (f_slices_ContainsFunc_int_int_of_tree_ValidAlphabet_1 n) n x := r_tree_ValidAlphabet n x
theorem s_auto_Valid_1 (n : Nat) (x : Int × Int × LI × LR) : f_auto_Valid_1 (n + 1) x = Go.Bk.auto_Valid_1.P n x := r_auto_Valid_1 n x
theorem s_auto_Valid (n : Nat) (x : LI × Int × LI × LR) : f_auto_Valid (n + 1) x = Go.Bk.auto_Valid.P (f_auto_Valid_1 n) (f_tree_ValidAlphabet n) n x := r_auto_Valid n x
theorem s_auto_Copy (n : Nat) (x : Int × LI × LR) : f_auto_Copy (n + 1) x = Go.Bk.auto_Copy.P (f_slices_Clone_int_int n) n x := r_auto_Copy n x
theorem s_auto_Final (n : Nat) (x : Int × LI × LR) : f_auto_Final (n + 1) x = Go.Bk.auto_Final.P n x := r_auto_Final n x
theorem s_math_bits_Mul64 (n : Nat) (x : Int × Int) : f_math_bits_Mul64 (n + 1) x = Go.Bk.math_bits_Mul64.P n x := r_math_bits_Mul64 n x
theorem s_math_bits_Mul (n : Nat) (x : Int × Int) : f_math_bits_Mul (n + 1) x = Go.Bk.math_bits_Mul.P (f_math_bits_Mul64 n) n x := r_math_bits_Mul n x
theorem s_slices_Repeat_int_int (n : Nat) (x : LI × Int) : f_slices_Repeat_int_int (n + 1) x = Go.Bk.slices_Repeat_int_int.P (f_math_bits_Mul n) n x := r_slices_Repeat_int_int n x
theorem s_boolean_Under (n : Nat) (x : LI × Int × LI × LR × Int) : f_boolean_Under (n + 1) x = Go.Bk.boolean_Under.P (f_auto_Copy n) (f_auto_Final n) (f_auto_Valid n) (f_slices_Clone_int_int n) (f_slices_Repeat_int_int n) n x := r_boolean_Under n x
theorem s_law05_leaf (n : Nat) (x : Unit) : f_law05_leaf (n + 1) x = Go.Bk.law05_leaf.P n x := r_law05_leaf n x
theorem s_law05_f (n : Nat) (x : Int × (List (RT Int)) × Int × (List (RT Int))) : f_law05_f (n + 1) x = Go.Bk.law05_f.P n x := r_law05_f n x
theorem s_ref01_ValidAlphabet (n : Nat) (x : List Int) : f_ref01_ValidAlphabet (n + 1) x = Go.Bk.ref01_ValidAlphabet.P n x := r_ref01_ValidAlphabet n x
theorem s_ref03_Valid (n : Nat) (x : LI × Int × LI × LR) : f_ref03_Valid (n + 1) x = Go.Bk.ref03_Valid.P (f_ref01_ValidAlphabet n) n x := r_ref03_Valid n x
theorem s_ref03_In (n : Nat) (x : LI × Int) : f_ref03_In (n + 1) x = Go.Bk.ref03_In.P n x := r_ref03_In n x
theorem s_ref03_Insert (n : Nat) (x : LI × Int) : f_ref03_Insert (n + 1) x = Go.Bk.ref03_Insert.P n x := r_ref03_Insert n x
theorem s_ref03_Step (n : Nat) (x : Int × LI × LR × Int × LL) : f_ref03_Step (n + 1) x = Go.Bk.ref03_Step.P (f_ref03_In n) (f_ref03_Insert n) n x := r_ref03_Step n x
theorem s_ref03_Of (n : Nat) (x : Int × LI × LR × Int × (List (RT Int))) : f_ref03_Of (n + 1) x = Go.Bk.ref03_Of.P (f_ref03_Of n) (f_ref03_Step n) n x := r_ref03_Of n x
theorem s_ref03_Meet (n : Nat) (x : LI × LI) : f_ref03_Meet (n + 1) x = Go.Bk.ref03_Meet.P (f_ref03_In n) n x := r_ref03_Meet n x
theorem s_ref03_Has (n : Nat) (x : Int × LI × LR × Int × (List (RT Int))) : f_ref03_Has (n + 1) x = Go.Bk.ref03_Has.P (f_ref03_Meet n) (f_ref03_Of n) n x := r_ref03_Has n x
theorem s_law05_awake (n : Nat) (x : Unit) : f_law05_awake (n + 1) x = Go.Bk.law05_awake.P (f_boolean_Under n) (f_law05_even n) (f_law05_f n) (f_law05_leaf n) (f_ref03_Has n) (f_ref03_Valid n) n x := r_law05_awake n x
theorem s_auto_Copy_own (n : Nat) (x : Int × LI × LR) : f_auto_Copy_own (n + 1) x = Go.Bk.auto_Copy_own.P (f_slices_Clone_int_int n) n x := r_auto_Copy_own n x
theorem s_boolean_Union (n : Nat) (x : LI × Int × LI × LR × Int × LI × LR) : f_boolean_Union (n + 1) x = Go.Bk.boolean_Union.P (f_auto_Copy_own n) (f_auto_Valid n) n x := r_boolean_Union n x
theorem s_law05_valid (n : Nat) (x : LI × (List (Int × LI × LR))) : f_law05_valid (n + 1) x = Go.Bk.law05_valid.P (f_ref03_Valid n) n x := r_law05_valid n x
theorem s_ref01_shaped (n : Nat) (x : LI × Int × (List (RT Int))) : f_ref01_shaped (n + 1) x = Go.Bk.ref01_shaped.P (f_ref01_shaped n) n x := r_ref01_shaped n x
theorem s_ref01_Valid (n : Nat) (x : LI × Int × (List (RT Int))) : f_ref01_Valid (n + 1) x = Go.Bk.ref01_Valid.P (f_ref01_Few n) (f_ref01_ValidAlphabet n) (f_ref01_shaped n) n x := r_ref01_Valid n x
theorem s_law05_right (n : Nat) (x : LI × Int × LI × LR × Int × (List (RT Int)) × Bool) : f_law05_right (n + 1) x = Go.Bk.law05_right.P (f_ref03_Has n) n x := r_law05_right n x
theorem s_ref05_shift (n : Nat) (x : LR × Int) : f_ref05_shift (n + 1) x = Go.Bk.ref05_shift.P n x := r_ref05_shift n x
theorem s_ref05_Union (n : Nat) (x : Int × LI × LR × Int × LI × LR) : f_ref05_Union (n + 1) x = Go.Bk.ref05_Union.P (f_ref05_shift n) n x := r_ref05_Union n x
theorem s_ref03_Reached (n : Nat) (x : Int × LI × LR) : f_ref03_Reached (n + 1) x = Go.Bk.ref03_Reached.P n x := r_ref03_Reached n x
theorem s_ref03_Used (n : Nat) (x : Int × LI × LR) : f_ref03_Used (n + 1) x = Go.Bk.ref03_Used.P (f_ref03_Reached n) n x := r_ref03_Used n x
theorem s_ref03_key (n : Nat) (x : Int × LI × Int) : f_ref03_key (n + 1) x = Go.Bk.ref03_key.P n x := r_ref03_key n x
theorem s_ref03_Less (n : Nat) (x : LI × LI) : f_ref03_Less (n + 1) x = Go.Bk.ref03_Less.P n x := r_ref03_Less n x
theorem s_ref03_Sort (n : Nat) (x : List Ru) : f_ref03_Sort (n + 1) x = Go.Bk.ref03_Sort.P (f_ref03_Less n) (f_ref03_key n) n x := r_ref03_Sort n x
theorem s_ref03_Keep (n : Nat) (x : Int × LI × LR × (List Bool)) : f_ref03_Keep (n + 1) x = Go.Bk.ref03_Keep.P (f_ref03_Sort n) n x := r_ref03_Keep n x
theorem s_ref03_Trimmed (n : Nat) (x : Int × LI × LR) : f_ref03_Trimmed (n + 1) x = Go.Bk.ref03_Trimmed.P (f_ref03_Keep n) (f_ref03_Used n) n x := r_ref03_Trimmed n x
theorem s_ref03_Power (n : Nat) (x : Int × Int) : f_ref03_Power (n + 1) x = Go.Bk.ref03_Power.P n x := r_ref03_Power n x
theorem s_ref04_Bits (n : Nat) (x : Int × LI × LR) : f_ref04_Bits (n + 1) x = Go.Bk.ref04_Bits.P (f_ref03_Power n) (f_ref03_Trimmed n) n x := r_ref04_Bits n x
theorem s_ref01_List (n : Nat) (x : LI × LI) : f_ref01_List (n + 1) x = Go.Bk.ref01_List.P n x := r_ref01_List n x
theorem s_ref03_One (n : Nat) (x : Int × LI × LR) : f_ref03_One (n + 1) x = Go.Bk.ref03_One.P (f_ref01_List n) n x := r_ref03_One n x
theorem s_ref03_Full (n : Nat) (x : LI × Int) : f_ref03_Full (n + 1) x = Go.Bk.ref03_Full.P (f_ref03_Power n) n x := r_ref03_Full n x
theorem s_ref04_Light (n : Nat) (x : LI × (List (Int × LI × LR))) : f_ref04_Light (n + 1) x = Go.Bk.ref04_Light.P (f_ref03_Full n) (f_ref03_One n) (f_ref03_Trimmed n) (f_ref04_Bits n) n x := r_ref04_Light n x
theorem s_ref04_Lists (n : Nat) (x : Int × Int) : f_ref04_Lists (n + 1) x = Go.Bk.ref04_Lists.P (f_ref04_Lists n) n x := r_ref04_Lists n x
theorem s_ref04_pick (n : Nat) (x : LL × LI) : f_ref04_pick (n + 1) x = Go.Bk.ref04_pick.P n x := r_ref04_pick n x
theorem s_ref04_place (n : Nat) (x : LL × LI) : f_ref04_place (n + 1) x = Go.Bk.ref04_place.P (f_ref01_List n) n x := r_ref04_place n x
theorem s_ref04_Sets (n : Nat) (x : LI × Int × LI × LR) : f_ref04_Sets (n + 1) x = Go.Bk.ref04_Sets.P (f_ref03_Step n) (f_ref04_Lists n) (f_ref04_pick n) (f_ref04_place n) n x := r_ref04_Sets n x
theorem s_ref04_Subset (n : Nat) (x : LI × Int × LI × LR) : f_ref04_Subset (n + 1) x = Go.Bk.ref04_Subset.P (f_ref03_Meet n) (f_ref03_Step n) (f_ref03_Valid n) (f_ref04_Lists n) (f_ref04_Sets n) (f_ref04_pick n) (f_ref04_place n) n x := r_ref04_Subset n x
theorem s_ref04_Over (n : Nat) (x : LI × Int) : f_ref04_Over (n + 1) x = Go.Bk.ref04_Over.P (f_ref03_Full n) n x := r_ref04_Over n x
theorem s_ref04_Filled (n : Nat) (x : LI × Int × LI × LR) : f_ref04_Filled (n + 1) x = Go.Bk.ref04_Filled.P (f_ref01_List n) (f_ref04_Lists n) n x := r_ref04_Filled n x
theorem s_ref04_Table_index (n : Nat) (x : Int × LL × LI) : f_ref04_Table_index (n + 1) x = Go.Bk.ref04_Table_index.P n x := r_ref04_Table_index n x
theorem s_ref04_Make (n : Nat) (x : LI × Int × LI × LR) : f_ref04_Make (n + 1) x = Go.Bk.ref04_Make.P (f_ref03_Power n) (f_ref04_Table_index n) n x := r_ref04_Make n x
theorem s_ref04_Table_Next (n : Nat) (x : Int × LL × Int × LI) : f_ref04_Table_Next (n + 1) x = Go.Bk.ref04_Table_Next.P (f_ref04_Table_index n) n x := r_ref04_Table_Next n x
theorem s_ref04_alike (n : Nat) (x : LI × Int × LL × LI × Int × Int) : f_ref04_alike (n + 1) x = Go.Bk.ref04_alike.P (f_ref04_Lists n) (f_ref04_Table_Next n) n x := r_ref04_alike n x
theorem s_ref04_many (n : Nat) (x : List Int) : f_ref04_many (n + 1) x = Go.Bk.ref04_many.P (f_ref03_Insert n) n x := r_ref04_many n x
theorem s_ref04_classes (n : Nat) (x : LI × Int × LI × LR) : f_ref04_classes (n + 1) x = Go.Bk.ref04_classes.P (f_ref04_Make n) (f_ref04_alike n) (f_ref04_many n) n x := r_ref04_classes n x
theorem s_ref04_Renumber (n : Nat) (x : LI × Int × LI × LR) : f_ref04_Renumber (n + 1) x = Go.Bk.ref04_Renumber.P (f_ref03_In n) (f_ref03_Sort n) (f_ref04_Lists n) (f_ref04_Make n) (f_ref04_Table_Next n) n x := r_ref04_Renumber n x
theorem s_ref04_Minimal (n : Nat) (x : LI × Int × LI × LR) : f_ref04_Minimal (n + 1) x = Go.Bk.ref04_Minimal.P (f_ref03_In n) (f_ref03_Insert n) (f_ref03_Trimmed n) (f_ref04_Filled n) (f_ref04_Over n) (f_ref04_Renumber n) (f_ref04_Subset n) (f_ref04_classes n) n x := r_ref04_Minimal n x
theorem s_ref03_Same (n : Nat) (x : Int × LI × LR × Int × LI × LR) : f_ref03_Same (n + 1) x = Go.Bk.ref03_Same.P (f_ref01_List n) n x := r_ref03_Same n x
theorem s_ref04_Equal (n : Nat) (x : LI × Int × LI × LR × Int × LI × LR) : f_ref04_Equal (n + 1) x = Go.Bk.ref04_Equal.P (f_ref03_Same n) (f_ref04_Minimal n) n x := r_ref04_Equal n x
theorem s_ref04_Alike (n : Nat) (x : LI × Int × LI × LR × Int × LI × LR) : f_ref04_Alike (n + 1) x = Go.Bk.ref04_Alike.P (f_ref04_Equal n) (f_ref04_Light n) n x := r_ref04_Alike n x
theorem s_law05_BooleanUnion (n : Nat) (x : LI × Int × LI × LR × Int × LI × LR × Int × (List (RT Int))) : f_law05_BooleanUnion (n + 1) x = Go.Bk.law05_BooleanUnion.P (f_boolean_Union n) (f_law05_awake n) (f_law05_few n) (f_law05_right n) (f_law05_valid n) (f_ref01_Valid n) (f_ref03_Has n) (f_ref04_Alike n) (f_ref05_Union n) n x := r_law05_BooleanUnion n x
theorem s_boolean_mapped (n : Nat) (x : LI × LI × LI) : f_boolean_mapped (n + 1) x = Go.Bk.boolean_mapped.P n x := r_boolean_mapped n x
theorem s_boolean_Unlabel (n : Nat) (x : LI × LI × LI × Int × LI × LR) : f_boolean_Unlabel (n + 1) x = Go.Bk.boolean_Unlabel.P (f_auto_Valid n) (f_boolean_mapped n) (f_slices_Clone_int_int n) (f_tree_ValidAlphabet n) n x := r_boolean_Unlabel n x
theorem s_ref05_Mapped (n : Nat) (x : LI × LI × LI) : f_ref05_Mapped (n + 1) x = Go.Bk.ref05_Mapped.P n x := r_ref05_Mapped n x
theorem s_ref05_Map (n : Nat) (x : LI × Int × (List (RT Int))) : f_ref05_Map (n + 1) x = Go.Bk.ref05_Map.P (f_ref05_Map n) n x := r_ref05_Map n x
theorem s_ref05_Unlabel (n : Nat) (x : LI × Int × LI × LR) : f_ref05_Unlabel (n + 1) x = Go.Bk.ref05_Unlabel.P n x := r_ref05_Unlabel n x
theorem s_law05_BooleanUnlabels (n : Nat) (x : LI × LI × LI × Int × LI × LR × Int × (List (RT Int))) : f_law05_BooleanUnlabels (n + 1) x = Go.Bk.law05_BooleanUnlabels.P (f_boolean_Unlabel n) (f_law05_awake n) (f_law05_few n) (f_law05_right n) (f_law05_valid n) (f_ref01_Valid n) (f_ref01_ValidAlphabet n) (f_ref03_Has n) (f_ref03_One n) (f_ref04_Alike n) (f_ref05_Map n) (f_ref05_Mapped n) (f_ref05_Unlabel n) n x := r_law05_BooleanUnlabels n x
end Go.Proofs.YtgkobbodicfofaaDoor.Am
end
