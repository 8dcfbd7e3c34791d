import Derived.Test.YtgkobbodicfofaaDoorPt
import Derived.KernelRfl
import Derived.Test.YtgkobbodicfofaaDoorMk
noncomputable section
namespace Go.Proofs.YtgkobbodicfofaaDoor.Am
open Go Go.AM Go.Bk
set_option maxRecDepth 100000
set_option linter.unusedVariables false
abbrev i_ref03_Few : Nat := 28
abbrev i_ref01_count : Nat := 51
abbrev i_ref01_Few : Nat := 29
abbrev i_law05_few : Nat := 8
abbrev i_law05_even : Nat := 30
abbrev i_tree_ValidAlphabet_1 : Nat := 62
abbrev i_slices_IndexFunc_int_int_of_tree_ValidAlphabet_1 : Nat := 1001
abbrev i_slices_ContainsFunc_int_int_of_tree_ValidAlphabet_1 : Nat := 1000
abbrev i_tree_ValidAlphabet : Nat := 47
abbrev i_auto_Valid_1 : Nat := 52
abbrev i_auto_Valid : Nat := 34
abbrev i_slices_Clone_int_int : Nat := 37
abbrev i_auto_Copy : Nat := 35
abbrev i_auto_Final : Nat := 36
abbrev i_math_bits_Mul64 : Nat := 68
abbrev i_math_bits_Mul : Nat := 53
abbrev i_slices_Repeat_int_int : Nat := 38
abbrev i_boolean_Under : Nat := 10
abbrev i_law05_leaf : Nat := 32
abbrev i_law05_f : Nat := 31
abbrev i_ref01_ValidAlphabet : Nat := 21
abbrev i_ref03_Valid : Nat := 33
abbrev i_ref03_In : Nat := 54
abbrev i_ref03_Insert : Nat := 69
abbrev i_ref03_Step : Nat := 55
abbrev i_ref03_Of : Nat := 43
abbrev i_ref03_Meet : Nat := 42
abbrev i_ref03_Has : Nat := 16
abbrev i_law05_awake : Nat := 9
abbrev i_law05_valid : Nat := 11
abbrev i_ref01_shaped : Nat := 39
abbrev i_ref01_Valid : Nat := 12
abbrev i_ref01_Places : Nat := 40
abbrev i_ref01_Find : Nat := 41
abbrev i_ref05_Beneath : Nat := 14
abbrev i_law05_right : Nat := 13
abbrev i_law05_BooleanUnder : Nat := 3
abbrev i_law05_many : Nat := 19
abbrev i_boolean_Union : Nat := 15
abbrev i_law05_BooleanFull : Nat := 5
theorem e_ref03_Few (n : Nat) (f : prg.Fs) (x : (List Int) × Int × Int × (List (Int × (List Int) × (List (Int × (List Int) × Int))))) : prg.phi 28 n f x = Go.Bk.ref03_Few.P n x := by kernel_rfl
theorem r_ref03_Few (n : Nat) (x : (List Int) × Int × Int × (List (Int × (List Int) × (List (Int × (List Int) × Int))))) : prg.run (n + 1) i_ref03_Few x = Go.Bk.ref03_Few.P n x := e_ref03_Few n (prg.run n) x
theorem e_ref01_count (n : Nat) (f : prg.Fs) (x : Int × (List (RT Int)) × Int) : prg.phi 51 n f x = Go.Bk.ref01_count.P (f 51) n x := by kernel_rfl
theorem r_ref01_count (n : Nat) (x : Int × (List (RT Int)) × Int) : prg.run (n + 1) i_ref01_count x = Go.Bk.ref01_count.P (prg.run n i_ref01_count) n x := e_ref01_count n (prg.run n) x
theorem e_ref01_Few (n : Nat) (f : prg.Fs) (x : Int × (List (RT Int)) × Int) : prg.phi 29 n f x = Go.Bk.ref01_Few.P (f 51) n x := by kernel_rfl
theorem r_ref01_Few (n : Nat) (x : Int × (List (RT Int)) × Int) : prg.run (n + 1) i_ref01_Few x = Go.Bk.ref01_Few.P (prg.run n i_ref01_count) n x := e_ref01_Few n (prg.run n) x
theorem e_law05_few (n : Nat) (f : prg.Fs) (x : (List Int) × Int × (List (RT Int)) × (List (Int × (List Int) × (List (Int × (List Int) × Int))))) : prg.phi 8 n f x = Go.Bk.law05_few.P (f 29) (f 28) n x := by kernel_rfl
theorem r_law05_few (n : Nat) (x : (List Int) × Int × (List (RT Int)) × (List (Int × (List Int) × (List (Int × (List Int) × Int))))) : prg.run (n + 1) i_law05_few x = Go.Bk.law05_few.P (prg.run n i_ref01_Few) (prg.run n i_ref03_Few) n x := e_law05_few n (prg.run n) x
theorem e_law05_even (n : Nat) (f : prg.Fs) (x : Unit) : prg.phi 30 n f x = Go.Bk.law05_even.P n x := by kernel_rfl
theorem r_law05_even (n : Nat) (x : Unit) : prg.run (n + 1) i_law05_even x = Go.Bk.law05_even.P n x := e_law05_even n (prg.run n) x
theorem e_tree_ValidAlphabet_1 (n : Nat) (f : prg.Fs) (x : Int) : prg.phi 62 n f x = Go.Bk.tree_ValidAlphabet_1.P n x := by kernel_rfl
theorem r_tree_ValidAlphabet_1 (n : Nat) (x : Int) : prg.run (n + 1) i_tree_ValidAlphabet_1 x = Go.Bk.tree_ValidAlphabet_1.P n x := e_tree_ValidAlphabet_1 n (prg.run n) x
theorem e_slices_IndexFunc_int_int_of_tree_ValidAlphabet_1 (n : Nat) (f : prg.Fs) (x : List Int) : prg.phi 1001 n f x = Go.Bk.slices_IndexFunc_int_int_of_tree_ValidAlphabet_1.P (f 62) n x := by kernel_rfl
theorem r_slices_IndexFunc_int_int_of_tree_ValidAlphabet_1 (n : Nat) (x : List Int) : prg.run (n + 1) i_slices_IndexFunc_int_int_of_tree_ValidAlphabet_1 x = Go.Bk.slices_IndexFunc_int_int_of_tree_ValidAlphabet_1.P (prg.run n i_tree_ValidAlphabet_1) n x := e_slices_IndexFunc_int_int_of_tree_ValidAlphabet_1 n (prg.run n) x
theorem e_slices_ContainsFunc_int_int_of_tree_ValidAlphabet_1 (n : Nat) (f : prg.Fs) (x : List Int) : prg.phi 1000 n f x = Go.Bk.slices_ContainsFunc_int_int_of_tree_ValidAlphabet_1.P (f 1001) n x := by kernel_rfl
theorem r_slices_ContainsFunc_int_int_of_tree_ValidAlphabet_1 (n : Nat) (x : List Int) : prg.run (n + 1) i_slices_ContainsFunc_int_int_of_tree_ValidAlphabet_1 x = Go.Bk.slices_ContainsFunc_int_int_of_tree_ValidAlphabet_1.P (prg.run n i_slices_IndexFunc_int_int_of_tree_ValidAlphabet_1) n x := e_slices_ContainsFunc_int_int_of_tree_ValidAlphabet_1 n (prg.run n) x
theorem e_tree_ValidAlphabet (n : Nat) (f : prg.Fs) (x : List Int) : prg.phi 47 n f x = Go.Bk.tree_ValidAlphabet.P (f 1000) n x := by kernel_rfl
theorem r_tree_ValidAlphabet (n : Nat) (x : List Int) : prg.run (n + 1) i_tree_ValidAlphabet x = Go.Bk.tree_ValidAlphabet.P (prg.run n i_slices_ContainsFunc_int_int_of_tree_ValidAlphabet_1) n x := e_tree_ValidAlphabet n (prg.run n) x
theorem e_auto_Valid_1 (n : Nat) (f : prg.Fs) (x : Int × Int × (List Int) × (List (Int × (List Int) × Int))) : prg.phi 52 n f x = Go.Bk.auto_Valid_1.P n x := by kernel_rfl
theorem r_auto_Valid_1 (n : Nat) (x : Int × Int × (List Int) × (List (Int × (List Int) × Int))) : prg.run (n + 1) i_auto_Valid_1 x = Go.Bk.auto_Valid_1.P n x := e_auto_Valid_1 n (prg.run n) x
theorem e_auto_Valid (n : Nat) (f : prg.Fs) (x : (List Int) × Int × (List Int) × (List (Int × (List Int) × Int))) : prg.phi 34 n f x = Go.Bk.auto_Valid.P (f 52) (f 47) n x := by kernel_rfl
theorem r_auto_Valid (n : Nat) (x : (List Int) × Int × (List Int) × (List (Int × (List Int) × Int))) : prg.run (n + 1) i_auto_Valid x = Go.Bk.auto_Valid.P (prg.run n i_auto_Valid_1) (prg.run n i_tree_ValidAlphabet) n x := e_auto_Valid n (prg.run n) x
theorem e_auto_Copy (n : Nat) (f : prg.Fs) (x : Int × (List Int) × (List (Int × (List Int) × Int))) : prg.phi 35 n f x = Go.Bk.auto_Copy.P (f 37) n x := by kernel_rfl
theorem r_auto_Copy (n : Nat) (x : Int × (List Int) × (List (Int × (List Int) × Int))) : prg.run (n + 1) i_auto_Copy x = Go.Bk.auto_Copy.P (prg.run n i_slices_Clone_int_int) n x := e_auto_Copy n (prg.run n) x
theorem e_auto_Final (n : Nat) (f : prg.Fs) (x : Int × (List Int) × (List (Int × (List Int) × Int))) : prg.phi 36 n f x = Go.Bk.auto_Final.P n x := by kernel_rfl
theorem r_auto_Final (n : Nat) (x : Int × (List Int) × (List (Int × (List Int) × Int))) : prg.run (n + 1) i_auto_Final x = Go.Bk.auto_Final.P n x := e_auto_Final n (prg.run n) x
theorem e_math_bits_Mul64 (n : Nat) (f : prg.Fs) (x : Int × Int) : prg.phi 68 n f x = Go.Bk.math_bits_Mul64.P n x := by kernel_rfl
theorem r_math_bits_Mul64 (n : Nat) (x : Int × Int) : prg.run (n + 1) i_math_bits_Mul64 x = Go.Bk.math_bits_Mul64.P n x := e_math_bits_Mul64 n (prg.run n) x
theorem e_math_bits_Mul (n : Nat) (f : prg.Fs) (x : Int × Int) : prg.phi 53 n f x = Go.Bk.math_bits_Mul.P (f 68) n x := by kernel_rfl
theorem r_math_bits_Mul (n : Nat) (x : Int × Int) : prg.run (n + 1) i_math_bits_Mul x = Go.Bk.math_bits_Mul.P (prg.run n i_math_bits_Mul64) n x := e_math_bits_Mul n (prg.run n) x
theorem e_slices_Repeat_int_int (n : Nat) (f : prg.Fs) (x : (List Int) × Int) : prg.phi 38 n f x = Go.Bk.slices_Repeat_int_int.P (f 53) n x := by kernel_rfl
theorem r_slices_Repeat_int_int (n : Nat) (x : (List Int) × Int) : prg.run (n + 1) i_slices_Repeat_int_int x = Go.Bk.slices_Repeat_int_int.P (prg.run n i_math_bits_Mul) n x := e_slices_Repeat_int_int n (prg.run n) x
theorem e_boolean_Under (n : Nat) (f : prg.Fs) (x : (List Int) × Int × (List Int) × (List (Int × (List Int) × Int)) × Int) : prg.phi 10 n f x = Go.Bk.boolean_Under.P (f 35) (f 36) (f 34) (f 37) (f 38) n x := by kernel_rfl
theorem r_boolean_Under (n : Nat) (x : (List Int) × Int × (List Int) × (List (Int × (List Int) × Int)) × Int) : prg.run (n + 1) i_boolean_Under x = Go.Bk.boolean_Under.P (prg.run n i_auto_Copy) (prg.run n i_auto_Final) (prg.run n i_auto_Valid) (prg.run n i_slices_Clone_int_int) (prg.run n i_slices_Repeat_int_int) n x := e_boolean_Under n (prg.run n) x
theorem e_law05_leaf (n : Nat) (f : prg.Fs) (x : Unit) : prg.phi 32 n f x = Go.Bk.law05_leaf.P n x := by kernel_rfl
theorem r_law05_leaf (n : Nat) (x : Unit) : prg.run (n + 1) i_law05_leaf x = Go.Bk.law05_leaf.P n x := e_law05_leaf n (prg.run n) x
theorem e_law05_f (n : Nat) (f : prg.Fs) (x : Int × (List (RT Int)) × Int × (List (RT Int))) : prg.phi 31 n f x = Go.Bk.law05_f.P n x := by kernel_rfl
theorem r_law05_f (n : Nat) (x : Int × (List (RT Int)) × Int × (List (RT Int))) : prg.run (n + 1) i_law05_f x = Go.Bk.law05_f.P n x := e_law05_f n (prg.run n) x
theorem e_ref01_ValidAlphabet (n : Nat) (f : prg.Fs) (x : List Int) : prg.phi 21 n f x = Go.Bk.ref01_ValidAlphabet.P n x := by kernel_rfl
theorem r_ref01_ValidAlphabet (n : Nat) (x : List Int) : prg.run (n + 1) i_ref01_ValidAlphabet x = Go.Bk.ref01_ValidAlphabet.P n x := e_ref01_ValidAlphabet n (prg.run n) x
theorem e_ref03_Valid (n : Nat) (f : prg.Fs) (x : (List Int) × Int × (List Int) × (List (Int × (List Int) × Int))) : prg.phi 33 n f x = Go.Bk.ref03_Valid.P (f 21) n x := by kernel_rfl
theorem r_ref03_Valid (n : Nat) (x : (List Int) × Int × (List Int) × (List (Int × (List Int) × Int))) : prg.run (n + 1) i_ref03_Valid x = Go.Bk.ref03_Valid.P (prg.run n i_ref01_ValidAlphabet) n x := e_ref03_Valid n (prg.run n) x
theorem e_ref03_In (n : Nat) (f : prg.Fs) (x : (List Int) × Int) : prg.phi 54 n f x = Go.Bk.ref03_In.P n x := by kernel_rfl
theorem r_ref03_In (n : Nat) (x : (List Int) × Int) : prg.run (n + 1) i_ref03_In x = Go.Bk.ref03_In.P n x := e_ref03_In n (prg.run n) x
theorem e_ref03_Insert (n : Nat) (f : prg.Fs) (x : (List Int) × Int) : prg.phi 69 n f x = Go.Bk.ref03_Insert.P n x := by kernel_rfl
theorem r_ref03_Insert (n : Nat) (x : (List Int) × Int) : prg.run (n + 1) i_ref03_Insert x = Go.Bk.ref03_Insert.P n x := e_ref03_Insert n (prg.run n) x
theorem e_ref03_Step (n : Nat) (f : prg.Fs) (x : Int × (List Int) × (List (Int × (List Int) × Int)) × Int × (List (List Int))) : prg.phi 55 n f x = Go.Bk.ref03_Step.P (f 54) (f 69) n x := by kernel_rfl
theorem r_ref03_Step (n : Nat) (x : Int × (List Int) × (List (Int × (List Int) × Int)) × Int × (List (List Int))) : prg.run (n + 1) i_ref03_Step x = Go.Bk.ref03_Step.P (prg.run n i_ref03_In) (prg.run n i_ref03_Insert) n x := e_ref03_Step n (prg.run n) x
theorem e_ref03_Of (n : Nat) (f : prg.Fs) (x : Int × (List Int) × (List (Int × (List Int) × Int)) × Int × (List (RT Int))) : prg.phi 43 n f x = Go.Bk.ref03_Of.P (f 43) (f 55) n x := by kernel_rfl
theorem r_ref03_Of (n : Nat) (x : Int × (List Int) × (List (Int × (List Int) × Int)) × Int × (List (RT Int))) : prg.run (n + 1) i_ref03_Of x = Go.Bk.ref03_Of.P (prg.run n i_ref03_Of) (prg.run n i_ref03_Step) n x := e_ref03_Of n (prg.run n) x
theorem e_ref03_Meet (n : Nat) (f : prg.Fs) (x : (List Int) × (List Int)) : prg.phi 42 n f x = Go.Bk.ref03_Meet.P (f 54) n x := by kernel_rfl
theorem r_ref03_Meet (n : Nat) (x : (List Int) × (List Int)) : prg.run (n + 1) i_ref03_Meet x = Go.Bk.ref03_Meet.P (prg.run n i_ref03_In) n x := e_ref03_Meet n (prg.run n) x
theorem e_ref03_Has (n : Nat) (f : prg.Fs) (x : Int × (List Int) × (List (Int × (List Int) × Int)) × Int × (List (RT Int))) : prg.phi 16 n f x = Go.Bk.ref03_Has.P (f 42) (f 43) n x := by kernel_rfl
theorem r_ref03_Has (n : Nat) (x : Int × (List Int) × (List (Int × (List Int) × Int)) × Int × (List (RT Int))) : prg.run (n + 1) i_ref03_Has x = Go.Bk.ref03_Has.P (prg.run n i_ref03_Meet) (prg.run n i_ref03_Of) n x := e_ref03_Has n (prg.run n) x
theorem e_law05_awake (n : Nat) (f : prg.Fs) (x : Unit) : prg.phi 9 n f x = Go.Bk.law05_awake.P (f 10) (f 30) (f 31) (f 32) (f 16) (f 33) n x := by kernel_rfl
theorem r_law05_awake (n : Nat) (x : Unit) : prg.run (n + 1) i_law05_awake x = Go.Bk.law05_awake.P (prg.run n i_boolean_Under) (prg.run n i_law05_even) (prg.run n i_law05_f) (prg.run n i_law05_leaf) (prg.run n i_ref03_Has) (prg.run n i_ref03_Valid) n x := e_law05_awake n (prg.run n) x
theorem e_law05_valid (n : Nat) (f : prg.Fs) (x : (List Int) × (List (Int × (List Int) × (List (Int × (List Int) × Int))))) : prg.phi 11 n f x = Go.Bk.law05_valid.P (f 33) n x := by kernel_rfl
theorem r_law05_valid (n : Nat) (x : (List Int) × (List (Int × (List Int) × (List (Int × (List Int) × Int))))) : prg.run (n + 1) i_law05_valid x = Go.Bk.law05_valid.P (prg.run n i_ref03_Valid) n x := e_law05_valid n (prg.run n) x
theorem e_ref01_shaped (n : Nat) (f : prg.Fs) (x : (List Int) × Int × (List (RT Int))) : prg.phi 39 n f x = Go.Bk.ref01_shaped.P (f 39) n x := by kernel_rfl
theorem r_ref01_shaped (n : Nat) (x : (List Int) × Int × (List (RT Int))) : prg.run (n + 1) i_ref01_shaped x = Go.Bk.ref01_shaped.P (prg.run n i_ref01_shaped) n x := e_ref01_shaped n (prg.run n) x
theorem e_ref01_Valid (n : Nat) (f : prg.Fs) (x : (List Int) × Int × (List (RT Int))) : prg.phi 12 n f x = Go.Bk.ref01_Valid.P (f 29) (f 21) (f 39) n x := by kernel_rfl
theorem r_ref01_Valid (n : Nat) (x : (List Int) × Int × (List (RT Int))) : prg.run (n + 1) i_ref01_Valid x = Go.Bk.ref01_Valid.P (prg.run n i_ref01_Few) (prg.run n i_ref01_ValidAlphabet) (prg.run n i_ref01_shaped) n x := e_ref01_Valid n (prg.run n) x
theorem e_ref01_Places (n : Nat) (f : prg.Fs) (x : Int × (List (RT Int))) : prg.phi 40 n f x = Go.Bk.ref01_Places.P (f 40) n x := by kernel_rfl
theorem r_ref01_Places (n : Nat) (x : Int × (List (RT Int))) : prg.run (n + 1) i_ref01_Places x = Go.Bk.ref01_Places.P (prg.run n i_ref01_Places) n x := e_ref01_Places n (prg.run n) x
theorem e_ref01_Find (n : Nat) (f : prg.Fs) (x : Int × (List (RT Int)) × (List Int)) : prg.phi 41 n f x = Go.Bk.ref01_Find.P n x := by kernel_rfl
theorem r_ref01_Find (n : Nat) (x : Int × (List (RT Int)) × (List Int)) : prg.run (n + 1) i_ref01_Find x = Go.Bk.ref01_Find.P n x := e_ref01_Find n (prg.run n) x
theorem e_ref05_Beneath (n : Nat) (f : prg.Fs) (x : Int × (List Int) × (List (Int × (List Int) × Int)) × Int × Int × (List (RT Int))) : prg.phi 14 n f x = Go.Bk.ref05_Beneath.P (f 41) (f 40) (f 16) n x := by kernel_rfl
theorem r_ref05_Beneath (n : Nat) (x : Int × (List Int) × (List (Int × (List Int) × Int)) × Int × Int × (List (RT Int))) : prg.run (n + 1) i_ref05_Beneath x = Go.Bk.ref05_Beneath.P (prg.run n i_ref01_Find) (prg.run n i_ref01_Places) (prg.run n i_ref03_Has) n x := e_ref05_Beneath n (prg.run n) x
theorem e_law05_right (n : Nat) (f : prg.Fs) (x : (List Int) × Int × (List Int) × (List (Int × (List Int) × Int)) × Int × (List (RT Int)) × Bool) : prg.phi 13 n f x = Go.Bk.law05_right.P (f 16) n x := by kernel_rfl
theorem r_law05_right (n : Nat) (x : (List Int) × Int × (List Int) × (List (Int × (List Int) × Int)) × Int × (List (RT Int)) × Bool) : prg.run (n + 1) i_law05_right x = Go.Bk.law05_right.P (prg.run n i_ref03_Has) n x := e_law05_right n (prg.run n) x
theorem e_law05_BooleanUnder (n : Nat) (f : prg.Fs) (x : (List Int) × Int × (List Int) × (List (Int × (List Int) × Int)) × Int × Int × (List (RT Int))) : prg.phi 3 n f x = Go.Bk.law05_BooleanUnder.P (f 10) (f 9) (f 8) (f 13) (f 11) (f 12) (f 14) n x := by kernel_rfl
theorem r_law05_BooleanUnder (n : Nat) (x : (List Int) × Int × (List Int) × (List (Int × (List Int) × Int)) × Int × Int × (List (RT Int))) : prg.run (n + 1) i_law05_BooleanUnder x = Go.Bk.law05_BooleanUnder.P (prg.run n i_boolean_Under) (prg.run n i_law05_awake) (prg.run n i_law05_few) (prg.run n i_law05_right) (prg.run n i_law05_valid) (prg.run n i_ref01_Valid) (prg.run n i_ref05_Beneath) n x := e_law05_BooleanUnder n (prg.run n) x
theorem e_law05_many (n : Nat) (f : prg.Fs) (x : Int × Int) : prg.phi 19 n f x = Go.Bk.law05_many.P n x := by kernel_rfl
theorem r_law05_many (n : Nat) (x : Int × Int) : prg.run (n + 1) i_law05_many x = Go.Bk.law05_many.P n x := e_law05_many n (prg.run n) x
theorem e_boolean_Union (n : Nat) (f : prg.Fs) (x : (List Int) × Int × (List Int) × (List (Int × (List Int) × Int)) × Int × (List Int) × (List (Int × (List Int) × Int))) : prg.phi 15 n f x = Go.Bk.boolean_Union.P (f 35) (f 34) n x := by kernel_rfl
theorem r_boolean_Union (n : Nat) (x : (List Int) × Int × (List Int) × (List (Int × (List Int) × Int)) × Int × (List Int) × (List (Int × (List Int) × Int))) : prg.run (n + 1) i_boolean_Union x = Go.Bk.boolean_Union.P (prg.run n i_auto_Copy) (prg.run n i_auto_Valid) n x := e_boolean_Union n (prg.run n) x
theorem e_law05_BooleanFull (n : Nat) (f : prg.Fs) (x : Int × Int × Int × Int) : prg.phi 5 n f x = Go.Bk.law05_BooleanFull.P (f 15) (f 9) (f 19) (f 11) n x := by kernel_rfl
theorem r_law05_BooleanFull (n : Nat) (x : Int × Int × Int × Int) : prg.run (n + 1) i_law05_BooleanFull x = Go.Bk.law05_BooleanFull.P (prg.run n i_boolean_Union) (prg.run n i_law05_awake) (prg.run n i_law05_many) (prg.run n i_law05_valid) n x := e_law05_BooleanFull n (prg.run n) x
end Go.Proofs.YtgkobbodicfofaaDoor.Am
end
noncomputable section
namespace Go.Proofs.YtgkobbodicfofaaDoor.Am
open Go Go.AM Go.Bk
set_option maxRecDepth 100000
set_option linter.unusedVariables false
noncomputable def f_slices_Clone_int_int (n : Nat) (x : List Int) : Option (List Int) := prg.run n i_slices_Clone_int_int x
theorem s_slices_Clone_int_int (n : Nat) (x : List Int) : f_slices_Clone_int_int (n + 1) x = cloneX x := by kernel_rfl
noncomputable def f_ref03_Few (n : Nat) (x : (List Int) × Int × Int × (List (Int × (List Int) × (List (Int × (List Int) × Int))))) : Option Bool := prg.run n i_ref03_Few x
noncomputable def f_ref01_count (n : Nat) (x : Int × (List (RT Int)) × Int) : Option Int := prg.run n i_ref01_count x
noncomputable def f_ref01_Few (n : Nat) (x : Int × (List (RT Int)) × Int) : Option Bool := prg.run n i_ref01_Few x
noncomputable def f_law05_few (n : Nat) (x : (List Int) × Int × (List (RT Int)) × (List (Int × (List Int) × (List (Int × (List Int) × Int))))) : Option Bool := prg.run n i_law05_few x
noncomputable def f_law05_even (n : Nat) (x : Unit) : Option (Int × (List Int) × (List (Int × (List Int) × Int))) := prg.run n i_law05_even x
noncomputable def f_tree_ValidAlphabet_1 (n : Nat) (x : Int) : Option Bool := prg.run n i_tree_ValidAlphabet_1 x
noncomputable def f_slices_IndexFunc_int_int_of_tree_ValidAlphabet_1 (n : Nat) (x : List Int) : Option Int := prg.run n i_slices_IndexFunc_int_int_of_tree_ValidAlphabet_1 x
noncomputable def f_slices_ContainsFunc_int_int_of_tree_ValidAlphabet_1 (n : Nat) (x : List Int) : Option Bool := prg.run n i_slices_ContainsFunc_int_int_of_tree_ValidAlphabet_1 x
noncomputable def f_tree_ValidAlphabet (n : Nat) (x : List Int) : Option Bool := prg.run n i_tree_ValidAlphabet x
noncomputable def f_auto_Valid_1 (n : Nat) (x : Int × Int × (List Int) × (List (Int × (List Int) × Int))) : Option Bool := prg.run n i_auto_Valid_1 x
noncomputable def f_auto_Valid (n : Nat) (x : (List Int) × Int × (List Int) × (List (Int × (List Int) × Int))) : Option Bool := prg.run n i_auto_Valid x
noncomputable def f_auto_Copy (n : Nat) (x : Int × (List Int) × (List (Int × (List Int) × Int))) : Option (Int × (List Int) × (List (Int × (List Int) × Int))) := prg.run n i_auto_Copy x
noncomputable def f_auto_Final (n : Nat) (x : Int × (List Int) × (List (Int × (List Int) × Int))) : Option (List Bool) := prg.run n i_auto_Final x
noncomputable def f_math_bits_Mul64 (n : Nat) (x : Int × Int) : Option (Int × Int) := prg.run n i_math_bits_Mul64 x
noncomputable def f_math_bits_Mul (n : Nat) (x : Int × Int) : Option (Int × Int) := prg.run n i_math_bits_Mul x
noncomputable def f_slices_Repeat_int_int (n : Nat) (x : (List Int) × Int) : Option (List Int) := prg.run n i_slices_Repeat_int_int x
noncomputable def f_boolean_Under (n : Nat) (x : (List Int) × Int × (List Int) × (List (Int × (List Int) × Int)) × Int) : Option (Int × (List Int) × (List (Int × (List Int) × Int)) × Int) := prg.run n i_boolean_Under x
noncomputable def f_law05_leaf (n : Nat) (x : Unit) : Option (Int × (List (RT Int))) := prg.run n i_law05_leaf x
noncomputable def f_law05_f (n : Nat) (x : Int × (List (RT Int)) × Int × (List (RT Int))) : Option (Int × (List (RT Int))) := prg.run n i_law05_f x
noncomputable def f_ref01_ValidAlphabet (n : Nat) (x : List Int) : Option Bool := prg.run n i_ref01_ValidAlphabet x
noncomputable def f_ref03_Valid (n : Nat) (x : (List Int) × Int × (List Int) × (List (Int × (List Int) × Int))) : Option Bool := prg.run n i_ref03_Valid x
noncomputable def f_ref03_In (n : Nat) (x : (List Int) × Int) : Option Bool := prg.run n i_ref03_In x
noncomputable def f_ref03_Insert (n : Nat) (x : (List Int) × Int) : Option (List Int) := prg.run n i_ref03_Insert x
noncomputable def f_ref03_Step (n : Nat) (x : Int × (List Int) × (List (Int × (List Int) × Int)) × Int × (List (List Int))) : Option (List Int) := prg.run n i_ref03_Step x
noncomputable def f_ref03_Of (n : Nat) (x : Int × (List Int) × (List (Int × (List Int) × Int)) × Int × (List (RT Int))) : Option (List Int) := prg.run n i_ref03_Of x
noncomputable def f_ref03_Meet (n : Nat) (x : (List Int) × (List Int)) : Option Bool := prg.run n i_ref03_Meet x
noncomputable def f_ref03_Has (n : Nat) (x : Int × (List Int) × (List (Int × (List Int) × Int)) × Int × (List (RT Int))) : Option Bool := prg.run n i_ref03_Has x
noncomputable def f_law05_awake (n : Nat) (x : Unit) : Option Bool := prg.run n i_law05_awake x
noncomputable def f_law05_valid (n : Nat) (x : (List Int) × (List (Int × (List Int) × (List (Int × (List Int) × Int))))) : Option Bool := prg.run n i_law05_valid x
noncomputable def f_ref01_shaped (n : Nat) (x : (List Int) × Int × (List (RT Int))) : Option Bool := prg.run n i_ref01_shaped x
noncomputable def f_ref01_Valid (n : Nat) (x : (List Int) × Int × (List (RT Int))) : Option Bool := prg.run n i_ref01_Valid x
noncomputable def f_ref01_Places (n : Nat) (x : Int × (List (RT Int))) : Option (List (List Int)) := prg.run n i_ref01_Places x
noncomputable def f_ref01_Find (n : Nat) (x : Int × (List (RT Int)) × (List Int)) : Option (Int × (List (RT Int)) × Bool) := prg.run n i_ref01_Find x
noncomputable def f_ref05_Beneath (n : Nat) (x : Int × (List Int) × (List (Int × (List Int) × Int)) × Int × Int × (List (RT Int))) : Option Bool := prg.run n i_ref05_Beneath x
noncomputable def f_law05_right (n : Nat) (x : (List Int) × Int × (List Int) × (List (Int × (List Int) × Int)) × Int × (List (RT Int)) × Bool) : Option Bool := prg.run n i_law05_right x
noncomputable def f_law05_BooleanUnder (n : Nat) (x : (List Int) × Int × (List Int) × (List (Int × (List Int) × Int)) × Int × Int × (List (RT Int))) : Option Bool := prg.run n i_law05_BooleanUnder x
noncomputable def f_law05_many (n : Nat) (x : Int × Int) : Option (Int × (List Int) × (List (Int × (List Int) × Int))) := prg.run n i_law05_many x
noncomputable def f_boolean_Union (n : Nat) (x : (List Int) × Int × (List Int) × (List (Int × (List Int) × Int)) × Int × (List Int) × (List (Int × (List Int) × Int))) : Option (Int × (List Int) × (List (Int × (List Int) × Int)) × Int) := prg.run n i_boolean_Union x
noncomputable def f_law05_BooleanFull (n : Nat) (x : Int × Int × Int × Int) : Option Bool := prg.run n i_law05_BooleanFull x
theorem s_ref03_Few (n : Nat) (x : (List Int) × Int × Int × (List (Int × (List Int) × (List (Int × (List Int) × Int))))) : f_ref03_Few (n + 1) x = Go.Bk.ref03_Few.P n x := r_ref03_Few n x
theorem s_ref01_count (n : Nat) (x : Int × (List (RT Int)) × Int) : f_ref01_count (n + 1) x = Go.Bk.ref01_count.P (f_ref01_count n) n x := r_ref01_count n x
theorem s_ref01_Few (n : Nat) (x : Int × (List (RT Int)) × Int) : f_ref01_Few (n + 1) x = Go.Bk.ref01_Few.P (f_ref01_count n) n x := r_ref01_Few n x
theorem s_law05_few (n : Nat) (x : (List Int) × Int × (List (RT Int)) × (List (Int × (List Int) × (List (Int × (List Int) × Int))))) : f_law05_few (n + 1) x = Go.Bk.law05_few.P (f_ref01_Few n) (f_ref03_Few n) n x := r_law05_few n x
theorem s_law05_even (n : Nat) (x : Unit) : f_law05_even (n + 1) x = Go.Bk.law05_even.P n x := r_law05_even n x
theorem s_tree_ValidAlphabet_1 (n : Nat) (x : Int) : f_tree_ValidAlphabet_1 (n + 1) x = Go.Bk.tree_ValidAlphabet_1.P n x := r_tree_ValidAlphabet_1 n x
theorem s_slices_IndexFunc_int_int_of_tree_ValidAlphabet_1 (n : Nat) (x : List Int) : f_slices_IndexFunc_int_int_of_tree_ValidAlphabet_1 (n + 1) x = Go.Bk.slices_IndexFunc_int_int_of_tree_ValidAlphabet_1.P (f_tree_ValidAlphabet_1 n) n x := r_slices_IndexFunc_int_int_of_tree_ValidAlphabet_1 n x
theorem s_slices_ContainsFunc_int_int_of_tree_ValidAlphabet_1 (n : Nat) (x : List Int) : f_slices_ContainsFunc_int_int_of_tree_ValidAlphabet_1 (n + 1) x = Go.Bk.slices_ContainsFunc_int_int_of_tree_ValidAlphabet_1.P (f_slices_IndexFunc_int_int_of_tree_ValidAlphabet_1 n) n x := r_slices_ContainsFunc_int_int_of_tree_ValidAlphabet_1 n x
theorem s_tree_ValidAlphabet (n : Nat) (x : List Int) : f_tree_ValidAlphabet (n + 1) x = Go.Bk.tree_ValidAlphabet.P (f_slices_ContainsFunc_int_int_of_tree_ValidAlphabet_1 n) n x := r_tree_ValidAlphabet n x
theorem s_auto_Valid_1 (n : Nat) (x : Int × Int × (List Int) × (List (Int × (List Int) × Int))) : f_auto_Valid_1 (n + 1) x = Go.Bk.auto_Valid_1.P n x := r_auto_Valid_1 n x
theorem s_auto_Valid (n : Nat) (x : (List Int) × Int × (List Int) × (List (Int × (List Int) × Int))) : f_auto_Valid (n + 1) x = Go.Bk.auto_Valid.P (f_auto_Valid_1 n) (f_tree_ValidAlphabet n) n x := r_auto_Valid n x
theorem s_auto_Copy (n : Nat) (x : Int × (List Int) × (List (Int × (List Int) × Int))) : f_auto_Copy (n + 1) x = Go.Bk.auto_Copy.P (f_slices_Clone_int_int n) n x := r_auto_Copy n x
theorem s_auto_Final (n : Nat) (x : Int × (List Int) × (List (Int × (List Int) × Int))) : f_auto_Final (n + 1) x = Go.Bk.auto_Final.P n x := r_auto_Final n x
theorem s_math_bits_Mul64 (n : Nat) (x : Int × Int) : f_math_bits_Mul64 (n + 1) x = Go.Bk.math_bits_Mul64.P n x := r_math_bits_Mul64 n x
theorem s_math_bits_Mul (n : Nat) (x : Int × Int) : f_math_bits_Mul (n + 1) x = Go.Bk.math_bits_Mul.P (f_math_bits_Mul64 n) n x := r_math_bits_Mul n x
theorem s_slices_Repeat_int_int (n : Nat) (x : (List Int) × Int) : f_slices_Repeat_int_int (n + 1) x = Go.Bk.slices_Repeat_int_int.P (f_math_bits_Mul n) n x := r_slices_Repeat_int_int n x
theorem s_boolean_Under (n : Nat) (x : (List Int) × Int × (List Int) × (List (Int × (List Int) × Int)) × Int) : f_boolean_Under (n + 1) x = Go.Bk.boolean_Under.P (f_auto_Copy n) (f_auto_Final n) (f_auto_Valid n) (f_slices_Clone_int_int n) (f_slices_Repeat_int_int n) n x := r_boolean_Under n x
theorem s_law05_leaf (n : Nat) (x : Unit) : f_law05_leaf (n + 1) x = Go.Bk.law05_leaf.P n x := r_law05_leaf n x
theorem s_law05_f (n : Nat) (x : Int × (List (RT Int)) × Int × (List (RT Int))) : f_law05_f (n + 1) x = Go.Bk.law05_f.P n x := r_law05_f n x
theorem s_ref01_ValidAlphabet (n : Nat) (x : List Int) : f_ref01_ValidAlphabet (n + 1) x = Go.Bk.ref01_ValidAlphabet.P n x := r_ref01_ValidAlphabet n x
theorem s_ref03_Valid (n : Nat) (x : (List Int) × Int × (List Int) × (List (Int × (List Int) × Int))) : f_ref03_Valid (n + 1) x = Go.Bk.ref03_Valid.P (f_ref01_ValidAlphabet n) n x := r_ref03_Valid n x
theorem s_ref03_In (n : Nat) (x : (List Int) × Int) : f_ref03_In (n + 1) x = Go.Bk.ref03_In.P n x := r_ref03_In n x
theorem s_ref03_Insert (n : Nat) (x : (List Int) × Int) : f_ref03_Insert (n + 1) x = Go.Bk.ref03_Insert.P n x := r_ref03_Insert n x
theorem s_ref03_Step (n : Nat) (x : Int × (List Int) × (List (Int × (List Int) × Int)) × Int × (List (List Int))) : f_ref03_Step (n + 1) x = Go.Bk.ref03_Step.P (f_ref03_In n) (f_ref03_Insert n) n x := r_ref03_Step n x
theorem s_ref03_Of (n : Nat) (x : Int × (List Int) × (List (Int × (List Int) × Int)) × Int × (List (RT Int))) : f_ref03_Of (n + 1) x = Go.Bk.ref03_Of.P (f_ref03_Of n) (f_ref03_Step n) n x := r_ref03_Of n x
theorem s_ref03_Meet (n : Nat) (x : (List Int) × (List Int)) : f_ref03_Meet (n + 1) x = Go.Bk.ref03_Meet.P (f_ref03_In n) n x := r_ref03_Meet n x
theorem s_ref03_Has (n : Nat) (x : Int × (List Int) × (List (Int × (List Int) × Int)) × Int × (List (RT Int))) : f_ref03_Has (n + 1) x = Go.Bk.ref03_Has.P (f_ref03_Meet n) (f_ref03_Of n) n x := r_ref03_Has n x
theorem s_law05_awake (n : Nat) (x : Unit) : f_law05_awake (n + 1) x = Go.Bk.law05_awake.P (f_boolean_Under n) (f_law05_even n) (f_law05_f n) (f_law05_leaf n) (f_ref03_Has n) (f_ref03_Valid n) n x := r_law05_awake n x
theorem s_law05_valid (n : Nat) (x : (List Int) × (List (Int × (List Int) × (List (Int × (List Int) × Int))))) : f_law05_valid (n + 1) x = Go.Bk.law05_valid.P (f_ref03_Valid n) n x := r_law05_valid n x
theorem s_ref01_shaped (n : Nat) (x : (List Int) × Int × (List (RT Int))) : f_ref01_shaped (n + 1) x = Go.Bk.ref01_shaped.P (f_ref01_shaped n) n x := r_ref01_shaped n x
theorem s_ref01_Valid (n : Nat) (x : (List Int) × Int × (List (RT Int))) : f_ref01_Valid (n + 1) x = Go.Bk.ref01_Valid.P (f_ref01_Few n) (f_ref01_ValidAlphabet n) (f_ref01_shaped n) n x := r_ref01_Valid n x
theorem s_ref01_Places (n : Nat) (x : Int × (List (RT Int))) : f_ref01_Places (n + 1) x = Go.Bk.ref01_Places.P (f_ref01_Places n) n x := r_ref01_Places n x
theorem s_ref01_Find (n : Nat) (x : Int × (List (RT Int)) × (List Int)) : f_ref01_Find (n + 1) x = Go.Bk.ref01_Find.P n x := r_ref01_Find n x
theorem s_ref05_Beneath (n : Nat) (x : Int × (List Int) × (List (Int × (List Int) × Int)) × Int × Int × (List (RT Int))) : f_ref05_Beneath (n + 1) x = Go.Bk.ref05_Beneath.P (f_ref01_Find n) (f_ref01_Places n) (f_ref03_Has n) n x := r_ref05_Beneath n x
theorem s_law05_right (n : Nat) (x : (List Int) × Int × (List Int) × (List (Int × (List Int) × Int)) × Int × (List (RT Int)) × Bool) : f_law05_right (n + 1) x = Go.Bk.law05_right.P (f_ref03_Has n) n x := r_law05_right n x
theorem s_law05_BooleanUnder (n : Nat) (x : (List Int) × Int × (List Int) × (List (Int × (List Int) × Int)) × Int × Int × (List (RT Int))) : f_law05_BooleanUnder (n + 1) x = Go.Bk.law05_BooleanUnder.P (f_boolean_Under n) (f_law05_awake n) (f_law05_few n) (f_law05_right n) (f_law05_valid n) (f_ref01_Valid n) (f_ref05_Beneath n) n x := r_law05_BooleanUnder n x
theorem s_law05_many (n : Nat) (x : Int × Int) : f_law05_many (n + 1) x = Go.Bk.law05_many.P n x := r_law05_many n x
theorem s_boolean_Union (n : Nat) (x : (List Int) × Int × (List Int) × (List (Int × (List Int) × Int)) × Int × (List Int) × (List (Int × (List Int) × Int))) : f_boolean_Union (n + 1) x = Go.Bk.boolean_Union.P (f_auto_Copy n) (f_auto_Valid n) n x := r_boolean_Union n x
theorem s_law05_BooleanFull (n : Nat) (x : Int × Int × Int × Int) : f_law05_BooleanFull (n + 1) x = Go.Bk.law05_BooleanFull.P (f_boolean_Union n) (f_law05_awake n) (f_law05_many n) (f_law05_valid n) n x := r_law05_BooleanFull n x
end Go.Proofs.YtgkobbodicfofaaDoor.Am
end
