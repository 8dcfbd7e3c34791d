import Derived.Test.YtgkobbodicfofaaDoorMa
section
namespace Go.Bk
open Go Go.AM
/-! types of the printed functions -/
abbrev LI : Type := List Int
abbrev LL : Type := List (List Int)
abbrev LR : Type := List (Int × List Int × Int)
abbrev Ru : Type := Int × List Int × Int
end Go.Bk
end
noncomputable section
namespace Go.Bk
open Go Go.AM
set_option maxRecDepth 100000
set_option linter.unusedVariables false
/-! boskage/boskageref03.Few -/
def ref03_Few.L1 (x5 : Int × Int × LI × (List (Int × LI × LR)) × Int × Int × LR × Int × Int) (rec6 : (Int × Int × LI × (List (Int × LI × LR)) × Int × Int × LR × Int × Int) → Option (Sum (Int × Int × LI × (List (Int × LI × LR)) × Int × Int) (Sum LI Bool))) : Option (Sum (Int × Int × LI × (List (Int × LI × LR)) × Int × Int) (Sum LI Bool)) :=
 bif decide (x5.2.2.2.2.2.2.2.2 < x5.2.2.2.2.2.2.2.1) then
 ((nth? x5.2.2.2.2.2.2.1 x5.2.2.2.2.2.2.2.2).bind fun e7 =>
 bif decide ((10 : Int) < ((List.length e7.2.1 : Nat) : Int)) then
 (((some false).bind fun r => some (Sum.inr r)).bind fun r => some (Sum.inr r))
 else
 (rec6 (x5.1, x5.2.1, x5.2.2.1, x5.2.2.2.1, x5.2.2.2.2.1, x5.2.2.2.2.2.1, x5.2.2.2.2.2.2.1, x5.2.2.2.2.2.2.2.1, IntKind.wrap .i64 (x5.2.2.2.2.2.2.2.2 + (1 : Int)))))
 else
 (some (Sum.inl (x5.1, x5.2.1, x5.2.2.1, x5.2.2.2.1, x5.2.2.2.2.1, x5.2.2.2.2.2.1)))
def ref03_Few.L2 (n : Nat) (x1 : Int × Int × LI × (List (Int × LI × LR)) × Int × Int) (rec2 : (Int × Int × LI × (List (Int × LI × LR)) × Int × Int) → Option (Sum LI Bool)) : Option (Sum LI Bool) :=
 bif decide (x1.2.2.2.2.2 < x1.2.2.2.2.1) then
 ((nth? x1.2.2.2.1 x1.2.2.2.2.2).bind fun e3 =>
 (bif decide (x1.2.1 < ((List.length e3.2.1 : Nat) : Int)) then
 (some (x1.1, x1.2.1, x1.2.2.1, e3.1, e3.2.1, e3.2.2, x1.2.2.2.1, x1.2.2.2.2.1, x1.2.2.2.2.2, true))
 else
 (bif decide (x1.2.1 < ((List.length e3.2.2 : Nat) : Int)) then
 (some (x1.1, x1.2.1, x1.2.2.1, e3.1, e3.2.1, e3.2.2, x1.2.2.2.1, x1.2.2.2.2.1, x1.2.2.2.2.2, true))
 else
 (bif decide (x1.1 < e3.1) then
 (some (x1.1, x1.2.1, x1.2.2.1, e3.1, e3.2.1, e3.2.2, x1.2.2.2.1, x1.2.2.2.2.1, x1.2.2.2.2.2, decide (e3.1 ≤ (300 : Int))))
 else
 (some (x1.1, x1.2.1, x1.2.2.1, e3.1, e3.2.1, e3.2.2, x1.2.2.2.1, x1.2.2.2.2.1, x1.2.2.2.2.2, false))))).bind fun x4 =>
 bif x4.2.2.2.2.2.2.2.2.2 then
 ((some false).bind fun r => some (Sum.inr r))
 else
 ((loopN (ref03_Few.L1) n (x4.1, x4.2.1, x4.2.2.1, x4.2.2.2.2.2.2.1, x4.2.2.2.2.2.2.2.1, x4.2.2.2.2.2.2.2.2.1, x4.2.2.2.2.2.1, ((List.length x4.2.2.2.2.2.1 : Nat) : Int), (0 : Int))).bind fun q => match q with
 | Sum.inl x8 => (rec2 (x8.1, x8.2.1, x8.2.2.1, x8.2.2.2.1, x8.2.2.2.2.1, IntKind.wrap .i64 (x8.2.2.2.2.2 + (1 : Int))))
 | Sum.inr r => some r))
 else
 (some (Sum.inl x1.2.2.1))
def ref03_Few.P (n : Nat) (x : LI × Int × Int × (List (Int × LI × LR))) : Option Bool :=
 (loopN (ref03_Few.L2 n) n (x.2.1, x.2.2.1, x.1, x.2.2.2, ((List.length x.2.2.2 : Nat) : Int), (0 : Int))).bind fun q => match q with
 | Sum.inl x9 => (some (decide (((List.length x9 : Nat) : Int) ≤ (40 : Int))))
 | Sum.inr r => some r
/-! boskage/boskageref01.count -/
def ref01_count.L1 (f_ref01_count : (Int × (List (RT Int)) × Int) → Option Int) (x1 : Int × Int × (List (RT Int)) × Int × Int) (rec2 : (Int × Int × (List (RT Int)) × Int × Int) → Option Int) : Option Int :=
 bif decide (x1.2.2.2.2 < x1.2.2.2.1) then
 ((nth? x1.2.2.1 x1.2.2.2.2).bind fun e3 =>
 (bif decide (x1.2.1 ≤ x1.1) then
 ((f_ref01_count (RT.a e3, RT.kids e3, IntKind.wrap .i64 (x1.1 - x1.2.1))).bind fun r4 =>
 some (x1.1, IntKind.wrap .i64 (x1.2.1 + r4), x1.2.2.1, x1.2.2.2.1, x1.2.2.2.2))
 else
 (some (x1.1, x1.2.1, x1.2.2.1, x1.2.2.2.1, x1.2.2.2.2))).bind fun x5 =>
 rec2 (x5.1, x5.2.1, x5.2.2.1, x5.2.2.2.1, IntKind.wrap .i64 (x5.2.2.2.2 + (1 : Int))))
 else
 (some x1.2.1)
def ref01_count.P (f_ref01_count : (Int × (List (RT Int)) × Int) → Option Int) (n : Nat) (x : Int × (List (RT Int)) × Int) : Option Int :=
 (loopN (ref01_count.L1 f_ref01_count) n (x.2.2, (1 : Int), x.2.1, ((List.length x.2.1 : Nat) : Int), (0 : Int))).bind fun x6 =>
 some x6
/-! boskage/boskageref01.Few -/
def ref01_Few.P (f_ref01_count : (Int × (List (RT Int)) × Int) → Option Int) (n : Nat) (x : Int × (List (RT Int)) × Int) : Option Bool :=
 (f_ref01_count (x.1, x.2.1, x.2.2)).bind fun r1 =>
 some (decide (r1 ≤ x.2.2))
/-! boskage/boskagelaw05.few -/
def law05_few.P (f_ref01_Few : (Int × (List (RT Int)) × Int) → Option Bool) (f_ref03_Few : (LI × Int × Int × (List (Int × LI × LR))) → Option Bool) (n : Nat) (x : LI × Int × (List (RT Int)) × (List (Int × LI × LR))) : Option Bool :=
 ((f_ref03_Few (x.1, (6 : Int), (30 : Int), x.2.2.2)).bind fun r1 =>
 bif r1 then
 ((f_ref01_Few (x.2.1, x.2.2.1, (400 : Int))).bind fun r2 =>
 some r2)
 else
 (some false)).bind fun x3 =>
 some x3
/-! boskage/boskagelaw05.even -/
def law05_even.P (n : Nat) (x : Unit) : Option (Int × LI × LR) :=
 some ((2 : Int), ([(1 : Int)] : List Int), ([((0 : Int), ([] : List Int), (0 : Int)), ((1 : Int), ([(0 : Int), (0 : Int)] : List Int), (1 : Int)), ((1 : Int), ([(1 : Int), (1 : Int)] : List Int), (0 : Int))] : List Ru))
/-! boskage/tree.ValidAlphabet$1 -/
def tree_ValidAlphabet_1.P (n : Nat) (x : Int) : Option Bool :=
 (bif decide (x < (0 : Int)) then
 (some true)
 else
 (some (decide ((3 : Int) < x)))).bind fun x1 =>
 some x1
/-! slices.IndexFunc[[]int,int] -/
def slices_IndexFunc_int_int_of_tree_ValidAlphabet_1.L1 (f_tree_ValidAlphabet_1 : Int → Option Bool) (x1 : LI × Int × Int) (rec2 : (LI × Int × Int) → Option (Sum Unit Int)) : Option (Sum Unit Int) :=
 bif decide (x1.2.2 < x1.2.1) then
 ((nth? x1.1 x1.2.2).bind fun e3 =>
 (f_tree_ValidAlphabet_1 e3).bind fun r4 =>
 bif r4 then
 ((some x1.2.2).bind fun r => some (Sum.inr r))
 else
 (rec2 (x1.1, x1.2.1, IntKind.wrap .i64 (x1.2.2 + (1 : Int)))))
 else
 (some (Sum.inl ()))
def slices_IndexFunc_int_int_of_tree_ValidAlphabet_1.P (f_tree_ValidAlphabet_1 : Int → Option Bool) (n : Nat) (x : List Int) : Option Int :=
 (loopN (slices_IndexFunc_int_int_of_tree_ValidAlphabet_1.L1 f_tree_ValidAlphabet_1) n (x, ((List.length x : Nat) : Int), (0 : Int))).bind fun q => match q with
 | Sum.inl x5 => (some (-1 : Int))
 | Sum.inr r => some r
/-! slices.ContainsFunc[[]int,int] -/
def slices_ContainsFunc_int_int_of_tree_ValidAlphabet_1.P (f_slices_IndexFunc_int_int_of_tree_ValidAlphabet_1 : List Int → Option Int) (n : Nat) (x : List Int) : Option Bool :=
 (f_slices_IndexFunc_int_int_of_tree_ValidAlphabet_1 x).bind fun r1 =>
 some (decide ((0 : Int) ≤ r1))
/-! boskage/tree.ValidAlphabet -/
def tree_ValidAlphabet.P (f_slices_ContainsFunc_int_int_of_tree_ValidAlphabet_1 : List Int → Option Bool) (n : Nat) (x : List Int) : Option Bool :=
 (bif decide (((List.length x : Nat) : Int) ≤ (12 : Int)) then
 ((f_slices_ContainsFunc_int_int_of_tree_ValidAlphabet_1 x).bind fun r1 =>
 some (!r1))
 else
 (some false)).bind fun x2 =>
 some x2
/-! boskage/auto.Valid$1 -/
def auto_Valid_1.P (n : Nat) (x : Int × Int × LI × LR) : Option Bool :=
 (bif decide ((0 : Int) ≤ x.1) then
 (some (decide (x.1 < x.2.1)))
 else
 (some false)).bind fun x1 =>
 some x1
/-! boskage/auto.Valid -/
def auto_Valid.L1 (f_auto_Valid_1 : (Int × Int × LI × LR) → Option Bool) (x3 : LI × Int × LI × LR × LI × Int × Int) (rec4 : (LI × Int × LI × LR × LI × Int × Int) → Option (Sum (LI × Int × LI × LR) Bool)) : Option (Sum (LI × Int × LI × LR) Bool) :=
 bif decide (x3.2.2.2.2.2.2 < x3.2.2.2.2.2.1) then
 ((nth? x3.2.2.2.2.1 x3.2.2.2.2.2.2).bind fun e5 =>
 ((f_auto_Valid_1 (e5, x3.2.1, x3.2.2.1, x3.2.2.2.1)).bind fun r6 =>
 bif !r6 then
 (some (x3.1, x3.2.1, x3.2.2.1, x3.2.2.2.1, x3.2.2.2.2.1, x3.2.2.2.2.2.1, x3.2.2.2.2.2.2, true))
 else
 (bif decide ((0 : Int) < x3.2.2.2.2.2.2) then
 ((nth? x3.2.2.1 (IntKind.wrap .i64 (x3.2.2.2.2.2.2 - (1 : Int)))).bind fun e7 =>
 some (x3.1, x3.2.1, x3.2.2.1, x3.2.2.2.1, x3.2.2.2.2.1, x3.2.2.2.2.2.1, x3.2.2.2.2.2.2, decide (e5 ≤ e7)))
 else
 (some (x3.1, x3.2.1, x3.2.2.1, x3.2.2.2.1, x3.2.2.2.2.1, x3.2.2.2.2.2.1, x3.2.2.2.2.2.2, false)))).bind fun x8 =>
 bif x8.2.2.2.2.2.2.2 then
 ((some false).bind fun r => some (Sum.inr r))
 else
 (rec4 (x8.1, x8.2.1, x8.2.2.1, x8.2.2.2.1, x8.2.2.2.2.1, x8.2.2.2.2.2.1, IntKind.wrap .i64 (x8.2.2.2.2.2.2.1 + (1 : Int)))))
 else
 (some (Sum.inl (x3.1, x3.2.1, x3.2.2.1, x3.2.2.2.1)))
def auto_Valid.L2 (f_auto_Valid_1 : (Int × Int × LI × LR) → Option Bool) (x16 : LI × Int × LI × LR × LR × Int × Int × LI × Int × Int) (rec17 : (LI × Int × LI × LR × LR × Int × Int × LI × Int × Int) → Option (Sum (LI × Int × LI × LR × LR × Int × Int) (Sum Unit Bool))) : Option (Sum (LI × Int × LI × LR × LR × Int × Int) (Sum Unit Bool)) :=
 bif decide (x16.2.2.2.2.2.2.2.2.2 < x16.2.2.2.2.2.2.2.2.1) then
 ((nth? x16.2.2.2.2.2.2.2.1 x16.2.2.2.2.2.2.2.2.2).bind fun e18 =>
 (f_auto_Valid_1 (e18, x16.2.1, x16.2.2.1, x16.2.2.2.1)).bind fun r19 =>
 bif !r19 then
 (((some false).bind fun r => some (Sum.inr r)).bind fun r => some (Sum.inr r))
 else
 (rec17 (x16.1, x16.2.1, x16.2.2.1, x16.2.2.2.1, x16.2.2.2.2.1, x16.2.2.2.2.2.1, x16.2.2.2.2.2.2.1, x16.2.2.2.2.2.2.2.1, x16.2.2.2.2.2.2.2.2.1, IntKind.wrap .i64 (x16.2.2.2.2.2.2.2.2.2 + (1 : Int)))))
 else
 (some (Sum.inl (x16.1, x16.2.1, x16.2.2.1, x16.2.2.2.1, x16.2.2.2.2.1, x16.2.2.2.2.2.1, x16.2.2.2.2.2.2.1)))
def auto_Valid.L3 (f_auto_Valid_1 : (Int × Int × LI × LR) → Option Bool) (n : Nat) (x10 : LI × Int × LI × LR × LR × Int × Int) (rec11 : (LI × Int × LI × LR × LR × Int × Int) → Option (Sum Unit Bool)) : Option (Sum Unit Bool) :=
 bif decide (x10.2.2.2.2.2.2 < x10.2.2.2.2.2.1) then
 ((nth? x10.2.2.2.2.1 x10.2.2.2.2.2.2).bind fun e12 =>
 (bif decide (e12.1 < (0 : Int)) then
 (some (x10.1, x10.2.1, x10.2.2.1, x10.2.2.2.1, e12.1, e12.2.1, e12.2.2, x10.2.2.2.2.1, x10.2.2.2.2.2.1, x10.2.2.2.2.2.2, true))
 else
 (bif decide (((List.length x10.1 : Nat) : Int) ≤ e12.1) then
 (some (x10.1, x10.2.1, x10.2.2.1, x10.2.2.2.1, e12.1, e12.2.1, e12.2.2, x10.2.2.2.2.1, x10.2.2.2.2.2.1, x10.2.2.2.2.2.2, true))
 else
 ((nth? x10.1 e12.1).bind fun e13 =>
 bif !decide (((List.length e12.2.1 : Nat) : Int) = e13) then
 (some (x10.1, x10.2.1, x10.2.2.1, x10.2.2.2.1, e12.1, e12.2.1, e12.2.2, x10.2.2.2.2.1, x10.2.2.2.2.2.1, x10.2.2.2.2.2.2, true))
 else
 ((f_auto_Valid_1 (e12.2.2, x10.2.1, x10.2.2.1, x10.2.2.2.1)).bind fun r14 =>
 some (x10.1, x10.2.1, x10.2.2.1, x10.2.2.2.1, e12.1, e12.2.1, e12.2.2, x10.2.2.2.2.1, x10.2.2.2.2.2.1, x10.2.2.2.2.2.2, !r14))))).bind fun x15 =>
 bif x15.2.2.2.2.2.2.2.2.2.2 then
 ((some false).bind fun r => some (Sum.inr r))
 else
 ((loopN (auto_Valid.L2 f_auto_Valid_1) n (x15.1, x15.2.1, x15.2.2.1, x15.2.2.2.1, x15.2.2.2.2.2.2.2.1, x15.2.2.2.2.2.2.2.2.1, x15.2.2.2.2.2.2.2.2.2.1, x15.2.2.2.2.2.1, ((List.length x15.2.2.2.2.2.1 : Nat) : Int), (0 : Int))).bind fun q => match q with
 | Sum.inl x20 => (rec11 (x20.1, x20.2.1, x20.2.2.1, x20.2.2.2.1, x20.2.2.2.2.1, x20.2.2.2.2.2.1, IntKind.wrap .i64 (x20.2.2.2.2.2.2 + (1 : Int))))
 | Sum.inr r => some r))
 else
 (some (Sum.inl ()))
def auto_Valid.P (f_auto_Valid_1 : (Int × Int × LI × LR) → Option Bool) (f_tree_ValidAlphabet : List Int → Option Bool) (n : Nat) (x : LI × Int × LI × LR) : Option Bool :=
 ((f_tree_ValidAlphabet x.1).bind fun r1 =>
 bif !r1 then
 (some (x.1, x.2.1, x.2.2.1, x.2.2.2, true))
 else
 (bif decide (x.2.1 < (0 : Int)) then
 (some (x.1, x.2.1, x.2.2.1, x.2.2.2, true))
 else
 (bif decide ((300 : Int) < x.2.1) then
 (some (x.1, x.2.1, x.2.2.1, x.2.2.2, true))
 else
 (some (x.1, x.2.1, x.2.2.1, x.2.2.2, decide ((20000 : Int) < ((List.length x.2.2.2 : Nat) : Int))))))).bind fun x2 =>
 bif x2.2.2.2.2 then
 (some false)
 else
 ((loopN (auto_Valid.L1 f_auto_Valid_1) n (x2.1, x2.2.1, x2.2.2.1, x2.2.2.2.1, x2.2.2.1, ((List.length x2.2.2.1 : Nat) : Int), (0 : Int))).bind fun q => match q with
 | Sum.inl x9 => ((loopN (auto_Valid.L3 f_auto_Valid_1 n) n (x9.1, x9.2.1, x9.2.2.1, x9.2.2.2, x9.2.2.2, ((List.length x9.2.2.2 : Nat) : Int), (0 : Int))).bind fun q => match q with
 | Sum.inl x21 => (some true)
 | Sum.inr r => some r)
 | Sum.inr r => some r)
/-! boskage/auto.Copy -/
def auto_Copy.L1 (f_slices_Clone_int_int : List Int → Option LI) (x2 : Int × LI × LR × Int × LI × LR × LR × Int × Int) (rec3 : (Int × LI × LR × Int × LI × LR × LR × Int × Int) → Option (Int × LI × LR × Int × LI × LR)) : Option (Int × LI × LR × Int × LI × LR) :=
 bif decide (x2.2.2.2.2.2.2.2.2 < x2.2.2.2.2.2.2.2.1) then
 ((nth? x2.2.2.2.2.2.2.1 x2.2.2.2.2.2.2.2.2).bind fun e4 =>
 (f_slices_Clone_int_int e4.2.1).bind fun r5 =>
 bif decide (List.length x2.2.2.2.2.2.1 + List.length ([(e4.1, r5, e4.2.2)] : List Ru) ≤ maxRows) then
 rec3 (x2.1, x2.2.1, x2.2.2.1, x2.2.2.2.1, x2.2.2.2.2.1, List.append x2.2.2.2.2.2.1 ([(e4.1, r5, e4.2.2)] : List Ru), x2.2.2.2.2.2.2.1, x2.2.2.2.2.2.2.2.1, IntKind.wrap .i64 (x2.2.2.2.2.2.2.2.2 + (1 : Int)))
 else none)
 else
 (some (x2.1, x2.2.1, x2.2.2.1, x2.2.2.2.1, x2.2.2.2.2.1, x2.2.2.2.2.2.1))
def auto_Copy.P (f_slices_Clone_int_int : List Int → Option LI) (n : Nat) (x : Int × LI × LR) : Option (Int × LI × LR) :=
 (f_slices_Clone_int_int x.2.1).bind fun r1 =>
 (loopN (auto_Copy.L1 f_slices_Clone_int_int) n ((0 : Int), ([] : List Int), ([] : List Ru), x.1, r1, ([] : List Ru), x.2.2, ((List.length x.2.2 : Nat) : Int), (0 : Int))).bind fun x6 =>
 some (x6.2.2.2.1, x6.2.2.2.2.1, x6.2.2.2.2.2)
/-! boskage/auto.Final -/
def auto_Final.L1 (x1 : (List Bool) × LI × Int × Int) (rec2 : ((List Bool) × LI × Int × Int) → Option (List Bool)) : Option (List Bool) :=
 bif decide (x1.2.2.2 < x1.2.2.1) then
 ((nth? x1.2.1 x1.2.2.2).bind fun e3 =>
 bif decide (0 ≤ e3) && decide (e3 < ((List.length x1.1 : Nat) : Int)) then
 (at? x1.1 (Int.toNat e3)).bind fun e4 =>
 rec2 (List.set x1.1 (Int.toNat e3) true, x1.2.1, x1.2.2.1, IntKind.wrap .i64 (x1.2.2.2 + (1 : Int)))
 else none)
 else
 (some x1.1)
def auto_Final.P (n : Nat) (x : Int × LI × LR) : Option (List Bool) :=
 bif decide (0 ≤ x.1) && decide (x.1 ≤ x.1) && decide (x.1 ≤ ((maxRows : Nat) : Int)) then
 (loopN (auto_Final.L1) n (List.replicate (Int.toNat x.1) (false : Bool), x.2.1, ((List.length x.2.1 : Nat) : Int), (0 : Int))).bind fun x5 =>
 some x5
 else none
/-! math/bits.Mul64 -/
def math_bits_Mul64.P (n : Nat) (x : Int × Int) : Option (Int × Int) :=
 bif decide (0 ≤ (32 : Int)) && decide ((32 : Int) ≤ ((IntKind.bits .u64 : Nat) : Int)) then
 bif decide (0 ≤ (32 : Int)) && decide ((32 : Int) ≤ ((IntKind.bits .u64 : Nat) : Int)) then
 bif decide (0 ≤ (32 : Int)) && decide ((32 : Int) ≤ ((IntKind.bits .u64 : Nat) : Int)) then
 bif decide (0 ≤ (32 : Int)) && decide ((32 : Int) ≤ ((IntKind.bits .u64 : Nat) : Int)) then
 bif decide (0 ≤ (32 : Int)) && decide ((32 : Int) ≤ ((IntKind.bits .u64 : Nat) : Int)) then
 some (IntKind.wrap .u64 ((IntKind.wrap .u64 ((IntKind.wrap .u64 ((x.1 / 2 ^ Int.toNat (32 : Int)) * (x.2 / 2 ^ Int.toNat (32 : Int)))) + ((IntKind.wrap .u64 ((IntKind.wrap .u64 ((x.1 / 2 ^ Int.toNat (32 : Int)) * (bits .and .u64 x.2 (4294967295 : Int)))) + ((IntKind.wrap .u64 ((bits .and .u64 x.1 (4294967295 : Int)) * (bits .and .u64 x.2 (4294967295 : Int)))) / 2 ^ Int.toNat (32 : Int)))) / 2 ^ Int.toNat (32 : Int)))) + ((IntKind.wrap .u64 ((bits .and .u64 (IntKind.wrap .u64 ((IntKind.wrap .u64 ((x.1 / 2 ^ Int.toNat (32 : Int)) * (bits .and .u64 x.2 (4294967295 : Int)))) + ((IntKind.wrap .u64 ((bits .and .u64 x.1 (4294967295 : Int)) * (bits .and .u64 x.2 (4294967295 : Int)))) / 2 ^ Int.toNat (32 : Int)))) (4294967295 : Int)) + (IntKind.wrap .u64 ((bits .and .u64 x.1 (4294967295 : Int)) * (x.2 / 2 ^ Int.toNat (32 : Int)))))) / 2 ^ Int.toNat (32 : Int))), IntKind.wrap .u64 (x.1 * x.2))
 else none
 else none
 else none
 else none
 else none
/-! math/bits.Mul -/
def math_bits_Mul.P (f_math_bits_Mul64 : (Int × Int) → Option (Int × Int)) (n : Nat) (x : Int × Int) : Option (Int × Int) :=
 (f_math_bits_Mul64 (x.1, x.2)).bind fun r1 =>
 some (r1.1, r1.2)
/-! slices.Repeat[[]int,int] -/
def slices_Repeat_int_int.L1 (x5 : LI × Int) (rec6 : (LI × Int) → Option LI) : Option LI :=
 bif decide (x5.2 < ((List.length x5.1 : Nat) : Int)) then
 (bif decide (0 ≤ x5.2) && decide (x5.2 ≤ ((List.length x5.1 : Nat) : Int)) && decide (((List.length x5.1 : Nat) : Int) ≤ ((List.length x5.1 : Nat) : Int)) then
 bif decide (0 ≤ 0) && decide (0 ≤ x5.2) && decide (x5.2 ≤ ((List.length x5.1 : Nat) : Int)) then
 rec6 (List.append (List.append (List.take (Int.toNat x5.2) x5.1) (List.take (Nat.min (List.length (List.drop (Int.toNat 0) (List.take (Int.toNat x5.2) x5.1))) ((Int.toNat ((List.length x5.1 : Nat) : Int)) - (Int.toNat x5.2))) (List.drop (Int.toNat 0) (List.take (Int.toNat x5.2) x5.1)))) (List.drop ((Int.toNat x5.2) + (Nat.min (List.length (List.drop (Int.toNat 0) (List.take (Int.toNat x5.2) x5.1))) ((Int.toNat ((List.length x5.1 : Nat) : Int)) - (Int.toNat x5.2)))) x5.1), IntKind.wrap .i64 (x5.2 + ((Nat.min (List.length (List.drop (Int.toNat 0) (List.take (Int.toNat x5.2) x5.1))) ((Int.toNat ((List.length x5.1 : Nat) : Int)) - (Int.toNat x5.2)) : Nat) : Int)))
 else none
 else none)
 else
 (some x5.1)
def slices_Repeat_int_int.P (f_math_bits_Mul : (Int × Int) → Option (Int × Int)) (n : Nat) (x : LI × Int) : Option LI :=
 (bif decide (x.2 < (0 : Int)) then
 (none)
 else
 (some (x.1, x.2))).bind fun x1 =>
 (f_math_bits_Mul (IntKind.wrap .u64 ((List.length x1.1 : Nat) : Int), IntKind.wrap .u64 x1.2)).bind fun r2 =>
 (bif decide ((0 : Int) < r2.1) then
 (some (x1.1, r2.2, true))
 else
 (some (x1.1, r2.2, decide ((9223372036854775807 : Int) < r2.2)))).bind fun x3 =>
 (bif x3.2.2 then
 (none)
 else
 (some (x3.1, x3.2.1))).bind fun x4 =>
 bif decide (0 ≤ (IntKind.wrap .i64 x4.2)) && decide ((IntKind.wrap .i64 x4.2) ≤ (IntKind.wrap .i64 x4.2)) && decide ((IntKind.wrap .i64 x4.2) ≤ ((maxRows : Nat) : Int)) then
 (loopN (slices_Repeat_int_int.L1) n (List.append (List.append (List.take 0 (List.replicate (Int.toNat (IntKind.wrap .i64 x4.2)) ((0 : Int) : Int))) (List.take (Nat.min (List.length x4.1) ((List.length (List.replicate (Int.toNat (IntKind.wrap .i64 x4.2)) ((0 : Int) : Int))) - 0)) x4.1)) (List.drop (0 + (Nat.min (List.length x4.1) ((List.length (List.replicate (Int.toNat (IntKind.wrap .i64 x4.2)) ((0 : Int) : Int))) - 0))) (List.replicate (Int.toNat (IntKind.wrap .i64 x4.2)) ((0 : Int) : Int))), ((Nat.min (List.length x4.1) ((List.length (List.replicate (Int.toNat (IntKind.wrap .i64 x4.2)) ((0 : Int) : Int))) - 0) : Nat) : Int))).bind fun x7 =>
 some x7
 else none
/-! boskage/boolean.Under -/
def boolean_Under.L1 (f_slices_Clone_int_int : List Int → Option LI) (x5 : Int × LI × Int × LI × LR × Int × LI × LR × Int × Int × (List Bool) × LR × Int × Int) (rec6 : (Int × LI × Int × LI × LR × Int × LI × LR × Int × Int × (List Bool) × LR × Int × Int) → Option (LI × Int × LI × LR × Int × LI × LR × Int × Int)) : Option (LI × Int × LI × LR × Int × LI × LR × Int × Int) :=
 bif decide (x5.2.2.2.2.2.2.2.2.2.2.2.2.2 < x5.2.2.2.2.2.2.2.2.2.2.2.2.1) then
 ((nth? x5.2.2.2.2.2.2.2.2.2.2.2.1 x5.2.2.2.2.2.2.2.2.2.2.2.2.2).bind fun e7 =>
 (bif decide (e7.1 = x5.1) then
 (bif decide (0 ≤ e7.2.2) && decide (e7.2.2 < ((List.length x5.2.2.2.2.2.2.2.2.2.2.1 : Nat) : Int)) then
 (at? x5.2.2.2.2.2.2.2.2.2.2.1 (Int.toNat e7.2.2)).bind fun e8 =>
 some (x5.1, x5.2.1, x5.2.2.1, x5.2.2.2.1, x5.2.2.2.2.1, x5.2.2.2.2.2.1, x5.2.2.2.2.2.2.1, x5.2.2.2.2.2.2.2.1, x5.2.2.2.2.2.2.2.2.1, x5.2.2.2.2.2.2.2.2.2.1, x5.2.2.2.2.2.2.2.2.2.2.1, e7.1, e7.2.1, e7.2.2, x5.2.2.2.2.2.2.2.2.2.2.2.1, x5.2.2.2.2.2.2.2.2.2.2.2.2.1, x5.2.2.2.2.2.2.2.2.2.2.2.2.2, e8)
 else none)
 else
 (some (x5.1, x5.2.1, x5.2.2.1, x5.2.2.2.1, x5.2.2.2.2.1, x5.2.2.2.2.2.1, x5.2.2.2.2.2.2.1, x5.2.2.2.2.2.2.2.1, x5.2.2.2.2.2.2.2.2.1, x5.2.2.2.2.2.2.2.2.2.1, x5.2.2.2.2.2.2.2.2.2.2.1, e7.1, e7.2.1, e7.2.2, x5.2.2.2.2.2.2.2.2.2.2.2.1, x5.2.2.2.2.2.2.2.2.2.2.2.2.1, x5.2.2.2.2.2.2.2.2.2.2.2.2.2, false))).bind fun x9 =>
 (bif x9.2.2.2.2.2.2.2.2.2.2.2.2.2.2.2.2.2 then
 ((f_slices_Clone_int_int x9.2.2.2.2.2.2.2.2.2.2.2.2.1).bind fun r10 =>
 bif decide (List.length x9.2.2.2.2.2.2.2.1 + List.length ([(x9.1, r10, x9.2.2.2.2.2.2.2.2.2.1)] : List Ru) ≤ maxRows) then
 some (x9.1, x9.2.1, x9.2.2.1, x9.2.2.2.1, x9.2.2.2.2.1, x9.2.2.2.2.2.1, x9.2.2.2.2.2.2.1, List.append x9.2.2.2.2.2.2.2.1 ([(x9.1, r10, x9.2.2.2.2.2.2.2.2.2.1)] : List Ru), x9.2.2.2.2.2.2.2.2.1, x9.2.2.2.2.2.2.2.2.2.1, x9.2.2.2.2.2.2.2.2.2.2.1, x9.2.2.2.2.2.2.2.2.2.2.2.2.2.2.1, x9.2.2.2.2.2.2.2.2.2.2.2.2.2.2.2.1, x9.2.2.2.2.2.2.2.2.2.2.2.2.2.2.2.2.1)
 else none)
 else
 (some (x9.1, x9.2.1, x9.2.2.1, x9.2.2.2.1, x9.2.2.2.2.1, x9.2.2.2.2.2.1, x9.2.2.2.2.2.2.1, x9.2.2.2.2.2.2.2.1, x9.2.2.2.2.2.2.2.2.1, x9.2.2.2.2.2.2.2.2.2.1, x9.2.2.2.2.2.2.2.2.2.2.1, x9.2.2.2.2.2.2.2.2.2.2.2.2.2.2.1, x9.2.2.2.2.2.2.2.2.2.2.2.2.2.2.2.1, x9.2.2.2.2.2.2.2.2.2.2.2.2.2.2.2.2.1))).bind fun x11 =>
 rec6 (x11.1, x11.2.1, x11.2.2.1, x11.2.2.2.1, x11.2.2.2.2.1, x11.2.2.2.2.2.1, x11.2.2.2.2.2.2.1, x11.2.2.2.2.2.2.2.1, x11.2.2.2.2.2.2.2.2.1, x11.2.2.2.2.2.2.2.2.2.1, x11.2.2.2.2.2.2.2.2.2.2.1, x11.2.2.2.2.2.2.2.2.2.2.2.1, x11.2.2.2.2.2.2.2.2.2.2.2.2.1, IntKind.wrap .i64 (x11.2.2.2.2.2.2.2.2.2.2.2.2.2 + (1 : Int))))
 else
 (some (x5.2.1, x5.2.2.1, x5.2.2.2.1, x5.2.2.2.2.1, x5.2.2.2.2.2.1, x5.2.2.2.2.2.2.1, x5.2.2.2.2.2.2.2.1, x5.2.2.2.2.2.2.2.2.1, x5.2.2.2.2.2.2.2.2.2.1))
def boolean_Under.L2 (f_slices_Repeat_int_int : (LI × Int) → Option LI) (x17 : Int × LI × LR × Int × LI × LR × Int × Int × Int × Int × LI × Int × Int × Int × Int) (rec18 : (Int × LI × LR × Int × LI × LR × Int × Int × Int × Int × LI × Int × Int × Int × Int) → Option (Int × LI × LR × Int × LI × LR × Int × Int × LI × Int × Int)) : Option (Int × LI × LR × Int × LI × LR × Int × Int × LI × Int × Int) :=
 bif decide (x17.2.2.2.2.2.2.2.2.2.2.2.2.2.2 < x17.2.2.2.2.2.2.2.2.2.2.2.2.2.1) then
 ((f_slices_Repeat_int_int (([x17.2.2.2.2.2.2.1] : List Int), x17.2.2.2.2.2.2.2.2.2.1)).bind fun r19 =>
 bif decide (0 ≤ x17.2.2.2.2.2.2.2.2.2.2.2.2.2.2) && decide (x17.2.2.2.2.2.2.2.2.2.2.2.2.2.2 < ((List.length r19 : Nat) : Int)) then
 (at? r19 (Int.toNat x17.2.2.2.2.2.2.2.2.2.2.2.2.2.2)).bind fun e20 =>
 bif decide (List.length x17.2.2.2.2.2.1 + List.length ([(x17.2.2.2.2.2.2.2.2.1, List.set r19 (Int.toNat x17.2.2.2.2.2.2.2.2.2.2.2.2.2.2) x17.2.2.2.2.2.2.2.1, x17.2.2.2.2.2.2.2.1)] : List Ru) ≤ maxRows) then
 rec18 (x17.1, x17.2.1, x17.2.2.1, x17.2.2.2.1, x17.2.2.2.2.1, List.append x17.2.2.2.2.2.1 ([(x17.2.2.2.2.2.2.2.2.1, List.set r19 (Int.toNat x17.2.2.2.2.2.2.2.2.2.2.2.2.2.2) x17.2.2.2.2.2.2.2.1, x17.2.2.2.2.2.2.2.1)] : List Ru), x17.2.2.2.2.2.2.1, x17.2.2.2.2.2.2.2.1, x17.2.2.2.2.2.2.2.2.1, x17.2.2.2.2.2.2.2.2.2.1, x17.2.2.2.2.2.2.2.2.2.2.1, x17.2.2.2.2.2.2.2.2.2.2.2.1, x17.2.2.2.2.2.2.2.2.2.2.2.2.1, x17.2.2.2.2.2.2.2.2.2.2.2.2.2.1, IntKind.wrap .i64 (x17.2.2.2.2.2.2.2.2.2.2.2.2.2.2 + (1 : Int)))
 else none
 else none)
 else
 (some (x17.1, x17.2.1, x17.2.2.1, x17.2.2.2.1, x17.2.2.2.2.1, x17.2.2.2.2.2.1, x17.2.2.2.2.2.2.1, x17.2.2.2.2.2.2.2.1, x17.2.2.2.2.2.2.2.2.2.2.1, x17.2.2.2.2.2.2.2.2.2.2.2.1, x17.2.2.2.2.2.2.2.2.2.2.2.2.1))
def boolean_Under.L3 (f_slices_Repeat_int_int : (LI × Int) → Option LI) (n : Nat) (x13 : Int × LI × LR × Int × LI × LR × Int × Int × LI × Int × Int) (rec14 : (Int × LI × LR × Int × LI × LR × Int × Int × LI × Int × Int) → Option (Int × LI × LR × Int × LI × LR × Int)) : Option (Int × LI × LR × Int × LI × LR × Int) :=
 bif decide (x13.2.2.2.2.2.2.2.2.2.2 < x13.2.2.2.2.2.2.2.2.2.1) then
 ((nth? x13.2.2.2.2.2.2.2.2.1 x13.2.2.2.2.2.2.2.2.2.2).bind fun e15 =>
 (f_slices_Repeat_int_int (([x13.2.2.2.2.2.2.1] : List Int), e15)).bind fun r16 =>
 bif decide (List.length x13.2.2.2.2.2.1 + List.length ([(x13.2.2.2.2.2.2.2.2.2.2, r16, x13.2.2.2.2.2.2.1)] : List Ru) ≤ maxRows) then
 (loopN (boolean_Under.L2 f_slices_Repeat_int_int) n (x13.1, x13.2.1, x13.2.2.1, x13.2.2.2.1, x13.2.2.2.2.1, List.append x13.2.2.2.2.2.1 ([(x13.2.2.2.2.2.2.2.2.2.2, r16, x13.2.2.2.2.2.2.1)] : List Ru), x13.2.2.2.2.2.2.1, x13.2.2.2.2.2.2.2.1, x13.2.2.2.2.2.2.2.2.2.2, e15, x13.2.2.2.2.2.2.2.2.1, x13.2.2.2.2.2.2.2.2.2.1, x13.2.2.2.2.2.2.2.2.2.2, e15, (0 : Int))).bind fun x21 =>
 rec14 (x21.1, x21.2.1, x21.2.2.1, x21.2.2.2.1, x21.2.2.2.2.1, x21.2.2.2.2.2.1, x21.2.2.2.2.2.2.1, x21.2.2.2.2.2.2.2.1, x21.2.2.2.2.2.2.2.2.1, x21.2.2.2.2.2.2.2.2.2.1, IntKind.wrap .i64 (x21.2.2.2.2.2.2.2.2.2.2 + (1 : Int)))
 else none)
 else
 (some (x13.1, x13.2.1, x13.2.2.1, x13.2.2.2.1, x13.2.2.2.2.1, x13.2.2.2.2.2.1, x13.2.2.2.2.2.2.2.1))
def boolean_Under.P (f_auto_Copy : (Int × LI × LR) → Option (Int × LI × LR)) (f_auto_Final : (Int × LI × LR) → Option (List Bool)) (f_auto_Valid : (LI × Int × LI × LR) → Option Bool) (f_slices_Clone_int_int : List Int → Option LI) (f_slices_Repeat_int_int : (LI × Int) → Option LI) (n : Nat) (x : LI × Int × LI × LR × Int) : Option (Int × LI × LR × Int) :=
 (f_auto_Valid (x.1, x.2.1, x.2.2.1, x.2.2.2.1)).bind fun r1 =>
 bif !r1 then
 (some ((0 : Int), ([] : List Int), ([] : List Ru), (1 : Int)))
 else
 ((bif decide (x.2.2.2.2 < (0 : Int)) then
 (some (x.2.2.2.2, x.1, x.2.1, x.2.2.1, x.2.2.2.1, (0 : Int), ([] : List Int), ([] : List Ru), true))
 else
 (some (x.2.2.2.2, x.1, x.2.1, x.2.2.1, x.2.2.2.1, (0 : Int), ([] : List Int), ([] : List Ru), decide (((List.length x.1 : Nat) : Int) ≤ x.2.2.2.2)))).bind fun x2 =>
 bif x2.2.2.2.2.2.2.2.2 then
 (some ((0 : Int), ([] : List Int), ([] : List Ru), (6 : Int)))
 else
 ((f_auto_Copy (x2.2.2.1, x2.2.2.2.1, x2.2.2.2.2.1)).bind fun r3 =>
 (f_auto_Final (x2.2.2.1, x2.2.2.2.1, x2.2.2.2.2.1)).bind fun r4 =>
 (loopN (boolean_Under.L1 f_slices_Clone_int_int) n (x2.1, x2.2.1, x2.2.2.2.2.2.1, x2.2.2.2.2.2.2.1, x2.2.2.2.2.2.2.2.1, IntKind.wrap .i64 (r3.1 + (2 : Int)), r3.2.1, r3.2.2, r3.1, IntKind.wrap .i64 (r3.1 + (1 : Int)), r4, x2.2.2.2.2.1, ((List.length x2.2.2.2.2.1 : Nat) : Int), (0 : Int))).bind fun x12 =>
 (loopN (boolean_Under.L3 f_slices_Repeat_int_int n) n (x12.2.1, x12.2.2.1, x12.2.2.2.1, x12.2.2.2.2.1, x12.2.2.2.2.2.1, x12.2.2.2.2.2.2.1, x12.2.2.2.2.2.2.2.1, x12.2.2.2.2.2.2.2.2, x12.1, ((List.length x12.1 : Nat) : Int), (0 : Int))).bind fun x22 =>
 (bif decide ((300 : Int) < x22.2.2.2.1) then
 (some (x22.1, x22.2.1, x22.2.2.1, x22.2.2.2.1, ([x22.2.2.2.2.2.2] : List Int), x22.2.2.2.2.2.1, true))
 else
 (some (x22.1, x22.2.1, x22.2.2.1, x22.2.2.2.1, ([x22.2.2.2.2.2.2] : List Int), x22.2.2.2.2.2.1, decide ((20000 : Int) < ((List.length x22.2.2.2.2.2.1 : Nat) : Int))))).bind fun x23 =>
 bif x23.2.2.2.2.2.2 then
 (some ((0 : Int), ([] : List Int), ([] : List Ru), (3 : Int)))
 else
 (some (x23.2.2.2.1, x23.2.2.2.2.1, x23.2.2.2.2.2.1, (0 : Int)))))
/-! boskage/boskagelaw05.leaf -/
def law05_leaf.P (n : Nat) (x : Unit) : Option (Int × (List (RT Int))) :=
 some ((0 : Int), ([] : List (RT Int)))
/-! boskage/boskagelaw05.f -/
def law05_f.P (n : Nat) (x : Int × (List (RT Int)) × Int × (List (RT Int))) : Option (Int × (List (RT Int))) :=
 some ((1 : Int), ([RT.mk x.1 x.2.1, RT.mk x.2.2.1 x.2.2.2] : List (RT Int)))
/-! boskage/boskageref01.ValidAlphabet -/
def ref01_ValidAlphabet.L1 (x1 : LI × Int × Int) (rec2 : (LI × Int × Int) → Option (Sum Unit Bool)) : Option (Sum Unit Bool) :=
 bif decide (x1.2.2 < x1.2.1) then
 ((nth? x1.1 x1.2.2).bind fun e3 =>
 (bif decide (e3 < (0 : Int)) then
 (some (x1.1, x1.2.1, x1.2.2, true))
 else
 (some (x1.1, x1.2.1, x1.2.2, decide ((3 : Int) < e3)))).bind fun x4 =>
 bif x4.2.2.2 then
 ((some false).bind fun r => some (Sum.inr r))
 else
 (rec2 (x4.1, x4.2.1, IntKind.wrap .i64 (x4.2.2.1 + (1 : Int)))))
 else
 (some (Sum.inl ()))
def ref01_ValidAlphabet.P (n : Nat) (x : List Int) : Option Bool :=
 bif decide ((12 : Int) < ((List.length x : Nat) : Int)) then
 (some false)
 else
 ((loopN (ref01_ValidAlphabet.L1) n (x, ((List.length x : Nat) : Int), (0 : Int))).bind fun q => match q with
 | Sum.inl x5 => (some true)
 | Sum.inr r => some r)
/-! boskage/boskageref03.Valid -/
def ref03_Valid.L1 (x3 : LI × Int × LI × LR × LI × Int × Int) (rec4 : (LI × Int × LI × LR × LI × Int × Int) → Option (Sum (LI × Int × LI × LR) Bool)) : Option (Sum (LI × Int × LI × LR) Bool) :=
 bif decide (x3.2.2.2.2.2.2 < x3.2.2.2.2.2.1) then
 ((nth? x3.2.2.2.2.1 x3.2.2.2.2.2.2).bind fun e5 =>
 (bif decide (e5 < (0 : Int)) then
 (some (x3.1, x3.2.1, x3.2.2.1, x3.2.2.2.1, x3.2.2.2.2.1, x3.2.2.2.2.2.1, x3.2.2.2.2.2.2, true))
 else
 (bif decide (x3.2.1 ≤ e5) then
 (some (x3.1, x3.2.1, x3.2.2.1, x3.2.2.2.1, x3.2.2.2.2.1, x3.2.2.2.2.2.1, x3.2.2.2.2.2.2, true))
 else
 (bif decide ((0 : Int) < x3.2.2.2.2.2.2) then
 ((nth? x3.2.2.1 (IntKind.wrap .i64 (x3.2.2.2.2.2.2 - (1 : Int)))).bind fun e6 =>
 some (x3.1, x3.2.1, x3.2.2.1, x3.2.2.2.1, x3.2.2.2.2.1, x3.2.2.2.2.2.1, x3.2.2.2.2.2.2, decide (e5 ≤ e6)))
 else
 (some (x3.1, x3.2.1, x3.2.2.1, x3.2.2.2.1, x3.2.2.2.2.1, x3.2.2.2.2.2.1, x3.2.2.2.2.2.2, false))))).bind fun x7 =>
 bif x7.2.2.2.2.2.2.2 then
 ((some false).bind fun r => some (Sum.inr r))
 else
 (rec4 (x7.1, x7.2.1, x7.2.2.1, x7.2.2.2.1, x7.2.2.2.2.1, x7.2.2.2.2.2.1, IntKind.wrap .i64 (x7.2.2.2.2.2.2.1 + (1 : Int)))))
 else
 (some (Sum.inl (x3.1, x3.2.1, x3.2.2.1, x3.2.2.2.1)))
def ref03_Valid.L2 (x14 : LI × Int × LI × LR × LR × Int × Int × LI × Int × Int) (rec15 : (LI × Int × LI × LR × LR × Int × Int × LI × Int × Int) → Option (Sum (LI × Int × LI × LR × LR × Int × Int) (Sum Unit Bool))) : Option (Sum (LI × Int × LI × LR × LR × Int × Int) (Sum Unit Bool)) :=
 bif decide (x14.2.2.2.2.2.2.2.2.2 < x14.2.2.2.2.2.2.2.2.1) then
 ((nth? x14.2.2.2.2.2.2.2.1 x14.2.2.2.2.2.2.2.2.2).bind fun e16 =>
 (bif decide (e16 < (0 : Int)) then
 (some (x14.1, x14.2.1, x14.2.2.1, x14.2.2.2.1, x14.2.2.2.2.1, x14.2.2.2.2.2.1, x14.2.2.2.2.2.2.1, x14.2.2.2.2.2.2.2.1, x14.2.2.2.2.2.2.2.2.1, x14.2.2.2.2.2.2.2.2.2, true))
 else
 (some (x14.1, x14.2.1, x14.2.2.1, x14.2.2.2.1, x14.2.2.2.2.1, x14.2.2.2.2.2.1, x14.2.2.2.2.2.2.1, x14.2.2.2.2.2.2.2.1, x14.2.2.2.2.2.2.2.2.1, x14.2.2.2.2.2.2.2.2.2, decide (x14.2.1 ≤ e16)))).bind fun x17 =>
 bif x17.2.2.2.2.2.2.2.2.2.2 then
 (((some false).bind fun r => some (Sum.inr r)).bind fun r => some (Sum.inr r))
 else
 (rec15 (x17.1, x17.2.1, x17.2.2.1, x17.2.2.2.1, x17.2.2.2.2.1, x17.2.2.2.2.2.1, x17.2.2.2.2.2.2.1, x17.2.2.2.2.2.2.2.1, x17.2.2.2.2.2.2.2.2.1, IntKind.wrap .i64 (x17.2.2.2.2.2.2.2.2.2.1 + (1 : Int)))))
 else
 (some (Sum.inl (x14.1, x14.2.1, x14.2.2.1, x14.2.2.2.1, x14.2.2.2.2.1, x14.2.2.2.2.2.1, x14.2.2.2.2.2.2.1)))
def ref03_Valid.L3 (n : Nat) (x9 : LI × Int × LI × LR × LR × Int × Int) (rec10 : (LI × Int × LI × LR × LR × Int × Int) → Option (Sum Unit Bool)) : Option (Sum Unit Bool) :=
 bif decide (x9.2.2.2.2.2.2 < x9.2.2.2.2.2.1) then
 ((nth? x9.2.2.2.2.1 x9.2.2.2.2.2.2).bind fun e11 =>
 (bif decide (e11.1 < (0 : Int)) then
 (some (x9.1, x9.2.1, x9.2.2.1, x9.2.2.2.1, e11.1, e11.2.1, e11.2.2, x9.2.2.2.2.1, x9.2.2.2.2.2.1, x9.2.2.2.2.2.2, true))
 else
 (bif decide (((List.length x9.1 : Nat) : Int) ≤ e11.1) then
 (some (x9.1, x9.2.1, x9.2.2.1, x9.2.2.2.1, e11.1, e11.2.1, e11.2.2, x9.2.2.2.2.1, x9.2.2.2.2.2.1, x9.2.2.2.2.2.2, true))
 else
 ((nth? x9.1 e11.1).bind fun e12 =>
 bif !decide (((List.length e11.2.1 : Nat) : Int) = e12) then
 (some (x9.1, x9.2.1, x9.2.2.1, x9.2.2.2.1, e11.1, e11.2.1, e11.2.2, x9.2.2.2.2.1, x9.2.2.2.2.2.1, x9.2.2.2.2.2.2, true))
 else
 (bif decide (e11.2.2 < (0 : Int)) then
 (some (x9.1, x9.2.1, x9.2.2.1, x9.2.2.2.1, e11.1, e11.2.1, e11.2.2, x9.2.2.2.2.1, x9.2.2.2.2.2.1, x9.2.2.2.2.2.2, true))
 else
 (some (x9.1, x9.2.1, x9.2.2.1, x9.2.2.2.1, e11.1, e11.2.1, e11.2.2, x9.2.2.2.2.1, x9.2.2.2.2.2.1, x9.2.2.2.2.2.2, decide (x9.2.1 ≤ e11.2.2))))))).bind fun x13 =>
 bif x13.2.2.2.2.2.2.2.2.2.2 then
 ((some false).bind fun r => some (Sum.inr r))
 else
 ((loopN (ref03_Valid.L2) n (x13.1, x13.2.1, x13.2.2.1, x13.2.2.2.1, x13.2.2.2.2.2.2.2.1, x13.2.2.2.2.2.2.2.2.1, x13.2.2.2.2.2.2.2.2.2.1, x13.2.2.2.2.2.1, ((List.length x13.2.2.2.2.2.1 : Nat) : Int), (0 : Int))).bind fun q => match q with
 | Sum.inl x18 => (rec10 (x18.1, x18.2.1, x18.2.2.1, x18.2.2.2.1, x18.2.2.2.2.1, x18.2.2.2.2.2.1, IntKind.wrap .i64 (x18.2.2.2.2.2.2 + (1 : Int))))
 | Sum.inr r => some r))
 else
 (some (Sum.inl ()))
def ref03_Valid.P (f_ref01_ValidAlphabet : List Int → Option Bool) (n : Nat) (x : LI × Int × LI × LR) : Option Bool :=
 ((f_ref01_ValidAlphabet x.1).bind fun r1 =>
 bif !r1 then
 (some (x.1, x.2.1, x.2.2.1, x.2.2.2, true))
 else
 (bif decide (x.2.1 < (0 : Int)) then
 (some (x.1, x.2.1, x.2.2.1, x.2.2.2, true))
 else
 (bif decide ((300 : Int) < x.2.1) then
 (some (x.1, x.2.1, x.2.2.1, x.2.2.2, true))
 else
 (some (x.1, x.2.1, x.2.2.1, x.2.2.2, decide ((20000 : Int) < ((List.length x.2.2.2 : Nat) : Int))))))).bind fun x2 =>
 bif x2.2.2.2.2 then
 (some false)
 else
 ((loopN (ref03_Valid.L1) n (x2.1, x2.2.1, x2.2.2.1, x2.2.2.2.1, x2.2.2.1, ((List.length x2.2.2.1 : Nat) : Int), (0 : Int))).bind fun q => match q with
 | Sum.inl x8 => ((loopN (ref03_Valid.L3 n) n (x8.1, x8.2.1, x8.2.2.1, x8.2.2.2, x8.2.2.2, ((List.length x8.2.2.2 : Nat) : Int), (0 : Int))).bind fun q => match q with
 | Sum.inl x19 => (some true)
 | Sum.inr r => some r)
 | Sum.inr r => some r)
/-! boskage/boskageref03.In -/
def ref03_In.L1 (x1 : Int × LI × Int × Int) (rec2 : (Int × LI × Int × Int) → Option (Sum Unit Bool)) : Option (Sum Unit Bool) :=
 bif decide (x1.2.2.2 < x1.2.2.1) then
 ((nth? x1.2.1 x1.2.2.2).bind fun e3 =>
 bif decide (e3 = x1.1) then
 ((some true).bind fun r => some (Sum.inr r))
 else
 (rec2 (x1.1, x1.2.1, x1.2.2.1, IntKind.wrap .i64 (x1.2.2.2 + (1 : Int)))))
 else
 (some (Sum.inl ()))
def ref03_In.P (n : Nat) (x : LI × Int) : Option Bool :=
 (loopN (ref03_In.L1) n (x.2, x.1, ((List.length x.1 : Nat) : Int), (0 : Int))).bind fun q => match q with
 | Sum.inl x4 => (some false)
 | Sum.inr r => some r
/-! boskage/boskageref03.Insert -/
def ref03_Insert.L1 (x1 : LI × Int × Int) (rec2 : (LI × Int × Int) → Option (LI × Int × Int)) : Option (LI × Int × Int) :=
 (bif decide (x1.2.2 < ((List.length x1.1 : Nat) : Int)) then
 ((nth? x1.1 x1.2.2).bind fun e3 =>
 some (x1.1, x1.2.1, x1.2.2, decide (e3 < x1.2.1)))
 else
 (some (x1.1, x1.2.1, x1.2.2, false))).bind fun x4 =>
 bif x4.2.2.2 then
 (rec2 (x4.1, x4.2.1, IntKind.wrap .i64 (x4.2.2.1 + (1 : Int))))
 else
 (some (x4.1, x4.2.1, x4.2.2.1))
def ref03_Insert.P (n : Nat) (x : LI × Int) : Option LI :=
 (loopN (ref03_Insert.L1) n (x.1, x.2, (0 : Int))).bind fun x5 =>
 (bif decide (x5.2.2 < ((List.length x5.1 : Nat) : Int)) then
 ((nth? x5.1 x5.2.2).bind fun e6 =>
 some (x5.1, x5.2.1, x5.2.2, decide (e6 = x5.2.1)))
 else
 (some (x5.1, x5.2.1, x5.2.2, false))).bind fun x7 =>
 bif x7.2.2.2 then
 (some x7.1)
 else
 (bif decide (0 ≤ 0) && decide (0 ≤ x7.2.2.1) && decide (x7.2.2.1 ≤ ((List.length x7.1 : Nat) : Int)) then
 bif decide (List.length ([] : List Int) + List.length (List.drop (Int.toNat 0) (List.take (Int.toNat x7.2.2.1) x7.1)) ≤ maxRows) then
 bif decide (List.length (List.append ([] : List Int) (List.drop (Int.toNat 0) (List.take (Int.toNat x7.2.2.1) x7.1))) + List.length ([x7.2.1] : List Int) ≤ maxRows) then
 bif decide (0 ≤ x7.2.2.1) && decide (x7.2.2.1 ≤ ((List.length x7.1 : Nat) : Int)) && decide (((List.length x7.1 : Nat) : Int) ≤ ((List.length x7.1 : Nat) : Int)) then
 bif decide (List.length (List.append (List.append ([] : List Int) (List.drop (Int.toNat 0) (List.take (Int.toNat x7.2.2.1) x7.1))) ([x7.2.1] : List Int)) + List.length (List.drop (Int.toNat x7.2.2.1) (List.take (Int.toNat ((List.length x7.1 : Nat) : Int)) x7.1)) ≤ maxRows) then
 some (List.append (List.append (List.append ([] : List Int) (List.drop (Int.toNat 0) (List.take (Int.toNat x7.2.2.1) x7.1))) ([x7.2.1] : List Int)) (List.drop (Int.toNat x7.2.2.1) (List.take (Int.toNat ((List.length x7.1 : Nat) : Int)) x7.1)))
 else none
 else none
 else none
 else none
 else none)
/-! boskage/boskageref03.Step -/
def ref03_Step.L1 (f_ref03_In : (LI × Int) → Option Bool) (x4 : Int × LL × LI × Int × LI × Int × Bool × Int × LR × Int × Int) (rec5 : (Int × LL × LI × Int × LI × Int × Bool × Int × LR × Int × Int) → Option (Int × LL × LI × Int × LI × Int × Bool × LR × Int × Int)) : Option (Int × LL × LI × Int × LI × Int × Bool × LR × Int × Int) :=
 (bif x4.2.2.2.2.2.2.1 then
 (some (x4.1, x4.2.1, x4.2.2.1, x4.2.2.2.1, x4.2.2.2.2.1, x4.2.2.2.2.2.1, x4.2.2.2.2.2.2.1, x4.2.2.2.2.2.2.2.1, x4.2.2.2.2.2.2.2.2.1, x4.2.2.2.2.2.2.2.2.2.1, x4.2.2.2.2.2.2.2.2.2.2, decide (x4.2.2.2.2.2.2.2.1 < ((List.length x4.2.1 : Nat) : Int))))
 else
 (some (x4.1, x4.2.1, x4.2.2.1, x4.2.2.2.1, x4.2.2.2.2.1, x4.2.2.2.2.2.1, x4.2.2.2.2.2.2.1, x4.2.2.2.2.2.2.2.1, x4.2.2.2.2.2.2.2.2.1, x4.2.2.2.2.2.2.2.2.2.1, x4.2.2.2.2.2.2.2.2.2.2, false))).bind fun x6 =>
 bif x6.2.2.2.2.2.2.2.2.2.2.2 then
 ((nth? x6.2.1 x6.2.2.2.2.2.2.2.1).bind fun e7 =>
 (nth? x6.2.2.2.2.1 x6.2.2.2.2.2.2.2.1).bind fun e8 =>
 (f_ref03_In (e7, e8)).bind fun r9 =>
 rec5 (x6.1, x6.2.1, x6.2.2.1, x6.2.2.2.1, x6.2.2.2.2.1, x6.2.2.2.2.2.1, r9, IntKind.wrap .i64 (x6.2.2.2.2.2.2.2.1 + (1 : Int)), x6.2.2.2.2.2.2.2.2.1, x6.2.2.2.2.2.2.2.2.2.1, x6.2.2.2.2.2.2.2.2.2.2.1))
 else
 (some (x6.1, x6.2.1, x6.2.2.1, x6.2.2.2.1, x6.2.2.2.2.1, x6.2.2.2.2.2.1, x6.2.2.2.2.2.2.1, x6.2.2.2.2.2.2.2.2.1, x6.2.2.2.2.2.2.2.2.2.1, x6.2.2.2.2.2.2.2.2.2.2.1))
def ref03_Step.L2 (f_ref03_In : (LI × Int) → Option Bool) (n : Nat) (f_ref03_Insert : (LI × Int) → Option LI) (x1 : Int × LL × LI × LR × Int × Int) (rec2 : (Int × LL × LI × LR × Int × Int) → Option LI) : Option LI :=
 bif decide (x1.2.2.2.2.2 < x1.2.2.2.2.1) then
 ((nth? x1.2.2.2.1 x1.2.2.2.2.2).bind fun e3 =>
 (loopN (ref03_Step.L1 f_ref03_In) n (x1.1, x1.2.1, x1.2.2.1, e3.1, e3.2.1, e3.2.2, decide (e3.1 = x1.1), (0 : Int), x1.2.2.2.1, x1.2.2.2.2.1, x1.2.2.2.2.2)).bind fun x10 =>
 (bif x10.2.2.2.2.2.2.1 then
 ((f_ref03_Insert (x10.2.2.1, x10.2.2.2.2.2.1)).bind fun r11 =>
 some (x10.1, x10.2.1, r11, x10.2.2.2.2.2.2.2.1, x10.2.2.2.2.2.2.2.2.1, x10.2.2.2.2.2.2.2.2.2))
 else
 (some (x10.1, x10.2.1, x10.2.2.1, x10.2.2.2.2.2.2.2.1, x10.2.2.2.2.2.2.2.2.1, x10.2.2.2.2.2.2.2.2.2))).bind fun x12 =>
 rec2 (x12.1, x12.2.1, x12.2.2.1, x12.2.2.2.1, x12.2.2.2.2.1, IntKind.wrap .i64 (x12.2.2.2.2.2 + (1 : Int))))
 else
 (some x1.2.2.1)
def ref03_Step.P (f_ref03_In : (LI × Int) → Option Bool) (f_ref03_Insert : (LI × Int) → Option LI) (n : Nat) (x : Int × LI × LR × Int × LL) : Option LI :=
 (loopN (ref03_Step.L2 f_ref03_In n f_ref03_Insert) n (x.2.2.2.1, x.2.2.2.2, ([] : List Int), x.2.2.1, ((List.length x.2.2.1 : Nat) : Int), (0 : Int))).bind fun x13 =>
 some x13
/-! boskage/boskageref03.Of -/
def ref03_Of.L1 (f_ref03_Of : (Int × LI × LR × Int × (List (RT Int))) → Option LI) (x1 : Int × LI × LR × Int × (List (RT Int)) × LL × (List (RT Int)) × Int × Int) (rec2 : (Int × LI × LR × Int × (List (RT Int)) × LL × (List (RT Int)) × Int × Int) → Option (Int × LI × LR × Int × (List (RT Int)) × LL)) : Option (Int × LI × LR × Int × (List (RT Int)) × LL) :=
 bif decide (x1.2.2.2.2.2.2.2.2 < x1.2.2.2.2.2.2.2.1) then
 ((nth? x1.2.2.2.2.2.2.1 x1.2.2.2.2.2.2.2.2).bind fun e3 =>
 (f_ref03_Of (x1.1, x1.2.1, x1.2.2.1, RT.a e3, RT.kids e3)).bind fun r4 =>
 bif decide (List.length x1.2.2.2.2.2.1 + List.length ([r4] : List LI) ≤ maxRows) then
 rec2 (x1.1, x1.2.1, x1.2.2.1, x1.2.2.2.1, x1.2.2.2.2.1, List.append x1.2.2.2.2.2.1 ([r4] : List LI), x1.2.2.2.2.2.2.1, x1.2.2.2.2.2.2.2.1, IntKind.wrap .i64 (x1.2.2.2.2.2.2.2.2 + (1 : Int)))
 else none)
 else
 (some (x1.1, x1.2.1, x1.2.2.1, x1.2.2.2.1, x1.2.2.2.2.1, x1.2.2.2.2.2.1))
def ref03_Of.P (f_ref03_Of : (Int × LI × LR × Int × (List (RT Int))) → Option LI) (f_ref03_Step : (Int × LI × LR × Int × LL) → Option LI) (n : Nat) (x : Int × LI × LR × Int × (List (RT Int))) : Option LI :=
 (loopN (ref03_Of.L1 f_ref03_Of) n (x.1, x.2.1, x.2.2.1, x.2.2.2.1, x.2.2.2.2, ([] : List LI), x.2.2.2.2, ((List.length x.2.2.2.2 : Nat) : Int), (0 : Int))).bind fun x5 =>
 (f_ref03_Step (x5.1, x5.2.1, x5.2.2.1, x5.2.2.2.1, x5.2.2.2.2.2)).bind fun r6 =>
 some r6
/-! boskage/boskageref03.Meet -/
def ref03_Meet.L1 (f_ref03_In : (LI × Int) → Option Bool) (x1 : LI × LI × Int × Int) (rec2 : (LI × LI × Int × Int) → Option (Sum Unit Bool)) : Option (Sum Unit Bool) :=
 bif decide (x1.2.2.2 < x1.2.2.1) then
 ((nth? x1.2.1 x1.2.2.2).bind fun e3 =>
 (f_ref03_In (x1.1, e3)).bind fun r4 =>
 bif r4 then
 ((some true).bind fun r => some (Sum.inr r))
 else
 (rec2 (x1.1, x1.2.1, x1.2.2.1, IntKind.wrap .i64 (x1.2.2.2 + (1 : Int)))))
 else
 (some (Sum.inl ()))
def ref03_Meet.P (f_ref03_In : (LI × Int) → Option Bool) (n : Nat) (x : LI × LI) : Option Bool :=
 (loopN (ref03_Meet.L1 f_ref03_In) n (x.2, x.1, ((List.length x.1 : Nat) : Int), (0 : Int))).bind fun q => match q with
 | Sum.inl x5 => (some false)
 | Sum.inr r => some r
/-! boskage/boskageref03.Has -/
def ref03_Has.P (f_ref03_Meet : (LI × LI) → Option Bool) (f_ref03_Of : (Int × LI × LR × Int × (List (RT Int))) → Option LI) (n : Nat) (x : Int × LI × LR × Int × (List (RT Int))) : Option Bool :=
 (f_ref03_Of (x.1, x.2.1, x.2.2.1, x.2.2.2.1, x.2.2.2.2)).bind fun r1 =>
 (f_ref03_Meet (r1, x.2.1)).bind fun r2 =>
 some r2
/-! boskage/boskagelaw05.awake -/
def law05_awake.P (f_boolean_Under : (LI × Int × LI × LR × Int) → Option (Int × LI × LR × Int)) (f_law05_even : Unit → Option (Int × LI × LR)) (f_law05_f : (Int × (List (RT Int)) × Int × (List (RT Int))) → Option (Int × (List (RT Int)))) (f_law05_leaf : Unit → Option (Int × (List (RT Int)))) (f_ref03_Has : (Int × LI × LR × Int × (List (RT Int))) → Option Bool) (f_ref03_Valid : (LI × Int × LI × LR) → Option Bool) (n : Nat) (x : Unit) : Option Bool :=
 (f_law05_even ()).bind fun r1 =>
 (f_boolean_Under (([0, 2] : List Int), r1.1, r1.2.1, r1.2.2, (1 : Int))).bind fun r2 =>
 (f_law05_leaf ()).bind fun r3 =>
 (f_law05_leaf ()).bind fun r4 =>
 (f_law05_leaf ()).bind fun r5 =>
 (f_law05_f (r4.1, r4.2, r5.1, r5.2)).bind fun r6 =>
 (f_law05_f (r3.1, r3.2, r6.1, r6.2)).bind fun r7 =>
 (bif decide (r2.2.2.2 = (0 : Int)) then
 ((f_ref03_Valid (([0, 2] : List Int), r2.1, r2.2.1, r2.2.2.1)).bind fun r8 =>
 bif r8 then
 ((f_ref03_Has (r2.1, r2.2.1, r2.2.2.1, r7.1, r7.2)).bind fun r9 =>
 bif r9 then
 ((f_law05_leaf ()).bind fun r10 =>
 (f_ref03_Has (r2.1, r2.2.1, r2.2.2.1, r10.1, r10.2)).bind fun r11 =>
 some (!r11))
 else
 (some false))
 else
 (some false))
 else
 (some false)).bind fun x12 =>
 some x12
/-! boskage/auto.Copy -/
def auto_Copy_own.L1 (f_slices_Clone_int_int : List Int → Option LI) (x2 : Int × LI × (List (Option Ru)) × Int × LI × (List (Option Ru)) × LR × Int × Int) (rec3 : (Int × LI × (List (Option Ru)) × Int × LI × (List (Option Ru)) × LR × Int × Int) → Option (Int × LI × (List (Option Ru)) × Int × LI × (List (Option Ru)))) : Option (Int × LI × (List (Option Ru)) × Int × LI × (List (Option Ru))) :=
 bif decide (x2.2.2.2.2.2.2.2.2 < x2.2.2.2.2.2.2.2.1) then
 ((nth? x2.2.2.2.2.2.2.1 x2.2.2.2.2.2.2.2.2).bind fun e4 =>
 (f_slices_Clone_int_int e4.2.1).bind fun r5 =>
 bif decide (List.length x2.2.2.2.2.2.1 + List.length ([(e4.1, r5, e4.2.2)] : List Ru) ≤ maxRows) then
 rec3 (x2.1, x2.2.1, x2.2.2.1, x2.2.2.2.1, x2.2.2.2.2.1, List.append x2.2.2.2.2.2.1 (List.map some ([(e4.1, r5, e4.2.2)] : List Ru)), x2.2.2.2.2.2.2.1, x2.2.2.2.2.2.2.2.1, IntKind.wrap .i64 (x2.2.2.2.2.2.2.2.2 + (1 : Int)))
 else none)
 else
 (some (x2.1, x2.2.1, x2.2.2.1, x2.2.2.2.1, x2.2.2.2.2.1, x2.2.2.2.2.2.1))
def auto_Copy_own.P (f_slices_Clone_int_int : List Int → Option LI) (n : Nat) (x : Int × LI × LR) : Option (Int × LI × (List (Option Ru))) :=
 (f_slices_Clone_int_int x.2.1).bind fun r1 =>
 (loopN (auto_Copy_own.L1 f_slices_Clone_int_int) n ((0 : Int), ([] : List Int), ([] : List (Option Ru)), x.1, r1, ([] : List (Option Ru)), x.2.2, ((List.length x.2.2 : Nat) : Int), (0 : Int))).bind fun x6 =>
 some (x6.2.2.2.1, x6.2.2.2.2.1, x6.2.2.2.2.2)
/-! boskage/boolean.Union -/
def boolean_Union.L1 (x7 : Int × LI × LR × Int × LI × LR × Int × LI × (List (Option Ru)) × Int × LI × (List (Option Ru)) × Int × Int) (rec8 : (Int × LI × LR × Int × LI × LR × Int × LI × (List (Option Ru)) × Int × LI × (List (Option Ru)) × Int × Int) → Option (Int × LI × LR × Int × LI × LR × Int × LI × (List (Option Ru)) × Int × LI × (List (Option Ru)))) : Option (Int × LI × LR × Int × LI × LR × Int × LI × (List (Option Ru)) × Int × LI × (List (Option Ru))) :=
 bif decide (x7.2.2.2.2.2.2.2.2.2.2.2.2.2 < x7.2.2.2.2.2.2.2.2.2.2.2.2.1) then
 (bif decide (0 ≤ x7.2.2.2.2.2.2.2.2.2.2.2.2.2) && decide (x7.2.2.2.2.2.2.2.2.2.2.2.2.2 < ((List.length x7.2.2.2.2.2.2.2.2.2.2.1 : Nat) : Int)) then
 (at? x7.2.2.2.2.2.2.2.2.2.2.1 (Int.toNat x7.2.2.2.2.2.2.2.2.2.2.2.2.2)).bind fun e9 =>
 bif decide (List.length x7.2.2.2.2.2.2.2.1 + List.length ([IntKind.wrap .i64 (e9 + x7.1)] : List Int) ≤ maxRows) then
 rec8 (x7.1, x7.2.1, x7.2.2.1, x7.2.2.2.1, x7.2.2.2.2.1, x7.2.2.2.2.2.1, x7.2.2.2.2.2.2.1, List.append x7.2.2.2.2.2.2.2.1 ([IntKind.wrap .i64 (e9 + x7.1)] : List Int), x7.2.2.2.2.2.2.2.2.1, x7.2.2.2.2.2.2.2.2.2.1, x7.2.2.2.2.2.2.2.2.2.2.1, x7.2.2.2.2.2.2.2.2.2.2.2.1, x7.2.2.2.2.2.2.2.2.2.2.2.2.1, IntKind.wrap .i64 (x7.2.2.2.2.2.2.2.2.2.2.2.2.2 + (1 : Int)))
 else none
 else none)
 else
 (some (x7.1, x7.2.1, x7.2.2.1, x7.2.2.2.1, x7.2.2.2.2.1, x7.2.2.2.2.2.1, x7.2.2.2.2.2.2.1, x7.2.2.2.2.2.2.2.1, x7.2.2.2.2.2.2.2.2.1, x7.2.2.2.2.2.2.2.2.2.1, x7.2.2.2.2.2.2.2.2.2.2.1, x7.2.2.2.2.2.2.2.2.2.2.2.1))
def boolean_Union.L2 (x15 : Int × LI × LR × Int × LI × LR × Int × LI × (List (Option Ru)) × Int × LI × (List (Option Ru)) × Int × LI × Int × Int × Int × Int × Int) (rec16 : (Int × LI × LR × Int × LI × LR × Int × LI × (List (Option Ru)) × Int × LI × (List (Option Ru)) × Int × LI × Int × Int × Int × Int × Int) → Option (Int × LI × LR × Int × LI × LR × Int × LI × (List (Option Ru)) × Int × LI × (List (Option Ru)) × Int × LI × Int × Int × Int)) : Option (Int × LI × LR × Int × LI × LR × Int × LI × (List (Option Ru)) × Int × LI × (List (Option Ru)) × Int × LI × Int × Int × Int) :=
 bif decide (x15.2.2.2.2.2.2.2.2.2.2.2.2.2.2.2.2.2.2 < x15.2.2.2.2.2.2.2.2.2.2.2.2.2.2.2.2.2.1) then
 (bif decide (0 ≤ x15.2.2.2.2.2.2.2.2.2.2.2.2.2.2.2.2.2.2) && decide (x15.2.2.2.2.2.2.2.2.2.2.2.2.2.2.2.2.2.2 < ((List.length x15.2.2.2.2.2.2.2.2.2.2.2.2.2.1 : Nat) : Int)) then
 (at? x15.2.2.2.2.2.2.2.2.2.2.2.2.2.1 (Int.toNat x15.2.2.2.2.2.2.2.2.2.2.2.2.2.2.2.2.2.2)).bind fun e17 =>
 bif decide (0 ≤ x15.2.2.2.2.2.2.2.2.2.2.2.2.2.2.2.2.2.2) && decide (x15.2.2.2.2.2.2.2.2.2.2.2.2.2.2.2.2.2.2 < ((List.length x15.2.2.2.2.2.2.2.2.2.2.2.2.2.1 : Nat) : Int)) then
 (at? x15.2.2.2.2.2.2.2.2.2.2.2.2.2.1 (Int.toNat x15.2.2.2.2.2.2.2.2.2.2.2.2.2.2.2.2.2.2)).bind fun e18 =>
 rec16 (x15.1, x15.2.1, x15.2.2.1, x15.2.2.2.1, x15.2.2.2.2.1, x15.2.2.2.2.2.1, x15.2.2.2.2.2.2.1, x15.2.2.2.2.2.2.2.1, x15.2.2.2.2.2.2.2.2.1, x15.2.2.2.2.2.2.2.2.2.1, x15.2.2.2.2.2.2.2.2.2.2.1, x15.2.2.2.2.2.2.2.2.2.2.2.1, x15.2.2.2.2.2.2.2.2.2.2.2.2.1, List.set x15.2.2.2.2.2.2.2.2.2.2.2.2.2.1 (Int.toNat x15.2.2.2.2.2.2.2.2.2.2.2.2.2.2.2.2.2.2) (IntKind.wrap .i64 (e17 + x15.1)), x15.2.2.2.2.2.2.2.2.2.2.2.2.2.2.1, x15.2.2.2.2.2.2.2.2.2.2.2.2.2.2.2.1, x15.2.2.2.2.2.2.2.2.2.2.2.2.2.2.2.2.1, x15.2.2.2.2.2.2.2.2.2.2.2.2.2.2.2.2.2.1, IntKind.wrap .i64 (x15.2.2.2.2.2.2.2.2.2.2.2.2.2.2.2.2.2.2 + (1 : Int)))
 else none
 else none)
 else
 (some (x15.1, x15.2.1, x15.2.2.1, x15.2.2.2.1, x15.2.2.2.2.1, x15.2.2.2.2.2.1, x15.2.2.2.2.2.2.1, x15.2.2.2.2.2.2.2.1, x15.2.2.2.2.2.2.2.2.1, x15.2.2.2.2.2.2.2.2.2.1, x15.2.2.2.2.2.2.2.2.2.2.1, x15.2.2.2.2.2.2.2.2.2.2.2.1, x15.2.2.2.2.2.2.2.2.2.2.2.2.1, x15.2.2.2.2.2.2.2.2.2.2.2.2.2.1, x15.2.2.2.2.2.2.2.2.2.2.2.2.2.2.1, x15.2.2.2.2.2.2.2.2.2.2.2.2.2.2.2.1, x15.2.2.2.2.2.2.2.2.2.2.2.2.2.2.2.2.1))
def boolean_Union.L3 (n : Nat) (x11 : Int × LI × LR × Int × LI × LR × Int × LI × (List (Option Ru)) × Int × LI × (List (Option Ru)) × Int × Int) (rec12 : (Int × LI × LR × Int × LI × LR × Int × LI × (List (Option Ru)) × Int × LI × (List (Option Ru)) × Int × Int) → Option (Int × LI × LR × Int × LI × (List (Option Ru)))) : Option (Int × LI × LR × Int × LI × (List (Option Ru))) :=
 bif decide (x11.2.2.2.2.2.2.2.2.2.2.2.2.2 < x11.2.2.2.2.2.2.2.2.2.2.2.2.1) then
 (bif decide (0 ≤ x11.2.2.2.2.2.2.2.2.2.2.2.2.2) && decide (x11.2.2.2.2.2.2.2.2.2.2.2.2.2 < ((List.length x11.2.2.2.2.2.2.2.2.2.2.2.1 : Nat) : Int)) then
 (rowAt? x11.2.2.2.2.2.2.2.2.2.2.2.1 (Int.toNat x11.2.2.2.2.2.2.2.2.2.2.2.2.2)).bind fun e13 =>
 (rowAt? x11.2.2.2.2.2.2.2.2.2.2.2.1 (Int.toNat x11.2.2.2.2.2.2.2.2.2.2.2.2.2)).bind fun e14 =>
 (loopN (boolean_Union.L2) n (x11.1, x11.2.1, x11.2.2.1, x11.2.2.2.1, x11.2.2.2.2.1, x11.2.2.2.2.2.1, x11.2.2.2.2.2.2.1, x11.2.2.2.2.2.2.2.1, x11.2.2.2.2.2.2.2.2.1, x11.2.2.2.2.2.2.2.2.2.1, x11.2.2.2.2.2.2.2.2.2.2.1, List.set x11.2.2.2.2.2.2.2.2.2.2.2.1 (Int.toNat x11.2.2.2.2.2.2.2.2.2.2.2.2.2) none, e14.1, e14.2.1, e14.2.2, x11.2.2.2.2.2.2.2.2.2.2.2.2.1, x11.2.2.2.2.2.2.2.2.2.2.2.2.2, ((List.length e14.2.1 : Nat) : Int), (0 : Int))).bind fun x19 =>
 bif decide (List.length x19.2.2.2.2.2.2.2.2.1 + List.length ([(x19.2.2.2.2.2.2.2.2.2.2.2.2.1, x19.2.2.2.2.2.2.2.2.2.2.2.2.2.1, IntKind.wrap .i64 (x19.2.2.2.2.2.2.2.2.2.2.2.2.2.2.1 + x19.1))] : List Ru) ≤ maxRows) then
 rec12 (x19.1, x19.2.1, x19.2.2.1, x19.2.2.2.1, x19.2.2.2.2.1, x19.2.2.2.2.2.1, x19.2.2.2.2.2.2.1, x19.2.2.2.2.2.2.2.1, List.append x19.2.2.2.2.2.2.2.2.1 (List.map some ([(x19.2.2.2.2.2.2.2.2.2.2.2.2.1, x19.2.2.2.2.2.2.2.2.2.2.2.2.2.1, IntKind.wrap .i64 (x19.2.2.2.2.2.2.2.2.2.2.2.2.2.2.1 + x19.1))] : List Ru)), x19.2.2.2.2.2.2.2.2.2.1, x19.2.2.2.2.2.2.2.2.2.2.1, x19.2.2.2.2.2.2.2.2.2.2.2.1, x19.2.2.2.2.2.2.2.2.2.2.2.2.2.2.2.1, IntKind.wrap .i64 (x19.2.2.2.2.2.2.2.2.2.2.2.2.2.2.2.2 + (1 : Int)))
 else none
 else none)
 else
 (some (x11.2.2.2.1, x11.2.2.2.2.1, x11.2.2.2.2.2.1, x11.2.2.2.2.2.2.1, x11.2.2.2.2.2.2.2.1, x11.2.2.2.2.2.2.2.2.1))
def boolean_Union.P (f_auto_Copy_own : (Int × LI × LR) → Option (Int × LI × (List (Option Ru)))) (f_auto_Valid : (LI × Int × LI × LR) → Option Bool) (n : Nat) (x : LI × Int × LI × LR × Int × LI × LR) : Option (Int × LI × LR × Int) :=
 ((f_auto_Valid (x.1, x.2.1, x.2.2.1, x.2.2.2.1)).bind fun r1 =>
 bif !r1 then
 (some (x.2.1, x.2.2.1, x.2.2.2.1, x.2.2.2.2.1, x.2.2.2.2.2.1, x.2.2.2.2.2.2, (0 : Int), ([] : List Int), ([] : List Ru), true))
 else
 ((f_auto_Valid (x.1, x.2.2.2.2.1, x.2.2.2.2.2.1, x.2.2.2.2.2.2)).bind fun r2 =>
 some (x.2.1, x.2.2.1, x.2.2.2.1, x.2.2.2.2.1, x.2.2.2.2.2.1, x.2.2.2.2.2.2, (0 : Int), ([] : List Int), ([] : List Ru), !r2))).bind fun x3 =>
 bif x3.2.2.2.2.2.2.2.2.2 then
 (some ((0 : Int), ([] : List Int), ([] : List Ru), (1 : Int)))
 else
 ((bif decide ((300 : Int) < (IntKind.wrap .i64 (x3.1 + x3.2.2.2.1))) then
 (some (x3.1, x3.2.1, x3.2.2.1, x3.2.2.2.1, x3.2.2.2.2.1, x3.2.2.2.2.2.1, x3.2.2.2.2.2.2.1, x3.2.2.2.2.2.2.2.1, x3.2.2.2.2.2.2.2.2.1, true))
 else
 (some (x3.1, x3.2.1, x3.2.2.1, x3.2.2.2.1, x3.2.2.2.2.1, x3.2.2.2.2.2.1, x3.2.2.2.2.2.2.1, x3.2.2.2.2.2.2.2.1, x3.2.2.2.2.2.2.2.2.1, decide ((20000 : Int) < (IntKind.wrap .i64 (((List.length x3.2.2.1 : Nat) : Int) + ((List.length x3.2.2.2.2.2.1 : Nat) : Int))))))).bind fun x4 =>
 bif x4.2.2.2.2.2.2.2.2.2 then
 (some ((0 : Int), ([] : List Int), ([] : List Ru), (3 : Int)))
 else
 ((f_auto_Copy_own (x4.1, x4.2.1, x4.2.2.1)).bind fun r5 =>
 (f_auto_Copy_own (x4.2.2.2.1, x4.2.2.2.2.1, x4.2.2.2.2.2.1)).bind fun r6 =>
 (loopN (boolean_Union.L1) n (x4.1, x4.2.1, x4.2.2.1, x4.2.2.2.2.2.2.1, x4.2.2.2.2.2.2.2.1, x4.2.2.2.2.2.2.2.2.1, IntKind.wrap .i64 (r5.1 + x4.2.2.2.1), r5.2.1, r5.2.2, r6.1, r6.2.1, r6.2.2, ((List.length r6.2.1 : Nat) : Int), (0 : Int))).bind fun x10 =>
 (loopN (boolean_Union.L3 n) n (x10.1, x10.2.1, x10.2.2.1, x10.2.2.2.1, x10.2.2.2.2.1, x10.2.2.2.2.2.1, x10.2.2.2.2.2.2.1, x10.2.2.2.2.2.2.2.1, x10.2.2.2.2.2.2.2.2.1, x10.2.2.2.2.2.2.2.2.2.1, x10.2.2.2.2.2.2.2.2.2.2.1, x10.2.2.2.2.2.2.2.2.2.2.2, ((List.length x10.2.2.2.2.2.2.2.2.2.2.2 : Nat) : Int), (0 : Int))).bind fun x20 =>
 (rowsAll x20.2.2.2.2.2).bind fun e21 =>
 some (x20.2.2.2.1, x20.2.2.2.2.1, e21, (0 : Int))))
/-! boskage/boskagelaw05.valid -/
def law05_valid.L1 (f_ref03_Valid : (LI × Int × LI × LR) → Option Bool) (x1 : LI × (List (Int × LI × LR)) × Int × Int) (rec2 : (LI × (List (Int × LI × LR)) × Int × Int) → Option (Sum Unit Bool)) : Option (Sum Unit Bool) :=
 bif decide (x1.2.2.2 < x1.2.2.1) then
 ((nth? x1.2.1 x1.2.2.2).bind fun e3 =>
 (f_ref03_Valid (x1.1, e3.1, e3.2.1, e3.2.2)).bind fun r4 =>
 bif !r4 then
 ((some false).bind fun r => some (Sum.inr r))
 else
 (rec2 (x1.1, x1.2.1, x1.2.2.1, IntKind.wrap .i64 (x1.2.2.2 + (1 : Int)))))
 else
 (some (Sum.inl ()))
def law05_valid.P (f_ref03_Valid : (LI × Int × LI × LR) → Option Bool) (n : Nat) (x : LI × (List (Int × LI × LR))) : Option Bool :=
 (loopN (law05_valid.L1 f_ref03_Valid) n (x.1, x.2, ((List.length x.2 : Nat) : Int), (0 : Int))).bind fun q => match q with
 | Sum.inl x5 => (some true)
 | Sum.inr r => some r
/-! boskage/boskageref01.shaped -/
def ref01_shaped.L1 (f_ref01_shaped : (LI × Int × (List (RT Int))) → Option Bool) (x3 : LI × (List (RT Int)) × Int × Int) (rec4 : (LI × (List (RT Int)) × Int × Int) → Option (Sum Unit Bool)) : Option (Sum Unit Bool) :=
 bif decide (x3.2.2.2 < x3.2.2.1) then
 ((nth? x3.2.1 x3.2.2.2).bind fun e5 =>
 (f_ref01_shaped (x3.1, RT.a e5, RT.kids e5)).bind fun r6 =>
 bif !r6 then
 ((some false).bind fun r => some (Sum.inr r))
 else
 (rec4 (x3.1, x3.2.1, x3.2.2.1, IntKind.wrap .i64 (x3.2.2.2 + (1 : Int)))))
 else
 (some (Sum.inl ()))
def ref01_shaped.P (f_ref01_shaped : (LI × Int × (List (RT Int))) → Option Bool) (n : Nat) (x : LI × Int × (List (RT Int))) : Option Bool :=
 (bif decide (x.2.1 < (0 : Int)) then
 (some (x.1, x.2.1, x.2.2, true))
 else
 (bif decide (((List.length x.1 : Nat) : Int) ≤ x.2.1) then
 (some (x.1, x.2.1, x.2.2, true))
 else
 ((nth? x.1 x.2.1).bind fun e1 =>
 some (x.1, x.2.1, x.2.2, !decide (((List.length x.2.2 : Nat) : Int) = e1))))).bind fun x2 =>
 bif x2.2.2.2 then
 (some false)
 else
 ((loopN (ref01_shaped.L1 f_ref01_shaped) n (x2.1, x2.2.2.1, ((List.length x2.2.2.1 : Nat) : Int), (0 : Int))).bind fun q => match q with
 | Sum.inl x7 => (some true)
 | Sum.inr r => some r)
/-! boskage/boskageref01.Valid -/
def ref01_Valid.P (f_ref01_Few : (Int × (List (RT Int)) × Int) → Option Bool) (f_ref01_ValidAlphabet : List Int → Option Bool) (f_ref01_shaped : (LI × Int × (List (RT Int))) → Option Bool) (n : Nat) (x : LI × Int × (List (RT Int))) : Option Bool :=
 ((f_ref01_ValidAlphabet x.1).bind fun r1 =>
 bif r1 then
 ((f_ref01_Few (x.2.1, x.2.2, (300 : Int))).bind fun r2 =>
 bif r2 then
 ((f_ref01_shaped (x.1, x.2.1, x.2.2)).bind fun r3 =>
 some r3)
 else
 (some false))
 else
 (some false)).bind fun x4 =>
 some x4
/-! boskage/boskagelaw05.right -/
def law05_right.P (f_ref03_Has : (Int × LI × LR × Int × (List (RT Int))) → Option Bool) (n : Nat) (x : LI × Int × LI × LR × Int × (List (RT Int)) × Bool) : Option Bool :=
 (f_ref03_Has (x.2.1, x.2.2.1, x.2.2.2.1, x.2.2.2.2.1, x.2.2.2.2.2.1)).bind fun r1 =>
 some (r1 == x.2.2.2.2.2.2)
/-! boskage/boskageref05.shift -/
def ref05_shift.L1 (x4 : Int × LR × Int × LI × Int × LI × LR × Int × Int × LI × Int × Int) (rec5 : (Int × LR × Int × LI × Int × LI × LR × Int × Int × LI × Int × Int) → Option (Int × LR × Int × LI × Int × LI × LR × Int × Int)) : Option (Int × LR × Int × LI × Int × LI × LR × Int × Int) :=
 bif decide (x4.2.2.2.2.2.2.2.2.2.2.2 < x4.2.2.2.2.2.2.2.2.2.2.1) then
 ((nth? x4.2.2.2.2.2.2.2.2.2.1 x4.2.2.2.2.2.2.2.2.2.2.2).bind fun e6 =>
 bif decide (List.length x4.2.2.2.2.2.1 + List.length ([IntKind.wrap .i64 (e6 + x4.1)] : List Int) ≤ maxRows) then
 rec5 (x4.1, x4.2.1, x4.2.2.1, x4.2.2.2.1, x4.2.2.2.2.1, List.append x4.2.2.2.2.2.1 ([IntKind.wrap .i64 (e6 + x4.1)] : List Int), x4.2.2.2.2.2.2.1, x4.2.2.2.2.2.2.2.1, x4.2.2.2.2.2.2.2.2.1, x4.2.2.2.2.2.2.2.2.2.1, x4.2.2.2.2.2.2.2.2.2.2.1, IntKind.wrap .i64 (x4.2.2.2.2.2.2.2.2.2.2.2 + (1 : Int)))
 else none)
 else
 (some (x4.1, x4.2.1, x4.2.2.1, x4.2.2.2.1, x4.2.2.2.2.1, x4.2.2.2.2.2.1, x4.2.2.2.2.2.2.1, x4.2.2.2.2.2.2.2.1, x4.2.2.2.2.2.2.2.2.1))
def ref05_shift.L2 (n : Nat) (x1 : Int × LR × LR × Int × Int) (rec2 : (Int × LR × LR × Int × Int) → Option LR) : Option LR :=
 bif decide (x1.2.2.2.2 < x1.2.2.2.1) then
 ((nth? x1.2.2.1 x1.2.2.2.2).bind fun e3 =>
 (loopN (ref05_shift.L1) n (x1.1, x1.2.1, e3.1, e3.2.1, e3.2.2, ([] : List Int), x1.2.2.1, x1.2.2.2.1, x1.2.2.2.2, e3.2.1, ((List.length e3.2.1 : Nat) : Int), (0 : Int))).bind fun x7 =>
 bif decide (List.length x7.2.1 + List.length ([(x7.2.2.1, x7.2.2.2.2.2.1, IntKind.wrap .i64 (x7.2.2.2.2.1 + x7.1))] : List Ru) ≤ maxRows) then
 rec2 (x7.1, List.append x7.2.1 ([(x7.2.2.1, x7.2.2.2.2.2.1, IntKind.wrap .i64 (x7.2.2.2.2.1 + x7.1))] : List Ru), x7.2.2.2.2.2.2.1, x7.2.2.2.2.2.2.2.1, IntKind.wrap .i64 (x7.2.2.2.2.2.2.2.2 + (1 : Int)))
 else none)
 else
 (some x1.2.1)
def ref05_shift.P (n : Nat) (x : LR × Int) : Option LR :=
 (loopN (ref05_shift.L2 n) n (x.2, ([] : List Ru), x.1, ((List.length x.1 : Nat) : Int), (0 : Int))).bind fun x8 =>
 some x8
/-! boskage/boskageref05.Union -/
def ref05_Union.L1 (x1 : Int × LI × LR × Int × LI × LR × Int × LI × LR × Int × LI × LR × LI × Int × Int) (rec2 : (Int × LI × LR × Int × LI × LR × Int × LI × LR × Int × LI × LR × LI × Int × Int) → Option (Int × LI × LR × Int × LI × LR × Int × LI × LR × Int × LI × LR)) : Option (Int × LI × LR × Int × LI × LR × Int × LI × LR × Int × LI × LR) :=
 bif decide (x1.2.2.2.2.2.2.2.2.2.2.2.2.2.2 < x1.2.2.2.2.2.2.2.2.2.2.2.2.2.1) then
 ((nth? x1.2.2.2.2.2.2.2.2.2.2.2.2.1 x1.2.2.2.2.2.2.2.2.2.2.2.2.2.2).bind fun e3 =>
 bif decide (List.length x1.2.2.2.2.2.2.2.2.2.2.1 + List.length ([IntKind.wrap .i64 (e3 + x1.1)] : List Int) ≤ maxRows) then
 rec2 (x1.1, x1.2.1, x1.2.2.1, x1.2.2.2.1, x1.2.2.2.2.1, x1.2.2.2.2.2.1, x1.2.2.2.2.2.2.1, x1.2.2.2.2.2.2.2.1, x1.2.2.2.2.2.2.2.2.1, x1.2.2.2.2.2.2.2.2.2.1, List.append x1.2.2.2.2.2.2.2.2.2.2.1 ([IntKind.wrap .i64 (e3 + x1.1)] : List Int), x1.2.2.2.2.2.2.2.2.2.2.2.1, x1.2.2.2.2.2.2.2.2.2.2.2.2.1, x1.2.2.2.2.2.2.2.2.2.2.2.2.2.1, IntKind.wrap .i64 (x1.2.2.2.2.2.2.2.2.2.2.2.2.2.2 + (1 : Int)))
 else none)
 else
 (some (x1.1, x1.2.1, x1.2.2.1, x1.2.2.2.1, x1.2.2.2.2.1, x1.2.2.2.2.2.1, x1.2.2.2.2.2.2.1, x1.2.2.2.2.2.2.2.1, x1.2.2.2.2.2.2.2.2.1, x1.2.2.2.2.2.2.2.2.2.1, x1.2.2.2.2.2.2.2.2.2.2.1, x1.2.2.2.2.2.2.2.2.2.2.2.1))
def ref05_Union.P (f_ref05_shift : (LR × Int) → Option LR) (n : Nat) (x : Int × LI × LR × Int × LI × LR) : Option (Int × LI × LR) :=
 bif decide (List.length ([] : List Int) + List.length x.2.1 ≤ maxRows) then
 bif decide (List.length ([] : List Ru) + List.length x.2.2.1 ≤ maxRows) then
 (loopN (ref05_Union.L1) n (x.1, x.2.1, x.2.2.1, x.2.2.2.1, x.2.2.2.2.1, x.2.2.2.2.2, (0 : Int), ([] : List Int), ([] : List Ru), IntKind.wrap .i64 (x.1 + x.2.2.2.1), List.append ([] : List Int) x.2.1, List.append ([] : List Ru) x.2.2.1, x.2.2.2.2.1, ((List.length x.2.2.2.2.1 : Nat) : Int), (0 : Int))).bind fun x4 =>
 (f_ref05_shift (x4.2.2.2.2.2.1, x4.1)).bind fun r5 =>
 bif decide (List.length x4.2.2.2.2.2.2.2.2.2.2.2 + List.length r5 ≤ maxRows) then
 some (x4.2.2.2.2.2.2.2.2.2.1, x4.2.2.2.2.2.2.2.2.2.2.1, List.append x4.2.2.2.2.2.2.2.2.2.2.2 r5)
 else none
 else none
 else none
/-! boskage/boskageref03.Reached -/
def ref03_Reached.L1 (x6 : Int × LI × LR × (List Bool) × Bool × Int × LI × Int × Bool × LR × Int × Int × LI × Int × Int) (rec7 : (Int × LI × LR × (List Bool) × Bool × Int × LI × Int × Bool × LR × Int × Int × LI × Int × Int) → Option (Int × LI × LR × (List Bool) × Bool × Int × LI × Int × Bool × LR × Int × Int)) : Option (Int × LI × LR × (List Bool) × Bool × Int × LI × Int × Bool × LR × Int × Int) :=
 bif decide (x6.2.2.2.2.2.2.2.2.2.2.2.2.2.2 < x6.2.2.2.2.2.2.2.2.2.2.2.2.2.1) then
 ((nth? x6.2.2.2.2.2.2.2.2.2.2.2.2.1 x6.2.2.2.2.2.2.2.2.2.2.2.2.2.2).bind fun e8 =>
 (bif x6.2.2.2.2.2.2.2.2.1 then
 (bif decide (0 ≤ e8) && decide (e8 < ((List.length x6.2.2.2.1 : Nat) : Int)) then
 (at? x6.2.2.2.1 (Int.toNat e8)).bind fun e9 =>
 some (x6.1, x6.2.1, x6.2.2.1, x6.2.2.2.1, x6.2.2.2.2.1, x6.2.2.2.2.2.1, x6.2.2.2.2.2.2.1, x6.2.2.2.2.2.2.2.1, e9, x6.2.2.2.2.2.2.2.2.2.1, x6.2.2.2.2.2.2.2.2.2.2.1, x6.2.2.2.2.2.2.2.2.2.2.2.1, x6.2.2.2.2.2.2.2.2.2.2.2.2.1, x6.2.2.2.2.2.2.2.2.2.2.2.2.2.1, x6.2.2.2.2.2.2.2.2.2.2.2.2.2.2)
 else none)
 else
 (some (x6.1, x6.2.1, x6.2.2.1, x6.2.2.2.1, x6.2.2.2.2.1, x6.2.2.2.2.2.1, x6.2.2.2.2.2.2.1, x6.2.2.2.2.2.2.2.1, false, x6.2.2.2.2.2.2.2.2.2.1, x6.2.2.2.2.2.2.2.2.2.2.1, x6.2.2.2.2.2.2.2.2.2.2.2.1, x6.2.2.2.2.2.2.2.2.2.2.2.2.1, x6.2.2.2.2.2.2.2.2.2.2.2.2.2.1, x6.2.2.2.2.2.2.2.2.2.2.2.2.2.2))).bind fun x10 =>
 rec7 (x10.1, x10.2.1, x10.2.2.1, x10.2.2.2.1, x10.2.2.2.2.1, x10.2.2.2.2.2.1, x10.2.2.2.2.2.2.1, x10.2.2.2.2.2.2.2.1, x10.2.2.2.2.2.2.2.2.1, x10.2.2.2.2.2.2.2.2.2.1, x10.2.2.2.2.2.2.2.2.2.2.1, x10.2.2.2.2.2.2.2.2.2.2.2.1, x10.2.2.2.2.2.2.2.2.2.2.2.2.1, x10.2.2.2.2.2.2.2.2.2.2.2.2.2.1, IntKind.wrap .i64 (x10.2.2.2.2.2.2.2.2.2.2.2.2.2.2 + (1 : Int))))
 else
 (some (x6.1, x6.2.1, x6.2.2.1, x6.2.2.2.1, x6.2.2.2.2.1, x6.2.2.2.2.2.1, x6.2.2.2.2.2.2.1, x6.2.2.2.2.2.2.2.1, x6.2.2.2.2.2.2.2.2.1, x6.2.2.2.2.2.2.2.2.2.1, x6.2.2.2.2.2.2.2.2.2.2.1, x6.2.2.2.2.2.2.2.2.2.2.2.1))
def ref03_Reached.L2 (n : Nat) (x3 : Int × LI × LR × (List Bool) × Bool × LR × Int × Int) (rec4 : (Int × LI × LR × (List Bool) × Bool × LR × Int × Int) → Option (Int × LI × LR × (List Bool) × Bool)) : Option (Int × LI × LR × (List Bool) × Bool) :=
 bif decide (x3.2.2.2.2.2.2.2 < x3.2.2.2.2.2.2.1) then
 ((nth? x3.2.2.2.2.2.1 x3.2.2.2.2.2.2.2).bind fun e5 =>
 (loopN (ref03_Reached.L1) n (x3.1, x3.2.1, x3.2.2.1, x3.2.2.2.1, x3.2.2.2.2.1, e5.1, e5.2.1, e5.2.2, true, x3.2.2.2.2.2.1, x3.2.2.2.2.2.2.1, x3.2.2.2.2.2.2.2, e5.2.1, ((List.length e5.2.1 : Nat) : Int), (0 : Int))).bind fun x11 =>
 (bif x11.2.2.2.2.2.2.2.2.1 then
 (bif decide (0 ≤ x11.2.2.2.2.2.2.2.1) && decide (x11.2.2.2.2.2.2.2.1 < ((List.length x11.2.2.2.1 : Nat) : Int)) then
 (at? x11.2.2.2.1 (Int.toNat x11.2.2.2.2.2.2.2.1)).bind fun e12 =>
 some (x11.1, x11.2.1, x11.2.2.1, x11.2.2.2.1, x11.2.2.2.2.1, x11.2.2.2.2.2.1, x11.2.2.2.2.2.2.1, x11.2.2.2.2.2.2.2.1, x11.2.2.2.2.2.2.2.2.2.1, x11.2.2.2.2.2.2.2.2.2.2.1, x11.2.2.2.2.2.2.2.2.2.2.2, !e12)
 else none)
 else
 (some (x11.1, x11.2.1, x11.2.2.1, x11.2.2.2.1, x11.2.2.2.2.1, x11.2.2.2.2.2.1, x11.2.2.2.2.2.2.1, x11.2.2.2.2.2.2.2.1, x11.2.2.2.2.2.2.2.2.2.1, x11.2.2.2.2.2.2.2.2.2.2.1, x11.2.2.2.2.2.2.2.2.2.2.2, false))).bind fun x13 =>
 (bif x13.2.2.2.2.2.2.2.2.2.2.2 then
 (bif decide (0 ≤ x13.2.2.2.2.2.2.2.1) && decide (x13.2.2.2.2.2.2.2.1 < ((List.length x13.2.2.2.1 : Nat) : Int)) then
 (at? x13.2.2.2.1 (Int.toNat x13.2.2.2.2.2.2.2.1)).bind fun e14 =>
 some (x13.1, x13.2.1, x13.2.2.1, List.set x13.2.2.2.1 (Int.toNat x13.2.2.2.2.2.2.2.1) true, true, x13.2.2.2.2.2.2.2.2.1, x13.2.2.2.2.2.2.2.2.2.1, x13.2.2.2.2.2.2.2.2.2.2.1)
 else none)
 else
 (some (x13.1, x13.2.1, x13.2.2.1, x13.2.2.2.1, x13.2.2.2.2.1, x13.2.2.2.2.2.2.2.2.1, x13.2.2.2.2.2.2.2.2.2.1, x13.2.2.2.2.2.2.2.2.2.2.1))).bind fun x15 =>
 rec4 (x15.1, x15.2.1, x15.2.2.1, x15.2.2.2.1, x15.2.2.2.2.1, x15.2.2.2.2.2.1, x15.2.2.2.2.2.2.1, IntKind.wrap .i64 (x15.2.2.2.2.2.2.2 + (1 : Int))))
 else
 (some (x3.1, x3.2.1, x3.2.2.1, x3.2.2.2.1, x3.2.2.2.2.1))
def ref03_Reached.L3 (n : Nat) (x1 : Int × LI × LR × (List Bool) × Bool) (rec2 : (Int × LI × LR × (List Bool) × Bool) → Option (List Bool)) : Option (List Bool) :=
 bif x1.2.2.2.2 then
 ((loopN (ref03_Reached.L2 n) n (x1.1, x1.2.1, x1.2.2.1, x1.2.2.2.1, false, x1.2.2.1, ((List.length x1.2.2.1 : Nat) : Int), (0 : Int))).bind fun x16 =>
 rec2 (x16.1, x16.2.1, x16.2.2.1, x16.2.2.2.1, x16.2.2.2.2))
 else
 (some x1.2.2.2.1)
def ref03_Reached.P (n : Nat) (x : Int × LI × LR) : Option (List Bool) :=
 bif decide (0 ≤ x.1) && decide (x.1 ≤ x.1) && decide (x.1 ≤ ((maxRows : Nat) : Int)) then
 (loopN (ref03_Reached.L3 n) n (x.1, x.2.1, x.2.2, List.replicate (Int.toNat x.1) (false : Bool), true)).bind fun x17 =>
 some x17
 else none
/-! boskage/boskageref03.Used -/
def ref03_Used.L1 (x2 : Int × LI × LR × (List Bool) × (List Bool) × LI × Int × Int) (rec3 : (Int × LI × LR × (List Bool) × (List Bool) × LI × Int × Int) → Option (Int × LI × LR × (List Bool) × (List Bool))) : Option (Int × LI × LR × (List Bool) × (List Bool)) :=
 bif decide (x2.2.2.2.2.2.2.2 < x2.2.2.2.2.2.2.1) then
 ((nth? x2.2.2.2.2.2.1 x2.2.2.2.2.2.2.2).bind fun e4 =>
 bif decide (0 ≤ e4) && decide (e4 < ((List.length x2.2.2.2.1 : Nat) : Int)) then
 (at? x2.2.2.2.1 (Int.toNat e4)).bind fun e5 =>
 bif decide (0 ≤ e4) && decide (e4 < ((List.length x2.2.2.2.2.1 : Nat) : Int)) then
 (at? x2.2.2.2.2.1 (Int.toNat e4)).bind fun e6 =>
 rec3 (x2.1, x2.2.1, x2.2.2.1, x2.2.2.2.1, List.set x2.2.2.2.2.1 (Int.toNat e4) e5, x2.2.2.2.2.2.1, x2.2.2.2.2.2.2.1, IntKind.wrap .i64 (x2.2.2.2.2.2.2.2 + (1 : Int)))
 else none
 else none)
 else
 (some (x2.1, x2.2.1, x2.2.2.1, x2.2.2.2.1, x2.2.2.2.2.1))
def ref03_Used.L2 (x14 : Int × LI × LR × (List Bool) × (List Bool) × Bool × Int × LI × Int × Bool × LR × Int × Int × LI × Int × Int) (rec15 : (Int × LI × LR × (List Bool) × (List Bool) × Bool × Int × LI × Int × Bool × LR × Int × Int × LI × Int × Int) → Option (Int × LI × LR × (List Bool) × (List Bool) × Bool × Int × LI × Int × Bool × LR × Int × Int)) : Option (Int × LI × LR × (List Bool) × (List Bool) × Bool × Int × LI × Int × Bool × LR × Int × Int) :=
 bif decide (x14.2.2.2.2.2.2.2.2.2.2.2.2.2.2.2 < x14.2.2.2.2.2.2.2.2.2.2.2.2.2.2.1) then
 ((nth? x14.2.2.2.2.2.2.2.2.2.2.2.2.2.1 x14.2.2.2.2.2.2.2.2.2.2.2.2.2.2.2).bind fun e16 =>
 (bif x14.2.2.2.2.2.2.2.2.2.1 then
 (bif decide (0 ≤ e16) && decide (e16 < ((List.length x14.2.2.2.1 : Nat) : Int)) then
 (at? x14.2.2.2.1 (Int.toNat e16)).bind fun e17 =>
 some (x14.1, x14.2.1, x14.2.2.1, x14.2.2.2.1, x14.2.2.2.2.1, x14.2.2.2.2.2.1, x14.2.2.2.2.2.2.1, x14.2.2.2.2.2.2.2.1, x14.2.2.2.2.2.2.2.2.1, e17, x14.2.2.2.2.2.2.2.2.2.2.1, x14.2.2.2.2.2.2.2.2.2.2.2.1, x14.2.2.2.2.2.2.2.2.2.2.2.2.1, x14.2.2.2.2.2.2.2.2.2.2.2.2.2.1, x14.2.2.2.2.2.2.2.2.2.2.2.2.2.2.1, x14.2.2.2.2.2.2.2.2.2.2.2.2.2.2.2)
 else none)
 else
 (some (x14.1, x14.2.1, x14.2.2.1, x14.2.2.2.1, x14.2.2.2.2.1, x14.2.2.2.2.2.1, x14.2.2.2.2.2.2.1, x14.2.2.2.2.2.2.2.1, x14.2.2.2.2.2.2.2.2.1, false, x14.2.2.2.2.2.2.2.2.2.2.1, x14.2.2.2.2.2.2.2.2.2.2.2.1, x14.2.2.2.2.2.2.2.2.2.2.2.2.1, x14.2.2.2.2.2.2.2.2.2.2.2.2.2.1, x14.2.2.2.2.2.2.2.2.2.2.2.2.2.2.1, x14.2.2.2.2.2.2.2.2.2.2.2.2.2.2.2))).bind fun x18 =>
 rec15 (x18.1, x18.2.1, x18.2.2.1, x18.2.2.2.1, x18.2.2.2.2.1, x18.2.2.2.2.2.1, x18.2.2.2.2.2.2.1, x18.2.2.2.2.2.2.2.1, x18.2.2.2.2.2.2.2.2.1, x18.2.2.2.2.2.2.2.2.2.1, x18.2.2.2.2.2.2.2.2.2.2.1, x18.2.2.2.2.2.2.2.2.2.2.2.1, x18.2.2.2.2.2.2.2.2.2.2.2.2.1, x18.2.2.2.2.2.2.2.2.2.2.2.2.2.1, x18.2.2.2.2.2.2.2.2.2.2.2.2.2.2.1, IntKind.wrap .i64 (x18.2.2.2.2.2.2.2.2.2.2.2.2.2.2.2 + (1 : Int))))
 else
 (some (x14.1, x14.2.1, x14.2.2.1, x14.2.2.2.1, x14.2.2.2.2.1, x14.2.2.2.2.2.1, x14.2.2.2.2.2.2.1, x14.2.2.2.2.2.2.2.1, x14.2.2.2.2.2.2.2.2.1, x14.2.2.2.2.2.2.2.2.2.1, x14.2.2.2.2.2.2.2.2.2.2.1, x14.2.2.2.2.2.2.2.2.2.2.2.1, x14.2.2.2.2.2.2.2.2.2.2.2.2.1))
def ref03_Used.L3 (x20 : Int × LI × LR × (List Bool) × (List Bool) × Bool × Bool × LR × Int × Int × LI × Int × Int) (rec21 : (Int × LI × LR × (List Bool) × (List Bool) × Bool × Bool × LR × Int × Int × LI × Int × Int) → Option (Int × LI × LR × (List Bool) × (List Bool) × Bool × LR × Int × Int)) : Option (Int × LI × LR × (List Bool) × (List Bool) × Bool × LR × Int × Int) :=
 bif decide (x20.2.2.2.2.2.2.2.2.2.2.2.2 < x20.2.2.2.2.2.2.2.2.2.2.2.1) then
 ((nth? x20.2.2.2.2.2.2.2.2.2.2.1 x20.2.2.2.2.2.2.2.2.2.2.2.2).bind fun e22 =>
 (bif x20.2.2.2.2.2.2.1 then
 (bif decide (0 ≤ e22) && decide (e22 < ((List.length x20.2.2.2.2.1 : Nat) : Int)) then
 (at? x20.2.2.2.2.1 (Int.toNat e22)).bind fun e23 =>
 some (x20.1, x20.2.1, x20.2.2.1, x20.2.2.2.1, x20.2.2.2.2.1, x20.2.2.2.2.2.1, x20.2.2.2.2.2.2.1, e22, x20.2.2.2.2.2.2.2.1, x20.2.2.2.2.2.2.2.2.1, x20.2.2.2.2.2.2.2.2.2.1, x20.2.2.2.2.2.2.2.2.2.2.1, x20.2.2.2.2.2.2.2.2.2.2.2.1, x20.2.2.2.2.2.2.2.2.2.2.2.2, !e23)
 else none)
 else
 (some (x20.1, x20.2.1, x20.2.2.1, x20.2.2.2.1, x20.2.2.2.2.1, x20.2.2.2.2.2.1, x20.2.2.2.2.2.2.1, e22, x20.2.2.2.2.2.2.2.1, x20.2.2.2.2.2.2.2.2.1, x20.2.2.2.2.2.2.2.2.2.1, x20.2.2.2.2.2.2.2.2.2.2.1, x20.2.2.2.2.2.2.2.2.2.2.2.1, x20.2.2.2.2.2.2.2.2.2.2.2.2, false))).bind fun x24 =>
 (bif x24.2.2.2.2.2.2.2.2.2.2.2.2.2.2 then
 (bif decide (0 ≤ x24.2.2.2.2.2.2.2.1) && decide (x24.2.2.2.2.2.2.2.1 < ((List.length x24.2.2.2.2.1 : Nat) : Int)) then
 (at? x24.2.2.2.2.1 (Int.toNat x24.2.2.2.2.2.2.2.1)).bind fun e25 =>
 some (x24.1, x24.2.1, x24.2.2.1, x24.2.2.2.1, List.set x24.2.2.2.2.1 (Int.toNat x24.2.2.2.2.2.2.2.1) true, true, x24.2.2.2.2.2.2.1, x24.2.2.2.2.2.2.2.2.1, x24.2.2.2.2.2.2.2.2.2.1, x24.2.2.2.2.2.2.2.2.2.2.1, x24.2.2.2.2.2.2.2.2.2.2.2.1, x24.2.2.2.2.2.2.2.2.2.2.2.2.1, x24.2.2.2.2.2.2.2.2.2.2.2.2.2.1)
 else none)
 else
 (some (x24.1, x24.2.1, x24.2.2.1, x24.2.2.2.1, x24.2.2.2.2.1, x24.2.2.2.2.2.1, x24.2.2.2.2.2.2.1, x24.2.2.2.2.2.2.2.2.1, x24.2.2.2.2.2.2.2.2.2.1, x24.2.2.2.2.2.2.2.2.2.2.1, x24.2.2.2.2.2.2.2.2.2.2.2.1, x24.2.2.2.2.2.2.2.2.2.2.2.2.1, x24.2.2.2.2.2.2.2.2.2.2.2.2.2.1))).bind fun x26 =>
 rec21 (x26.1, x26.2.1, x26.2.2.1, x26.2.2.2.1, x26.2.2.2.2.1, x26.2.2.2.2.2.1, x26.2.2.2.2.2.2.1, x26.2.2.2.2.2.2.2.1, x26.2.2.2.2.2.2.2.2.1, x26.2.2.2.2.2.2.2.2.2.1, x26.2.2.2.2.2.2.2.2.2.2.1, x26.2.2.2.2.2.2.2.2.2.2.2.1, IntKind.wrap .i64 (x26.2.2.2.2.2.2.2.2.2.2.2.2 + (1 : Int))))
 else
 (some (x20.1, x20.2.1, x20.2.2.1, x20.2.2.2.1, x20.2.2.2.2.1, x20.2.2.2.2.2.1, x20.2.2.2.2.2.2.2.1, x20.2.2.2.2.2.2.2.2.1, x20.2.2.2.2.2.2.2.2.2.1))
def ref03_Used.L4 (n : Nat) (x10 : Int × LI × LR × (List Bool) × (List Bool) × Bool × LR × Int × Int) (rec11 : (Int × LI × LR × (List Bool) × (List Bool) × Bool × LR × Int × Int) → Option (Int × LI × LR × (List Bool) × (List Bool) × Bool)) : Option (Int × LI × LR × (List Bool) × (List Bool) × Bool) :=
 bif decide (x10.2.2.2.2.2.2.2.2 < x10.2.2.2.2.2.2.2.1) then
 ((nth? x10.2.2.2.2.2.2.1 x10.2.2.2.2.2.2.2.2).bind fun e12 =>
 bif decide (0 ≤ e12.2.2) && decide (e12.2.2 < ((List.length x10.2.2.2.2.1 : Nat) : Int)) then
 (at? x10.2.2.2.2.1 (Int.toNat e12.2.2)).bind fun e13 =>
 (loopN (ref03_Used.L2) n (x10.1, x10.2.1, x10.2.2.1, x10.2.2.2.1, x10.2.2.2.2.1, x10.2.2.2.2.2.1, e12.1, e12.2.1, e12.2.2, e13, x10.2.2.2.2.2.2.1, x10.2.2.2.2.2.2.2.1, x10.2.2.2.2.2.2.2.2, e12.2.1, ((List.length e12.2.1 : Nat) : Int), (0 : Int))).bind fun x19 =>
 (loopN (ref03_Used.L3) n (x19.1, x19.2.1, x19.2.2.1, x19.2.2.2.1, x19.2.2.2.2.1, x19.2.2.2.2.2.1, x19.2.2.2.2.2.2.2.2.2.1, x19.2.2.2.2.2.2.2.2.2.2.1, x19.2.2.2.2.2.2.2.2.2.2.2.1, x19.2.2.2.2.2.2.2.2.2.2.2.2, x19.2.2.2.2.2.2.2.1, ((List.length x19.2.2.2.2.2.2.2.1 : Nat) : Int), (0 : Int))).bind fun x27 =>
 rec11 (x27.1, x27.2.1, x27.2.2.1, x27.2.2.2.1, x27.2.2.2.2.1, x27.2.2.2.2.2.1, x27.2.2.2.2.2.2.1, x27.2.2.2.2.2.2.2.1, IntKind.wrap .i64 (x27.2.2.2.2.2.2.2.2 + (1 : Int)))
 else none)
 else
 (some (x10.1, x10.2.1, x10.2.2.1, x10.2.2.2.1, x10.2.2.2.2.1, x10.2.2.2.2.2.1))
def ref03_Used.L5 (n : Nat) (x8 : Int × LI × LR × (List Bool) × (List Bool) × Bool) (rec9 : (Int × LI × LR × (List Bool) × (List Bool) × Bool) → Option (List Bool)) : Option (List Bool) :=
 bif x8.2.2.2.2.2 then
 ((loopN (ref03_Used.L4 n) n (x8.1, x8.2.1, x8.2.2.1, x8.2.2.2.1, x8.2.2.2.2.1, false, x8.2.2.1, ((List.length x8.2.2.1 : Nat) : Int), (0 : Int))).bind fun x28 =>
 rec9 (x28.1, x28.2.1, x28.2.2.1, x28.2.2.2.1, x28.2.2.2.2.1, x28.2.2.2.2.2))
 else
 (some x8.2.2.2.2.1)
def ref03_Used.P (f_ref03_Reached : (Int × LI × LR) → Option (List Bool)) (n : Nat) (x : Int × LI × LR) : Option (List Bool) :=
 (f_ref03_Reached (x.1, x.2.1, x.2.2)).bind fun r1 =>
 bif decide (0 ≤ x.1) && decide (x.1 ≤ x.1) && decide (x.1 ≤ ((maxRows : Nat) : Int)) then
 (loopN (ref03_Used.L1) n (x.1, x.2.1, x.2.2, r1, List.replicate (Int.toNat x.1) (false : Bool), x.2.1, ((List.length x.2.1 : Nat) : Int), (0 : Int))).bind fun x7 =>
 (loopN (ref03_Used.L5 n) n (x7.1, x7.2.1, x7.2.2.1, x7.2.2.2.1, x7.2.2.2.2, true)).bind fun x29 =>
 some x29
 else none
/-! boskage/boskageref03.key -/
def ref03_key.P (n : Nat) (x : Int × LI × Int) : Option LI :=
 bif decide (List.length ([x.1] : List Int) + List.length x.2.1 ≤ maxRows) then
 bif decide (List.length (List.append ([x.1] : List Int) x.2.1) + List.length ([x.2.2] : List Int) ≤ maxRows) then
 some (List.append (List.append ([x.1] : List Int) x.2.1) ([x.2.2] : List Int))
 else none
 else none
/-! boskage/boskageref03.Less -/
def ref03_Less.L1 (x1 : LI × LI × Int × Int) (rec2 : (LI × LI × Int × Int) → Option (Sum (LI × LI) Int)) : Option (Sum (LI × LI) Int) :=
 bif decide (x1.2.2.2 < x1.2.2.1) then
 ((nth? x1.1 x1.2.2.2).bind fun e3 =>
 (nth? x1.2.1 x1.2.2.2).bind fun e4 =>
 bif decide (e3 < e4) then
 ((some (-1 : Int)).bind fun r => some (Sum.inr r))
 else
 ((nth? x1.1 x1.2.2.2).bind fun e5 =>
 (nth? x1.2.1 x1.2.2.2).bind fun e6 =>
 bif decide (e6 < e5) then
 ((some (1 : Int)).bind fun r => some (Sum.inr r))
 else
 (rec2 (x1.1, x1.2.1, x1.2.2.1, IntKind.wrap .i64 (x1.2.2.2 + (1 : Int))))))
 else
 (some (Sum.inl (x1.1, x1.2.1)))
def ref03_Less.P (n : Nat) (x : LI × LI) : Option Int :=
 (loopN (ref03_Less.L1) n (x.1, x.2, min ((List.length x.1 : Nat) : Int) ((List.length x.2 : Nat) : Int), (0 : Int))).bind fun q => match q with
 | Sum.inl x7 => (bif decide (((List.length x7.1 : Nat) : Int) < ((List.length x7.2 : Nat) : Int)) then
 (some (-1 : Int))
 else
 (bif decide (((List.length x7.2 : Nat) : Int) < ((List.length x7.1 : Nat) : Int)) then
 (some (1 : Int))
 else
 (some (0 : Int))))
 | Sum.inr r => some r
/-! boskage/boskageref03.Sort -/
def ref03_Sort.L1 (f_ref03_key : Ru → Option LI) (f_ref03_Less : (LI × LI) → Option Int) (x4 : LR × Int × LI × Int × Int × Int × LR × Int × Int) (rec5 : (LR × Int × LI × Int × Int × Int × LR × Int × Int) → Option (LR × Int × LI × Int × Int × LR × Int × Int)) : Option (LR × Int × LI × Int × Int × LR × Int × Int) :=
 bif decide (x4.2.2.2.2.1 < x4.2.2.2.2.2.1) then
 (bif !decide ((2 : Int) = 0) then
 bif decide (0 ≤ (IntKind.wrap .i64 (Int.tdiv (IntKind.wrap .i64 (x4.2.2.2.2.1 + x4.2.2.2.2.2.1)) (2 : Int)))) && decide ((IntKind.wrap .i64 (Int.tdiv (IntKind.wrap .i64 (x4.2.2.2.2.1 + x4.2.2.2.2.2.1)) (2 : Int))) < ((List.length x4.1 : Nat) : Int)) then
 (at? x4.1 (Int.toNat (IntKind.wrap .i64 (Int.tdiv (IntKind.wrap .i64 (x4.2.2.2.2.1 + x4.2.2.2.2.2.1)) (2 : Int))))).bind fun e6 =>
 (f_ref03_key (e6.1, e6.2.1, e6.2.2)).bind fun r7 =>
 (f_ref03_key (x4.2.1, x4.2.2.1, x4.2.2.2.1)).bind fun r8 =>
 (f_ref03_Less (r7, r8)).bind fun r9 =>
 (bif decide (r9 < (0 : Int)) then
 (some (x4.1, x4.2.1, x4.2.2.1, x4.2.2.2.1, IntKind.wrap .i64 ((IntKind.wrap .i64 (Int.tdiv (IntKind.wrap .i64 (x4.2.2.2.2.1 + x4.2.2.2.2.2.1)) (2 : Int))) + (1 : Int)), x4.2.2.2.2.2.1, x4.2.2.2.2.2.2.1, x4.2.2.2.2.2.2.2.1, x4.2.2.2.2.2.2.2.2))
 else
 (some (x4.1, x4.2.1, x4.2.2.1, x4.2.2.2.1, x4.2.2.2.2.1, IntKind.wrap .i64 (Int.tdiv (IntKind.wrap .i64 (x4.2.2.2.2.1 + x4.2.2.2.2.2.1)) (2 : Int)), x4.2.2.2.2.2.2.1, x4.2.2.2.2.2.2.2.1, x4.2.2.2.2.2.2.2.2))).bind fun x10 =>
 rec5 (x10.1, x10.2.1, x10.2.2.1, x10.2.2.2.1, x10.2.2.2.2.1, x10.2.2.2.2.2.1, x10.2.2.2.2.2.2.1, x10.2.2.2.2.2.2.2.1, x10.2.2.2.2.2.2.2.2)
 else none
 else none)
 else
 (some (x4.1, x4.2.1, x4.2.2.1, x4.2.2.2.1, x4.2.2.2.2.1, x4.2.2.2.2.2.2.1, x4.2.2.2.2.2.2.2.1, x4.2.2.2.2.2.2.2.2))
def ref03_Sort.L2 (f_ref03_key : Ru → Option LI) (f_ref03_Less : (LI × LI) → Option Int) (n : Nat) (x1 : LR × LR × Int × Int) (rec2 : (LR × LR × Int × Int) → Option LR) : Option LR :=
 bif decide (x1.2.2.2 < x1.2.2.1) then
 ((nth? x1.2.1 x1.2.2.2).bind fun e3 =>
 (loopN (ref03_Sort.L1 f_ref03_key f_ref03_Less) n (x1.1, e3.1, e3.2.1, e3.2.2, (0 : Int), ((List.length x1.1 : Nat) : Int), x1.2.1, x1.2.2.1, x1.2.2.2)).bind fun x11 =>
 (bif decide (x11.2.2.2.2.1 = ((List.length x11.1 : Nat) : Int)) then
 (some (x11.1, x11.2.1, x11.2.2.1, x11.2.2.2.1, x11.2.2.2.2.1, x11.2.2.2.2.2.1, x11.2.2.2.2.2.2.1, x11.2.2.2.2.2.2.2, true))
 else
 (bif decide (0 ≤ x11.2.2.2.2.1) && decide (x11.2.2.2.2.1 < ((List.length x11.1 : Nat) : Int)) then
 (at? x11.1 (Int.toNat x11.2.2.2.2.1)).bind fun e12 =>
 (f_ref03_key (e12.1, e12.2.1, e12.2.2)).bind fun r13 =>
 (f_ref03_key (x11.2.1, x11.2.2.1, x11.2.2.2.1)).bind fun r14 =>
 (f_ref03_Less (r13, r14)).bind fun r15 =>
 some (x11.1, x11.2.1, x11.2.2.1, x11.2.2.2.1, x11.2.2.2.2.1, x11.2.2.2.2.2.1, x11.2.2.2.2.2.2.1, x11.2.2.2.2.2.2.2, !decide (r15 = (0 : Int)))
 else none)).bind fun x16 =>
 (bif x16.2.2.2.2.2.2.2.2 then
 (bif decide (List.length x16.1 + List.length ([((0 : Int), ([] : List Int), (0 : Int))] : List Ru) ≤ maxRows) then
 bif decide (0 ≤ (IntKind.wrap .i64 (x16.2.2.2.2.1 + (1 : Int)))) && decide ((IntKind.wrap .i64 (x16.2.2.2.2.1 + (1 : Int))) ≤ ((List.length (List.append x16.1 ([((0 : Int), ([] : List Int), (0 : Int))] : List Ru)) : Nat) : Int)) && decide (((List.length (List.append x16.1 ([((0 : Int), ([] : List Int), (0 : Int))] : List Ru)) : Nat) : Int) ≤ ((List.length (List.append x16.1 ([((0 : Int), ([] : List Int), (0 : Int))] : List Ru)) : Nat) : Int)) then
 bif decide (0 ≤ x16.2.2.2.2.1) && decide (x16.2.2.2.2.1 ≤ ((List.length (List.append x16.1 ([((0 : Int), ([] : List Int), (0 : Int))] : List Ru)) : Nat) : Int)) && decide (((List.length (List.append x16.1 ([((0 : Int), ([] : List Int), (0 : Int))] : List Ru)) : Nat) : Int) ≤ ((List.length (List.append x16.1 ([((0 : Int), ([] : List Int), (0 : Int))] : List Ru)) : Nat) : Int)) then
 bif decide (0 ≤ x16.2.2.2.2.1) && decide (x16.2.2.2.2.1 < ((List.length (List.append (List.append (List.take (Int.toNat (IntKind.wrap .i64 (x16.2.2.2.2.1 + (1 : Int)))) (List.append x16.1 ([((0 : Int), ([] : List Int), (0 : Int))] : List Ru))) (List.take (Nat.min (List.length (List.drop (Int.toNat x16.2.2.2.2.1) (List.take (Int.toNat ((List.length (List.append x16.1 ([((0 : Int), ([] : List Int), (0 : Int))] : List Ru)) : Nat) : Int)) (List.append x16.1 ([((0 : Int), ([] : List Int), (0 : Int))] : List Ru))))) ((Int.toNat ((List.length (List.append x16.1 ([((0 : Int), ([] : List Int), (0 : Int))] : List Ru)) : Nat) : Int)) - (Int.toNat (IntKind.wrap .i64 (x16.2.2.2.2.1 + (1 : Int)))))) (List.drop (Int.toNat x16.2.2.2.2.1) (List.take (Int.toNat ((List.length (List.append x16.1 ([((0 : Int), ([] : List Int), (0 : Int))] : List Ru)) : Nat) : Int)) (List.append x16.1 ([((0 : Int), ([] : List Int), (0 : Int))] : List Ru)))))) (List.drop ((Int.toNat (IntKind.wrap .i64 (x16.2.2.2.2.1 + (1 : Int)))) + (Nat.min (List.length (List.drop (Int.toNat x16.2.2.2.2.1) (List.take (Int.toNat ((List.length (List.append x16.1 ([((0 : Int), ([] : List Int), (0 : Int))] : List Ru)) : Nat) : Int)) (List.append x16.1 ([((0 : Int), ([] : List Int), (0 : Int))] : List Ru))))) ((Int.toNat ((List.length (List.append x16.1 ([((0 : Int), ([] : List Int), (0 : Int))] : List Ru)) : Nat) : Int)) - (Int.toNat (IntKind.wrap .i64 (x16.2.2.2.2.1 + (1 : Int))))))) (List.append x16.1 ([((0 : Int), ([] : List Int), (0 : Int))] : List Ru)))) : Nat) : Int)) then
 (at? (List.append (List.append (List.take (Int.toNat (IntKind.wrap .i64 (x16.2.2.2.2.1 + (1 : Int)))) (List.append x16.1 ([((0 : Int), ([] : List Int), (0 : Int))] : List Ru))) (List.take (Nat.min (List.length (List.drop (Int.toNat x16.2.2.2.2.1) (List.take (Int.toNat ((List.length (List.append x16.1 ([((0 : Int), ([] : List Int), (0 : Int))] : List Ru)) : Nat) : Int)) (List.append x16.1 ([((0 : Int), ([] : List Int), (0 : Int))] : List Ru))))) ((Int.toNat ((List.length (List.append x16.1 ([((0 : Int), ([] : List Int), (0 : Int))] : List Ru)) : Nat) : Int)) - (Int.toNat (IntKind.wrap .i64 (x16.2.2.2.2.1 + (1 : Int)))))) (List.drop (Int.toNat x16.2.2.2.2.1) (List.take (Int.toNat ((List.length (List.append x16.1 ([((0 : Int), ([] : List Int), (0 : Int))] : List Ru)) : Nat) : Int)) (List.append x16.1 ([((0 : Int), ([] : List Int), (0 : Int))] : List Ru)))))) (List.drop ((Int.toNat (IntKind.wrap .i64 (x16.2.2.2.2.1 + (1 : Int)))) + (Nat.min (List.length (List.drop (Int.toNat x16.2.2.2.2.1) (List.take (Int.toNat ((List.length (List.append x16.1 ([((0 : Int), ([] : List Int), (0 : Int))] : List Ru)) : Nat) : Int)) (List.append x16.1 ([((0 : Int), ([] : List Int), (0 : Int))] : List Ru))))) ((Int.toNat ((List.length (List.append x16.1 ([((0 : Int), ([] : List Int), (0 : Int))] : List Ru)) : Nat) : Int)) - (Int.toNat (IntKind.wrap .i64 (x16.2.2.2.2.1 + (1 : Int))))))) (List.append x16.1 ([((0 : Int), ([] : List Int), (0 : Int))] : List Ru)))) (Int.toNat x16.2.2.2.2.1)).bind fun e17 =>
 some (List.set (List.append (List.append (List.take (Int.toNat (IntKind.wrap .i64 (x16.2.2.2.2.1 + (1 : Int)))) (List.append x16.1 ([((0 : Int), ([] : List Int), (0 : Int))] : List Ru))) (List.take (Nat.min (List.length (List.drop (Int.toNat x16.2.2.2.2.1) (List.take (Int.toNat ((List.length (List.append x16.1 ([((0 : Int), ([] : List Int), (0 : Int))] : List Ru)) : Nat) : Int)) (List.append x16.1 ([((0 : Int), ([] : List Int), (0 : Int))] : List Ru))))) ((Int.toNat ((List.length (List.append x16.1 ([((0 : Int), ([] : List Int), (0 : Int))] : List Ru)) : Nat) : Int)) - (Int.toNat (IntKind.wrap .i64 (x16.2.2.2.2.1 + (1 : Int)))))) (List.drop (Int.toNat x16.2.2.2.2.1) (List.take (Int.toNat ((List.length (List.append x16.1 ([((0 : Int), ([] : List Int), (0 : Int))] : List Ru)) : Nat) : Int)) (List.append x16.1 ([((0 : Int), ([] : List Int), (0 : Int))] : List Ru)))))) (List.drop ((Int.toNat (IntKind.wrap .i64 (x16.2.2.2.2.1 + (1 : Int)))) + (Nat.min (List.length (List.drop (Int.toNat x16.2.2.2.2.1) (List.take (Int.toNat ((List.length (List.append x16.1 ([((0 : Int), ([] : List Int), (0 : Int))] : List Ru)) : Nat) : Int)) (List.append x16.1 ([((0 : Int), ([] : List Int), (0 : Int))] : List Ru))))) ((Int.toNat ((List.length (List.append x16.1 ([((0 : Int), ([] : List Int), (0 : Int))] : List Ru)) : Nat) : Int)) - (Int.toNat (IntKind.wrap .i64 (x16.2.2.2.2.1 + (1 : Int))))))) (List.append x16.1 ([((0 : Int), ([] : List Int), (0 : Int))] : List Ru)))) (Int.toNat x16.2.2.2.2.1) (x16.2.1, x16.2.2.1, x16.2.2.2.1), x16.2.2.2.2.2.1, x16.2.2.2.2.2.2.1, x16.2.2.2.2.2.2.2.1)
 else none
 else none
 else none
 else none)
 else
 (some (x16.1, x16.2.2.2.2.2.1, x16.2.2.2.2.2.2.1, x16.2.2.2.2.2.2.2.1))).bind fun x18 =>
 rec2 (x18.1, x18.2.1, x18.2.2.1, IntKind.wrap .i64 (x18.2.2.2 + (1 : Int))))
 else
 (some x1.1)
def ref03_Sort.P (f_ref03_Less : (LI × LI) → Option Int) (f_ref03_key : Ru → Option LI) (n : Nat) (x : List Ru) : Option LR :=
 (loopN (ref03_Sort.L2 f_ref03_key f_ref03_Less n) n (([] : List Ru), x, ((List.length x : Nat) : Int), (0 : Int))).bind fun x19 =>
 some x19
/-! boskage/boskageref03.Keep -/
def ref03_Keep.L1 (x1 : (List Bool) × Int × LI × LR × Int × LI × LR × LI × Int × LI × LR × (List Bool) × Int × Int) (rec2 : ((List Bool) × Int × LI × LR × Int × LI × LR × LI × Int × LI × LR × (List Bool) × Int × Int) → Option ((List Bool) × Int × LI × LR × Int × LI × LR × LI × Int × LI × LR)) : Option ((List Bool) × Int × LI × LR × Int × LI × LR × LI × Int × LI × LR) :=
 bif decide (x1.2.2.2.2.2.2.2.2.2.2.2.2.2 < x1.2.2.2.2.2.2.2.2.2.2.2.2.1) then
 ((nth? x1.2.2.2.2.2.2.2.2.2.2.2.1 x1.2.2.2.2.2.2.2.2.2.2.2.2.2).bind fun e3 =>
 (bif e3 then
 (bif decide (0 ≤ x1.2.2.2.2.2.2.2.2.2.2.2.2.2) && decide (x1.2.2.2.2.2.2.2.2.2.2.2.2.2 < ((List.length x1.2.2.2.2.2.2.2.1 : Nat) : Int)) then
 (at? x1.2.2.2.2.2.2.2.1 (Int.toNat x1.2.2.2.2.2.2.2.2.2.2.2.2.2)).bind fun e4 =>
 some (x1.1, x1.2.1, x1.2.2.1, x1.2.2.2.1, x1.2.2.2.2.1, x1.2.2.2.2.2.1, x1.2.2.2.2.2.2.1, List.set x1.2.2.2.2.2.2.2.1 (Int.toNat x1.2.2.2.2.2.2.2.2.2.2.2.2.2) x1.2.2.2.2.2.2.2.2.1, IntKind.wrap .i64 (x1.2.2.2.2.2.2.2.2.1 + (1 : Int)), x1.2.2.2.2.2.2.2.2.2.1, x1.2.2.2.2.2.2.2.2.2.2.1, x1.2.2.2.2.2.2.2.2.2.2.2.1, x1.2.2.2.2.2.2.2.2.2.2.2.2.1, x1.2.2.2.2.2.2.2.2.2.2.2.2.2)
 else none)
 else
 (some (x1.1, x1.2.1, x1.2.2.1, x1.2.2.2.1, x1.2.2.2.2.1, x1.2.2.2.2.2.1, x1.2.2.2.2.2.2.1, x1.2.2.2.2.2.2.2.1, x1.2.2.2.2.2.2.2.2.1, x1.2.2.2.2.2.2.2.2.2.1, x1.2.2.2.2.2.2.2.2.2.2.1, x1.2.2.2.2.2.2.2.2.2.2.2.1, x1.2.2.2.2.2.2.2.2.2.2.2.2.1, x1.2.2.2.2.2.2.2.2.2.2.2.2.2))).bind fun x5 =>
 rec2 (x5.1, x5.2.1, x5.2.2.1, x5.2.2.2.1, x5.2.2.2.2.1, x5.2.2.2.2.2.1, x5.2.2.2.2.2.2.1, x5.2.2.2.2.2.2.2.1, x5.2.2.2.2.2.2.2.2.1, x5.2.2.2.2.2.2.2.2.2.1, x5.2.2.2.2.2.2.2.2.2.2.1, x5.2.2.2.2.2.2.2.2.2.2.2.1, x5.2.2.2.2.2.2.2.2.2.2.2.2.1, IntKind.wrap .i64 (x5.2.2.2.2.2.2.2.2.2.2.2.2.2 + (1 : Int))))
 else
 (some (x1.1, x1.2.1, x1.2.2.1, x1.2.2.2.1, x1.2.2.2.2.1, x1.2.2.2.2.2.1, x1.2.2.2.2.2.2.1, x1.2.2.2.2.2.2.2.1, x1.2.2.2.2.2.2.2.2.1, x1.2.2.2.2.2.2.2.2.2.1, x1.2.2.2.2.2.2.2.2.2.2.1))
def ref03_Keep.L2 (x7 : (List Bool) × Int × LI × LR × Int × LI × LR × LI × Int × LI × LR × LI × Int × Int) (rec8 : ((List Bool) × Int × LI × LR × Int × LI × LR × LI × Int × LI × LR × LI × Int × Int) → Option ((List Bool) × Int × LI × LR × Int × LI × LR × LI × Int × LI × LR)) : Option ((List Bool) × Int × LI × LR × Int × LI × LR × LI × Int × LI × LR) :=
 bif decide (x7.2.2.2.2.2.2.2.2.2.2.2.2.2 < x7.2.2.2.2.2.2.2.2.2.2.2.2.1) then
 ((nth? x7.2.2.2.2.2.2.2.2.2.2.2.1 x7.2.2.2.2.2.2.2.2.2.2.2.2.2).bind fun e9 =>
 (nth? x7.1 e9).bind fun e10 =>
 (bif e10 then
 (bif decide (0 ≤ e9) && decide (e9 < ((List.length x7.2.2.2.2.2.2.2.1 : Nat) : Int)) then
 (at? x7.2.2.2.2.2.2.2.1 (Int.toNat e9)).bind fun e11 =>
 bif decide (List.length x7.2.2.2.2.2.2.2.2.2.1 + List.length ([e11] : List Int) ≤ maxRows) then
 some (x7.1, x7.2.1, x7.2.2.1, x7.2.2.2.1, x7.2.2.2.2.1, x7.2.2.2.2.2.1, x7.2.2.2.2.2.2.1, x7.2.2.2.2.2.2.2.1, x7.2.2.2.2.2.2.2.2.1, List.append x7.2.2.2.2.2.2.2.2.2.1 ([e11] : List Int), x7.2.2.2.2.2.2.2.2.2.2.1, x7.2.2.2.2.2.2.2.2.2.2.2.1, x7.2.2.2.2.2.2.2.2.2.2.2.2.1, x7.2.2.2.2.2.2.2.2.2.2.2.2.2)
 else none
 else none)
 else
 (some (x7.1, x7.2.1, x7.2.2.1, x7.2.2.2.1, x7.2.2.2.2.1, x7.2.2.2.2.2.1, x7.2.2.2.2.2.2.1, x7.2.2.2.2.2.2.2.1, x7.2.2.2.2.2.2.2.2.1, x7.2.2.2.2.2.2.2.2.2.1, x7.2.2.2.2.2.2.2.2.2.2.1, x7.2.2.2.2.2.2.2.2.2.2.2.1, x7.2.2.2.2.2.2.2.2.2.2.2.2.1, x7.2.2.2.2.2.2.2.2.2.2.2.2.2))).bind fun x12 =>
 rec8 (x12.1, x12.2.1, x12.2.2.1, x12.2.2.2.1, x12.2.2.2.2.1, x12.2.2.2.2.2.1, x12.2.2.2.2.2.2.1, x12.2.2.2.2.2.2.2.1, x12.2.2.2.2.2.2.2.2.1, x12.2.2.2.2.2.2.2.2.2.1, x12.2.2.2.2.2.2.2.2.2.2.1, x12.2.2.2.2.2.2.2.2.2.2.2.1, x12.2.2.2.2.2.2.2.2.2.2.2.2.1, IntKind.wrap .i64 (x12.2.2.2.2.2.2.2.2.2.2.2.2.2 + (1 : Int))))
 else
 (some (x7.1, x7.2.1, x7.2.2.1, x7.2.2.2.1, x7.2.2.2.2.1, x7.2.2.2.2.2.1, x7.2.2.2.2.2.2.1, x7.2.2.2.2.2.2.2.1, x7.2.2.2.2.2.2.2.2.1, x7.2.2.2.2.2.2.2.2.2.1, x7.2.2.2.2.2.2.2.2.2.2.1))
def ref03_Keep.L3 (x18 : (List Bool) × Int × LI × LR × LI × Int × LI × LR × Int × LI × Int × Bool × LI × LR × Int × Int × LI × Int × Int) (rec19 : ((List Bool) × Int × LI × LR × LI × Int × LI × LR × Int × LI × Int × Bool × LI × LR × Int × Int × LI × Int × Int) → Option ((List Bool) × Int × LI × LR × LI × Int × LI × LR × Int × LI × Int × Bool × LI × LR × Int × Int)) : Option ((List Bool) × Int × LI × LR × LI × Int × LI × LR × Int × LI × Int × Bool × LI × LR × Int × Int) :=
 bif decide (x18.2.2.2.2.2.2.2.2.2.2.2.2.2.2.2.2.2.2 < x18.2.2.2.2.2.2.2.2.2.2.2.2.2.2.2.2.2.1) then
 ((nth? x18.2.2.2.2.2.2.2.2.2.2.2.2.2.2.2.2.1 x18.2.2.2.2.2.2.2.2.2.2.2.2.2.2.2.2.2.2).bind fun e20 =>
 (bif x18.2.2.2.2.2.2.2.2.2.2.2.1 then
 ((nth? x18.1 e20).bind fun e21 =>
 some (x18.1, x18.2.1, x18.2.2.1, x18.2.2.2.1, x18.2.2.2.2.1, x18.2.2.2.2.2.1, x18.2.2.2.2.2.2.1, x18.2.2.2.2.2.2.2.1, x18.2.2.2.2.2.2.2.2.1, x18.2.2.2.2.2.2.2.2.2.1, x18.2.2.2.2.2.2.2.2.2.2.1, e21, x18.2.2.2.2.2.2.2.2.2.2.2.2.1, e20, x18.2.2.2.2.2.2.2.2.2.2.2.2.2.1, x18.2.2.2.2.2.2.2.2.2.2.2.2.2.2.1, x18.2.2.2.2.2.2.2.2.2.2.2.2.2.2.2.1, x18.2.2.2.2.2.2.2.2.2.2.2.2.2.2.2.2.1, x18.2.2.2.2.2.2.2.2.2.2.2.2.2.2.2.2.2.1, x18.2.2.2.2.2.2.2.2.2.2.2.2.2.2.2.2.2.2))
 else
 (some (x18.1, x18.2.1, x18.2.2.1, x18.2.2.2.1, x18.2.2.2.2.1, x18.2.2.2.2.2.1, x18.2.2.2.2.2.2.1, x18.2.2.2.2.2.2.2.1, x18.2.2.2.2.2.2.2.2.1, x18.2.2.2.2.2.2.2.2.2.1, x18.2.2.2.2.2.2.2.2.2.2.1, false, x18.2.2.2.2.2.2.2.2.2.2.2.2.1, e20, x18.2.2.2.2.2.2.2.2.2.2.2.2.2.1, x18.2.2.2.2.2.2.2.2.2.2.2.2.2.2.1, x18.2.2.2.2.2.2.2.2.2.2.2.2.2.2.2.1, x18.2.2.2.2.2.2.2.2.2.2.2.2.2.2.2.2.1, x18.2.2.2.2.2.2.2.2.2.2.2.2.2.2.2.2.2.1, x18.2.2.2.2.2.2.2.2.2.2.2.2.2.2.2.2.2.2))).bind fun x22 =>
 bif decide (0 ≤ x22.2.2.2.2.2.2.2.2.2.2.2.2.2.1) && decide (x22.2.2.2.2.2.2.2.2.2.2.2.2.2.1 < ((List.length x22.2.2.2.2.1 : Nat) : Int)) then
 (at? x22.2.2.2.2.1 (Int.toNat x22.2.2.2.2.2.2.2.2.2.2.2.2.2.1)).bind fun e23 =>
 bif decide (List.length x22.2.2.2.2.2.2.2.2.2.2.2.2.1 + List.length ([e23] : List Int) ≤ maxRows) then
 rec19 (x22.1, x22.2.1, x22.2.2.1, x22.2.2.2.1, x22.2.2.2.2.1, x22.2.2.2.2.2.1, x22.2.2.2.2.2.2.1, x22.2.2.2.2.2.2.2.1, x22.2.2.2.2.2.2.2.2.1, x22.2.2.2.2.2.2.2.2.2.1, x22.2.2.2.2.2.2.2.2.2.2.1, x22.2.2.2.2.2.2.2.2.2.2.2.1, List.append x22.2.2.2.2.2.2.2.2.2.2.2.2.1 ([e23] : List Int), x22.2.2.2.2.2.2.2.2.2.2.2.2.2.2.1, x22.2.2.2.2.2.2.2.2.2.2.2.2.2.2.2.1, x22.2.2.2.2.2.2.2.2.2.2.2.2.2.2.2.2.1, x22.2.2.2.2.2.2.2.2.2.2.2.2.2.2.2.2.2.1, x22.2.2.2.2.2.2.2.2.2.2.2.2.2.2.2.2.2.2.1, IntKind.wrap .i64 (x22.2.2.2.2.2.2.2.2.2.2.2.2.2.2.2.2.2.2.2 + (1 : Int)))
 else none
 else none)
 else
 (some (x18.1, x18.2.1, x18.2.2.1, x18.2.2.2.1, x18.2.2.2.2.1, x18.2.2.2.2.2.1, x18.2.2.2.2.2.2.1, x18.2.2.2.2.2.2.2.1, x18.2.2.2.2.2.2.2.2.1, x18.2.2.2.2.2.2.2.2.2.1, x18.2.2.2.2.2.2.2.2.2.2.1, x18.2.2.2.2.2.2.2.2.2.2.2.1, x18.2.2.2.2.2.2.2.2.2.2.2.2.1, x18.2.2.2.2.2.2.2.2.2.2.2.2.2.1, x18.2.2.2.2.2.2.2.2.2.2.2.2.2.2.1, x18.2.2.2.2.2.2.2.2.2.2.2.2.2.2.2.1))
def ref03_Keep.L4 (n : Nat) (x14 : (List Bool) × Int × LI × LR × LI × Int × LI × LR × LR × Int × Int) (rec15 : ((List Bool) × Int × LI × LR × LI × Int × LI × LR × LR × Int × Int) → Option (Int × LI × LR × Int × LI × LR)) : Option (Int × LI × LR × Int × LI × LR) :=
 bif decide (x14.2.2.2.2.2.2.2.2.2.2 < x14.2.2.2.2.2.2.2.2.2.1) then
 ((nth? x14.2.2.2.2.2.2.2.2.1 x14.2.2.2.2.2.2.2.2.2.2).bind fun e16 =>
 (nth? x14.1 e16.2.2).bind fun e17 =>
 (loopN (ref03_Keep.L3) n (x14.1, x14.2.1, x14.2.2.1, x14.2.2.2.1, x14.2.2.2.2.1, x14.2.2.2.2.2.1, x14.2.2.2.2.2.2.1, x14.2.2.2.2.2.2.2.1, e16.1, e16.2.1, e16.2.2, e17, ([] : List Int), x14.2.2.2.2.2.2.2.2.1, x14.2.2.2.2.2.2.2.2.2.1, x14.2.2.2.2.2.2.2.2.2.2, e16.2.1, ((List.length e16.2.1 : Nat) : Int), (0 : Int))).bind fun x24 =>
 (bif x24.2.2.2.2.2.2.2.2.2.2.2.1 then
 (bif decide (0 ≤ x24.2.2.2.2.2.2.2.2.2.2.1) && decide (x24.2.2.2.2.2.2.2.2.2.2.1 < ((List.length x24.2.2.2.2.1 : Nat) : Int)) then
 (at? x24.2.2.2.2.1 (Int.toNat x24.2.2.2.2.2.2.2.2.2.2.1)).bind fun e25 =>
 bif decide (List.length x24.2.2.2.2.2.2.2.1 + List.length ([(x24.2.2.2.2.2.2.2.2.1, x24.2.2.2.2.2.2.2.2.2.2.2.2.1, e25)] : List Ru) ≤ maxRows) then
 some (x24.1, x24.2.1, x24.2.2.1, x24.2.2.2.1, x24.2.2.2.2.1, x24.2.2.2.2.2.1, x24.2.2.2.2.2.2.1, List.append x24.2.2.2.2.2.2.2.1 ([(x24.2.2.2.2.2.2.2.2.1, x24.2.2.2.2.2.2.2.2.2.2.2.2.1, e25)] : List Ru), x24.2.2.2.2.2.2.2.2.2.2.2.2.2.1, x24.2.2.2.2.2.2.2.2.2.2.2.2.2.2.1, x24.2.2.2.2.2.2.2.2.2.2.2.2.2.2.2)
 else none
 else none)
 else
 (some (x24.1, x24.2.1, x24.2.2.1, x24.2.2.2.1, x24.2.2.2.2.1, x24.2.2.2.2.2.1, x24.2.2.2.2.2.2.1, x24.2.2.2.2.2.2.2.1, x24.2.2.2.2.2.2.2.2.2.2.2.2.2.1, x24.2.2.2.2.2.2.2.2.2.2.2.2.2.2.1, x24.2.2.2.2.2.2.2.2.2.2.2.2.2.2.2))).bind fun x26 =>
 rec15 (x26.1, x26.2.1, x26.2.2.1, x26.2.2.2.1, x26.2.2.2.2.1, x26.2.2.2.2.2.1, x26.2.2.2.2.2.2.1, x26.2.2.2.2.2.2.2.1, x26.2.2.2.2.2.2.2.2.1, x26.2.2.2.2.2.2.2.2.2.1, IntKind.wrap .i64 (x26.2.2.2.2.2.2.2.2.2.2 + (1 : Int))))
 else
 (some (x14.2.1, x14.2.2.1, x14.2.2.2.1, x14.2.2.2.2.2.1, x14.2.2.2.2.2.2.1, x14.2.2.2.2.2.2.2.1))
def ref03_Keep.P (f_ref03_Sort : List Ru → Option LR) (n : Nat) (x : Int × LI × LR × (List Bool)) : Option (Int × LI × LR) :=
 bif decide (0 ≤ x.1) && decide (x.1 ≤ x.1) && decide (x.1 ≤ ((maxRows : Nat) : Int)) then
 (loopN (ref03_Keep.L1) n (x.2.2.2, x.1, x.2.1, x.2.2.1, (0 : Int), ([] : List Int), ([] : List Ru), List.replicate (Int.toNat x.1) ((0 : Int) : Int), (0 : Int), ([] : List Int), ([] : List Ru), x.2.2.2, ((List.length x.2.2.2 : Nat) : Int), (0 : Int))).bind fun x6 =>
 (loopN (ref03_Keep.L2) n (x6.1, x6.2.1, x6.2.2.1, x6.2.2.2.1, x6.2.2.2.2.1, x6.2.2.2.2.2.1, x6.2.2.2.2.2.2.1, x6.2.2.2.2.2.2.2.1, x6.2.2.2.2.2.2.2.2.1, x6.2.2.2.2.2.2.2.2.2.1, x6.2.2.2.2.2.2.2.2.2.2, x6.2.2.1, ((List.length x6.2.2.1 : Nat) : Int), (0 : Int))).bind fun x13 =>
 (loopN (ref03_Keep.L4 n) n (x13.1, x13.2.2.2.2.1, x13.2.2.2.2.2.1, x13.2.2.2.2.2.2.1, x13.2.2.2.2.2.2.2.1, x13.2.2.2.2.2.2.2.2.1, x13.2.2.2.2.2.2.2.2.2.1, x13.2.2.2.2.2.2.2.2.2.2, x13.2.2.2.1, ((List.length x13.2.2.2.1 : Nat) : Int), (0 : Int))).bind fun x27 =>
 (f_ref03_Sort x27.2.2.2.2.2).bind fun r28 =>
 some (x27.2.2.2.1, x27.2.2.2.2.1, r28)
 else none
/-! boskage/boskageref03.Trimmed -/
def ref03_Trimmed.P (f_ref03_Keep : (Int × LI × LR × (List Bool)) → Option (Int × LI × LR)) (f_ref03_Used : (Int × LI × LR) → Option (List Bool)) (n : Nat) (x : Int × LI × LR) : Option (Int × LI × LR) :=
 (f_ref03_Used (x.1, x.2.1, x.2.2)).bind fun r1 =>
 (f_ref03_Keep (x.1, x.2.1, x.2.2, r1)).bind fun r2 =>
 some (r2.1, r2.2.1, r2.2.2)
/-! boskage/boskageref03.Power -/
def ref03_Power.L1 (x1 : Int × Int × Int × Int) (rec2 : (Int × Int × Int × Int) → Option Int) : Option Int :=
 bif decide (x1.2.2.2 < x1.2.2.1) then
 (rec2 (x1.1, min (IntKind.wrap .i64 (x1.2.1 * x1.1)) (1099511627776 : Int), x1.2.2.1, IntKind.wrap .i64 (x1.2.2.2 + (1 : Int))))
 else
 (some x1.2.1)
def ref03_Power.P (n : Nat) (x : Int × Int) : Option Int :=
 (loopN (ref03_Power.L1) n (x.1, (1 : Int), x.2, (0 : Int))).bind fun x3 =>
 some x3
/-! boskage/boskageref04.Bits -/
def ref04_Bits.P (f_ref03_Power : (Int × Int) → Option Int) (f_ref03_Trimmed : (Int × LI × LR) → Option (Int × LI × LR)) (n : Nat) (x : Int × LI × LR) : Option Int :=
 (f_ref03_Trimmed (x.1, x.2.1, x.2.2)).bind fun r1 =>
 (f_ref03_Power ((2 : Int), r1.1)).bind fun r2 =>
 some r2
/-! boskage/boskageref01.List -/
def ref01_List.L1 (x1 : LI × LI × Int × Int) (rec2 : (LI × LI × Int × Int) → Option (Sum Unit Bool)) : Option (Sum Unit Bool) :=
 bif decide (x1.2.2.2 < x1.2.2.1) then
 ((nth? x1.1 x1.2.2.2).bind fun e3 =>
 (nth? x1.2.1 x1.2.2.2).bind fun e4 =>
 bif !decide (e3 = e4) then
 ((some false).bind fun r => some (Sum.inr r))
 else
 (rec2 (x1.1, x1.2.1, x1.2.2.1, IntKind.wrap .i64 (x1.2.2.2 + (1 : Int)))))
 else
 (some (Sum.inl ()))
def ref01_List.P (n : Nat) (x : LI × LI) : Option Bool :=
 bif !decide (((List.length x.1 : Nat) : Int) = ((List.length x.2 : Nat) : Int)) then
 (some false)
 else
 ((loopN (ref01_List.L1) n (x.1, x.2, ((List.length x.1 : Nat) : Int), (0 : Int))).bind fun q => match q with
 | Sum.inl x5 => (some true)
 | Sum.inr r => some r)
end Go.Bk
end
noncomputable section
namespace Go.Bk
open Go Go.AM
set_option maxRecDepth 100000
set_option linter.unusedVariables false
/-! boskage/boskageref03.One -/
def ref03_One.L1 (f_ref01_List : (LI × LI) → Option Bool) (x4 : Int × LI × LR × Int × LI × Int × LR × Int × Int × LR × Int × Int) (rec5 : (Int × LI × LR × Int × LI × Int × LR × Int × Int × LR × Int × Int) → Option (Sum (Int × LI × LR × LR × Int × Int) (Sum Unit Bool))) : Option (Sum (Int × LI × LR × LR × Int × Int) (Sum Unit Bool)) :=
 bif decide (x4.2.2.2.2.2.2.2.2.2.2.2 < x4.2.2.2.2.2.2.2.2.2.2.1) then
 ((nth? x4.2.2.2.2.2.2.2.2.2.1 x4.2.2.2.2.2.2.2.2.2.2.2).bind fun e6 =>
 (bif decide (x4.2.2.2.1 = e6.1) then
 ((f_ref01_List (x4.2.2.2.2.1, e6.2.1)).bind fun r7 =>
 some (x4.1, x4.2.1, x4.2.2.1, x4.2.2.2.1, x4.2.2.2.2.1, x4.2.2.2.2.2.1, x4.2.2.2.2.2.2.1, x4.2.2.2.2.2.2.2.1, x4.2.2.2.2.2.2.2.2.1, x4.2.2.2.2.2.2.2.2.2.1, x4.2.2.2.2.2.2.2.2.2.2.1, x4.2.2.2.2.2.2.2.2.2.2.2, r7))
 else
 (some (x4.1, x4.2.1, x4.2.2.1, x4.2.2.2.1, x4.2.2.2.2.1, x4.2.2.2.2.2.1, x4.2.2.2.2.2.2.1, x4.2.2.2.2.2.2.2.1, x4.2.2.2.2.2.2.2.2.1, x4.2.2.2.2.2.2.2.2.2.1, x4.2.2.2.2.2.2.2.2.2.2.1, x4.2.2.2.2.2.2.2.2.2.2.2, false))).bind fun x8 =>
 bif x8.2.2.2.2.2.2.2.2.2.2.2.2 then
 (((some false).bind fun r => some (Sum.inr r)).bind fun r => some (Sum.inr r))
 else
 (rec5 (x8.1, x8.2.1, x8.2.2.1, x8.2.2.2.1, x8.2.2.2.2.1, x8.2.2.2.2.2.1, x8.2.2.2.2.2.2.1, x8.2.2.2.2.2.2.2.1, x8.2.2.2.2.2.2.2.2.1, x8.2.2.2.2.2.2.2.2.2.1, x8.2.2.2.2.2.2.2.2.2.2.1, IntKind.wrap .i64 (x8.2.2.2.2.2.2.2.2.2.2.2.1 + (1 : Int)))))
 else
 (some (Sum.inl (x4.1, x4.2.1, x4.2.2.1, x4.2.2.2.2.2.2.1, x4.2.2.2.2.2.2.2.1, x4.2.2.2.2.2.2.2.2.1)))
def ref03_One.L2 (f_ref01_List : (LI × LI) → Option Bool) (n : Nat) (x1 : Int × LI × LR × LR × Int × Int) (rec2 : (Int × LI × LR × LR × Int × Int) → Option (Sum Unit Bool)) : Option (Sum Unit Bool) :=
 bif decide (x1.2.2.2.2.2 < x1.2.2.2.2.1) then
 ((nth? x1.2.2.2.1 x1.2.2.2.2.2).bind fun e3 =>
 bif decide (0 ≤ 0) && decide (0 ≤ x1.2.2.2.2.2) && decide (x1.2.2.2.2.2 ≤ ((List.length x1.2.2.1 : Nat) : Int)) then
 (loopN (ref03_One.L1 f_ref01_List) n (x1.1, x1.2.1, x1.2.2.1, e3.1, e3.2.1, e3.2.2, x1.2.2.2.1, x1.2.2.2.2.1, x1.2.2.2.2.2, List.drop (Int.toNat 0) (List.take (Int.toNat x1.2.2.2.2.2) x1.2.2.1), ((List.length (List.drop (Int.toNat 0) (List.take (Int.toNat x1.2.2.2.2.2) x1.2.2.1)) : Nat) : Int), (0 : Int))).bind fun q => match q with
 | Sum.inl x9 => (rec2 (x9.1, x9.2.1, x9.2.2.1, x9.2.2.2.1, x9.2.2.2.2.1, IntKind.wrap .i64 (x9.2.2.2.2.2 + (1 : Int))))
 | Sum.inr r => some r
 else none)
 else
 (some (Sum.inl ()))
def ref03_One.P (f_ref01_List : (LI × LI) → Option Bool) (n : Nat) (x : Int × LI × LR) : Option Bool :=
 (loopN (ref03_One.L2 f_ref01_List n) n (x.1, x.2.1, x.2.2, x.2.2, ((List.length x.2.2 : Nat) : Int), (0 : Int))).bind fun q => match q with
 | Sum.inl x10 => (some true)
 | Sum.inr r => some r
/-! boskage/boskageref03.Full -/
def ref03_Full.L1 (f_ref03_Power : (Int × Int) → Option Int) (x1 : Int × Int × LI × Int × Int) (rec2 : (Int × Int × LI × Int × Int) → Option Int) : Option Int :=
 bif decide (x1.2.2.2.2 < x1.2.2.2.1) then
 ((nth? x1.2.2.1 x1.2.2.2.2).bind fun e3 =>
 (f_ref03_Power (x1.1, e3)).bind fun r4 =>
 rec2 (x1.1, IntKind.wrap .i64 (x1.2.1 + r4), x1.2.2.1, x1.2.2.2.1, IntKind.wrap .i64 (x1.2.2.2.2 + (1 : Int))))
 else
 (some x1.2.1)
def ref03_Full.P (f_ref03_Power : (Int × Int) → Option Int) (n : Nat) (x : LI × Int) : Option Int :=
 (loopN (ref03_Full.L1 f_ref03_Power) n (x.2, (0 : Int), x.1, ((List.length x.1 : Nat) : Int), (0 : Int))).bind fun x5 =>
 some x5
/-! boskage/boskageref04.Light -/
def ref04_Light.L1 (f_ref04_Bits : (Int × LI × LR) → Option Int) (f_ref03_One : (Int × LI × LR) → Option Bool) (f_ref03_Trimmed : (Int × LI × LR) → Option (Int × LI × LR)) (f_ref03_Full : (LI × Int) → Option Int) (x1 : LI × (List (Int × LI × LR)) × Int × Int) (rec2 : (LI × (List (Int × LI × LR)) × Int × Int) → Option (Sum Unit Bool)) : Option (Sum Unit Bool) :=
 bif decide (x1.2.2.2 < x1.2.2.1) then
 ((nth? x1.2.1 x1.2.2.2).bind fun e3 =>
 (bif decide ((300 : Int) < ((List.length e3.2.2 : Nat) : Int)) then
 (some (x1.1, e3.1, e3.2.1, e3.2.2, x1.2.1, x1.2.2.1, x1.2.2.2, true))
 else
 (some (x1.1, e3.1, e3.2.1, e3.2.2, x1.2.1, x1.2.2.1, x1.2.2.2, decide ((100 : Int) < e3.1)))).bind fun x4 =>
 bif x4.2.2.2.2.2.2.2 then
 ((some false).bind fun r => some (Sum.inr r))
 else
 ((f_ref04_Bits (x4.2.1, x4.2.2.1, x4.2.2.2.1)).bind fun r5 =>
 (f_ref03_One (x4.2.1, x4.2.2.1, x4.2.2.2.1)).bind fun r6 =>
 (bif r6 then
 ((f_ref03_Trimmed (x4.2.1, x4.2.2.1, x4.2.2.2.1)).bind fun r7 =>
 some (x4.1, r7.1, x4.2.2.2.2.1, x4.2.2.2.2.2.1, x4.2.2.2.2.2.2.1))
 else
 (some (x4.1, r5, x4.2.2.2.2.1, x4.2.2.2.2.2.1, x4.2.2.2.2.2.2.1))).bind fun x8 =>
 (f_ref03_Full (x8.1, IntKind.wrap .i64 (x8.2.1 + (1 : Int)))).bind fun r9 =>
 bif decide ((1500 : Int) < r9) then
 ((some false).bind fun r => some (Sum.inr r))
 else
 (rec2 (x8.1, x8.2.2.1, x8.2.2.2.1, IntKind.wrap .i64 (x8.2.2.2.2 + (1 : Int))))))
 else
 (some (Sum.inl ()))
def ref04_Light.P (f_ref03_Full : (LI × Int) → Option Int) (f_ref03_One : (Int × LI × LR) → Option Bool) (f_ref03_Trimmed : (Int × LI × LR) → Option (Int × LI × LR)) (f_ref04_Bits : (Int × LI × LR) → Option Int) (n : Nat) (x : LI × (List (Int × LI × LR))) : Option Bool :=
 (loopN (ref04_Light.L1 f_ref04_Bits f_ref03_One f_ref03_Trimmed f_ref03_Full) n (x.1, x.2, ((List.length x.2 : Nat) : Int), (0 : Int))).bind fun q => match q with
 | Sum.inl x10 => (some true)
 | Sum.inr r => some r
/-! boskage/boskageref04.Lists -/
def ref04_Lists.L1 (x4 : Int × Int × LL × Int × Int × Int × LL × Int × Int) (rec5 : (Int × Int × LL × Int × Int × Int × LL × Int × Int) → Option (Int × Int × LL × Int × Int)) : Option (Int × Int × LL × Int × Int) :=
 bif decide (x4.2.2.2.2.2.2.2.2 < x4.2.2.2.2.2.2.2.1) then
 (bif decide (0 ≤ x4.2.2.2.2.2.2.2.2) && decide (x4.2.2.2.2.2.2.2.2 < ((List.length x4.2.2.2.2.2.2.1 : Nat) : Int)) then
 (at? x4.2.2.2.2.2.2.1 (Int.toNat x4.2.2.2.2.2.2.2.2)).bind fun e6 =>
 bif decide (List.length ([x4.2.2.2.1] : List Int) + List.length e6 ≤ maxRows) then
 bif decide (List.length x4.2.2.1 + List.length ([List.append ([x4.2.2.2.1] : List Int) e6] : List LI) ≤ maxRows) then
 rec5 (x4.1, x4.2.1, List.append x4.2.2.1 ([List.append ([x4.2.2.2.1] : List Int) e6] : List LI), x4.2.2.2.1, x4.2.2.2.2.1, x4.2.2.2.2.2.1, x4.2.2.2.2.2.2.1, x4.2.2.2.2.2.2.2.1, IntKind.wrap .i64 (x4.2.2.2.2.2.2.2.2 + (1 : Int)))
 else none
 else none
 else none)
 else
 (some (x4.1, x4.2.1, x4.2.2.1, x4.2.2.2.2.1, x4.2.2.2.2.2.1))
def ref04_Lists.L2 (f_ref04_Lists : (Int × Int) → Option LL) (n : Nat) (x1 : Int × Int × LL × Int × Int) (rec2 : (Int × Int × LL × Int × Int) → Option LL) : Option LL :=
 bif decide (x1.2.2.2.2 < x1.2.2.2.1) then
 ((f_ref04_Lists (x1.1, IntKind.wrap .i64 (x1.2.1 - (1 : Int)))).bind fun r3 =>
 (loopN (ref04_Lists.L1) n (x1.1, x1.2.1, x1.2.2.1, x1.2.2.2.2, x1.2.2.2.1, x1.2.2.2.2, r3, ((List.length r3 : Nat) : Int), (0 : Int))).bind fun x7 =>
 rec2 (x7.1, x7.2.1, x7.2.2.1, x7.2.2.2.1, IntKind.wrap .i64 (x7.2.2.2.2 + (1 : Int))))
 else
 (some x1.2.2.1)
def ref04_Lists.P (f_ref04_Lists : (Int × Int) → Option LL) (n : Nat) (x : Int × Int) : Option LL :=
 bif decide (x.2 = (0 : Int)) then
 (some ([([] : List Int)] : List LI))
 else
 ((loopN (ref04_Lists.L2 f_ref04_Lists n) n (x.1, x.2, ([] : List LI), x.1, (0 : Int))).bind fun x8 =>
 some x8)
/-! boskage/boskageref04.pick -/
def ref04_pick.L1 (x1 : LL × LL × LI × Int × Int) (rec2 : (LL × LL × LI × Int × Int) → Option LL) : Option LL :=
 bif decide (x1.2.2.2.2 < x1.2.2.2.1) then
 ((nth? x1.2.2.1 x1.2.2.2.2).bind fun e3 =>
 (nth? x1.1 e3).bind fun e4 =>
 bif decide (List.length x1.2.1 + List.length ([e4] : List LI) ≤ maxRows) then
 rec2 (x1.1, List.append x1.2.1 ([e4] : List LI), x1.2.2.1, x1.2.2.2.1, IntKind.wrap .i64 (x1.2.2.2.2 + (1 : Int)))
 else none)
 else
 (some x1.2.1)
def ref04_pick.P (n : Nat) (x : LL × LI) : Option LL :=
 (loopN (ref04_pick.L1) n (x.1, ([] : List LI), x.2, ((List.length x.2 : Nat) : Int), (0 : Int))).bind fun x5 =>
 some x5
/-! boskage/boskageref04.place -/
def ref04_place.L1 (f_ref01_List : (LI × LI) → Option Bool) (x1 : LI × LL × Int × Int) (rec2 : (LI × LL × Int × Int) → Option (Sum Unit Int)) : Option (Sum Unit Int) :=
 bif decide (x1.2.2.2 < x1.2.2.1) then
 ((nth? x1.2.1 x1.2.2.2).bind fun e3 =>
 (f_ref01_List (x1.1, e3)).bind fun r4 =>
 bif r4 then
 ((some x1.2.2.2).bind fun r => some (Sum.inr r))
 else
 (rec2 (x1.1, x1.2.1, x1.2.2.1, IntKind.wrap .i64 (x1.2.2.2 + (1 : Int)))))
 else
 (some (Sum.inl ()))
def ref04_place.P (f_ref01_List : (LI × LI) → Option Bool) (n : Nat) (x : LL × LI) : Option Int :=
 (loopN (ref04_place.L1 f_ref01_List) n (x.2, x.1, ((List.length x.1 : Nat) : Int), (0 : Int))).bind fun q => match q with
 | Sum.inl x5 => (some (-1 : Int))
 | Sum.inr r => some r
/-! boskage/boskageref04.Sets -/
def ref04_Sets.L1 (f_ref04_pick : (LL × LI) → Option LL) (f_ref03_Step : (Int × LI × LR × Int × LL) → Option LI) (f_ref04_place : (LL × LI) → Option Int) (x7 : LI × Int × LI × LR × LL × Int × Int × LI × Int × Int × LL × Int × Int) (rec8 : (LI × Int × LI × LR × LL × Int × Int × LI × Int × Int × LL × Int × Int) → Option (LI × Int × LI × LR × LL × Int × LI × Int × Int)) : Option (LI × Int × LI × LR × LL × Int × LI × Int × Int) :=
 bif decide (x7.2.2.2.2.2.2.2.2.2.2.2.2 < x7.2.2.2.2.2.2.2.2.2.2.2.1) then
 (bif decide (0 ≤ x7.2.2.2.2.2.2.2.2.2.2.2.2) && decide (x7.2.2.2.2.2.2.2.2.2.2.2.2 < ((List.length x7.2.2.2.2.2.2.2.2.2.2.1 : Nat) : Int)) then
 (at? x7.2.2.2.2.2.2.2.2.2.2.1 (Int.toNat x7.2.2.2.2.2.2.2.2.2.2.2.2)).bind fun e9 =>
 bif decide (0 ≤ 0) && decide (0 ≤ x7.2.2.2.2.2.1) && decide (x7.2.2.2.2.2.1 ≤ ((List.length x7.2.2.2.2.1 : Nat) : Int)) then
 (f_ref04_pick (List.drop (Int.toNat 0) (List.take (Int.toNat x7.2.2.2.2.2.1) x7.2.2.2.2.1), e9)).bind fun r10 =>
 (f_ref03_Step (x7.2.1, x7.2.2.1, x7.2.2.2.1, x7.2.2.2.2.2.2.1, r10)).bind fun r11 =>
 (bif decide ((0 : Int) < ((List.length r11 : Nat) : Int)) then
 ((f_ref04_place (x7.2.2.2.2.1, r11)).bind fun r12 =>
 some (x7.1, x7.2.1, x7.2.2.1, x7.2.2.2.1, x7.2.2.2.2.1, x7.2.2.2.2.2.1, x7.2.2.2.2.2.2.1, r11, x7.2.2.2.2.2.2.2.1, x7.2.2.2.2.2.2.2.2.1, x7.2.2.2.2.2.2.2.2.2.1, x7.2.2.2.2.2.2.2.2.2.2.1, x7.2.2.2.2.2.2.2.2.2.2.2.1, x7.2.2.2.2.2.2.2.2.2.2.2.2, decide (r12 < (0 : Int))))
 else
 (some (x7.1, x7.2.1, x7.2.2.1, x7.2.2.2.1, x7.2.2.2.2.1, x7.2.2.2.2.2.1, x7.2.2.2.2.2.2.1, r11, x7.2.2.2.2.2.2.2.1, x7.2.2.2.2.2.2.2.2.1, x7.2.2.2.2.2.2.2.2.2.1, x7.2.2.2.2.2.2.2.2.2.2.1, x7.2.2.2.2.2.2.2.2.2.2.2.1, x7.2.2.2.2.2.2.2.2.2.2.2.2, false))).bind fun x13 =>
 (bif x13.2.2.2.2.2.2.2.2.2.2.2.2.2.2 then
 (bif decide (List.length x13.2.2.2.2.1 + List.length ([x13.2.2.2.2.2.2.2.1] : List LI) ≤ maxRows) then
 some (x13.1, x13.2.1, x13.2.2.1, x13.2.2.2.1, List.append x13.2.2.2.2.1 ([x13.2.2.2.2.2.2.2.1] : List LI), x13.2.2.2.2.2.1, x13.2.2.2.2.2.2.1, x13.2.2.2.2.2.2.2.2.1, x13.2.2.2.2.2.2.2.2.2.1, x13.2.2.2.2.2.2.2.2.2.2.1, x13.2.2.2.2.2.2.2.2.2.2.2.1, x13.2.2.2.2.2.2.2.2.2.2.2.2.1, x13.2.2.2.2.2.2.2.2.2.2.2.2.2.1)
 else none)
 else
 (some (x13.1, x13.2.1, x13.2.2.1, x13.2.2.2.1, x13.2.2.2.2.1, x13.2.2.2.2.2.1, x13.2.2.2.2.2.2.1, x13.2.2.2.2.2.2.2.2.1, x13.2.2.2.2.2.2.2.2.2.1, x13.2.2.2.2.2.2.2.2.2.2.1, x13.2.2.2.2.2.2.2.2.2.2.2.1, x13.2.2.2.2.2.2.2.2.2.2.2.2.1, x13.2.2.2.2.2.2.2.2.2.2.2.2.2.1))).bind fun x14 =>
 rec8 (x14.1, x14.2.1, x14.2.2.1, x14.2.2.2.1, x14.2.2.2.2.1, x14.2.2.2.2.2.1, x14.2.2.2.2.2.2.1, x14.2.2.2.2.2.2.2.1, x14.2.2.2.2.2.2.2.2.1, x14.2.2.2.2.2.2.2.2.2.1, x14.2.2.2.2.2.2.2.2.2.2.1, x14.2.2.2.2.2.2.2.2.2.2.2.1, IntKind.wrap .i64 (x14.2.2.2.2.2.2.2.2.2.2.2.2 + (1 : Int)))
 else none
 else none)
 else
 (some (x7.1, x7.2.1, x7.2.2.1, x7.2.2.2.1, x7.2.2.2.2.1, x7.2.2.2.2.2.1, x7.2.2.2.2.2.2.2.1, x7.2.2.2.2.2.2.2.2.1, x7.2.2.2.2.2.2.2.2.2.1))
def ref04_Sets.L2 (f_ref04_Lists : (Int × Int) → Option LL) (f_ref04_pick : (LL × LI) → Option LL) (f_ref03_Step : (Int × LI × LR × Int × LL) → Option LI) (f_ref04_place : (LL × LI) → Option Int) (n : Nat) (x3 : LI × Int × LI × LR × LL × Int × LI × Int × Int) (rec4 : (LI × Int × LI × LR × LL × Int × LI × Int × Int) → Option (LI × Int × LI × LR × LL × Int)) : Option (LI × Int × LI × LR × LL × Int) :=
 bif decide (x3.2.2.2.2.2.2.2.2 < x3.2.2.2.2.2.2.2.1) then
 ((nth? x3.2.2.2.2.2.2.1 x3.2.2.2.2.2.2.2.2).bind fun e5 =>
 (f_ref04_Lists (x3.2.2.2.2.2.1, e5)).bind fun r6 =>
 (loopN (ref04_Sets.L1 f_ref04_pick f_ref03_Step f_ref04_place) n (x3.1, x3.2.1, x3.2.2.1, x3.2.2.2.1, x3.2.2.2.2.1, x3.2.2.2.2.2.1, x3.2.2.2.2.2.2.2.2, x3.2.2.2.2.2.2.1, x3.2.2.2.2.2.2.2.1, x3.2.2.2.2.2.2.2.2, r6, ((List.length r6 : Nat) : Int), (0 : Int))).bind fun x15 =>
 rec4 (x15.1, x15.2.1, x15.2.2.1, x15.2.2.2.1, x15.2.2.2.2.1, x15.2.2.2.2.2.1, x15.2.2.2.2.2.2.1, x15.2.2.2.2.2.2.2.1, IntKind.wrap .i64 (x15.2.2.2.2.2.2.2.2 + (1 : Int))))
 else
 (some (x3.1, x3.2.1, x3.2.2.1, x3.2.2.2.1, x3.2.2.2.2.1, x3.2.2.2.2.2.1))
def ref04_Sets.L3 (f_ref04_Lists : (Int × Int) → Option LL) (f_ref04_pick : (LL × LI) → Option LL) (f_ref03_Step : (Int × LI × LR × Int × LL) → Option LI) (f_ref04_place : (LL × LI) → Option Int) (n : Nat) (x1 : LI × Int × LI × LR × LL) (rec2 : (LI × Int × LI × LR × LL) → Option (Sum Unit (LL × Bool))) : Option (Sum Unit (LL × Bool)) :=
 (loopN (ref04_Sets.L2 f_ref04_Lists f_ref04_pick f_ref03_Step f_ref04_place n) n (x1.1, x1.2.1, x1.2.2.1, x1.2.2.2.1, x1.2.2.2.2, ((List.length x1.2.2.2.2 : Nat) : Int), x1.1, ((List.length x1.1 : Nat) : Int), (0 : Int))).bind fun x16 =>
 bif decide ((300 : Int) < ((List.length x16.2.2.2.2.1 : Nat) : Int)) then
 ((some (([] : List LI), false)).bind fun r => some (Sum.inr r))
 else
 (bif decide (((List.length x16.2.2.2.2.1 : Nat) : Int) = x16.2.2.2.2.2) then
 ((some (x16.2.2.2.2.1, true)).bind fun r => some (Sum.inr r))
 else
 (rec2 (x16.1, x16.2.1, x16.2.2.1, x16.2.2.2.1, x16.2.2.2.2.1)))
def ref04_Sets.P (f_ref03_Step : (Int × LI × LR × Int × LL) → Option LI) (f_ref04_Lists : (Int × Int) → Option LL) (f_ref04_pick : (LL × LI) → Option LL) (f_ref04_place : (LL × LI) → Option Int) (n : Nat) (x : LI × Int × LI × LR) : Option (LL × Bool) :=
 (loopN (ref04_Sets.L3 f_ref04_Lists f_ref04_pick f_ref03_Step f_ref04_place n) n (x.1, x.2.1, x.2.2.1, x.2.2.2, ([] : List LI))).bind fun q => match q with
 | Sum.inl (_ : Unit) => none
 | Sum.inr r => some r
/-! boskage/boskageref04.Subset -/
def ref04_Subset.L1 (f_ref03_Meet : (LI × LI) → Option Bool) (x3 : LI × Int × LI × LR × Int × LI × LR × LL × Int × LI × LR × LL × Int × Int) (rec4 : (LI × Int × LI × LR × Int × LI × LR × LL × Int × LI × LR × LL × Int × Int) → Option (LI × Int × LI × LR × Int × LI × LR × LL × Int × LI × LR)) : Option (LI × Int × LI × LR × Int × LI × LR × LL × Int × LI × LR) :=
 bif decide (x3.2.2.2.2.2.2.2.2.2.2.2.2.2 < x3.2.2.2.2.2.2.2.2.2.2.2.2.1) then
 ((nth? x3.2.2.2.2.2.2.2.2.2.2.2.1 x3.2.2.2.2.2.2.2.2.2.2.2.2.2).bind fun e5 =>
 (f_ref03_Meet (e5, x3.2.2.1)).bind fun r6 =>
 (bif r6 then
 (bif decide (List.length x3.2.2.2.2.2.2.2.2.2.1 + List.length ([x3.2.2.2.2.2.2.2.2.2.2.2.2.2] : List Int) ≤ maxRows) then
 some (x3.1, x3.2.1, x3.2.2.1, x3.2.2.2.1, x3.2.2.2.2.1, x3.2.2.2.2.2.1, x3.2.2.2.2.2.2.1, x3.2.2.2.2.2.2.2.1, x3.2.2.2.2.2.2.2.2.1, List.append x3.2.2.2.2.2.2.2.2.2.1 ([x3.2.2.2.2.2.2.2.2.2.2.2.2.2] : List Int), x3.2.2.2.2.2.2.2.2.2.2.1, x3.2.2.2.2.2.2.2.2.2.2.2.1, x3.2.2.2.2.2.2.2.2.2.2.2.2.1, x3.2.2.2.2.2.2.2.2.2.2.2.2.2)
 else none)
 else
 (some (x3.1, x3.2.1, x3.2.2.1, x3.2.2.2.1, x3.2.2.2.2.1, x3.2.2.2.2.2.1, x3.2.2.2.2.2.2.1, x3.2.2.2.2.2.2.2.1, x3.2.2.2.2.2.2.2.2.1, x3.2.2.2.2.2.2.2.2.2.1, x3.2.2.2.2.2.2.2.2.2.2.1, x3.2.2.2.2.2.2.2.2.2.2.2.1, x3.2.2.2.2.2.2.2.2.2.2.2.2.1, x3.2.2.2.2.2.2.2.2.2.2.2.2.2))).bind fun x7 =>
 rec4 (x7.1, x7.2.1, x7.2.2.1, x7.2.2.2.1, x7.2.2.2.2.1, x7.2.2.2.2.2.1, x7.2.2.2.2.2.2.1, x7.2.2.2.2.2.2.2.1, x7.2.2.2.2.2.2.2.2.1, x7.2.2.2.2.2.2.2.2.2.1, x7.2.2.2.2.2.2.2.2.2.2.1, x7.2.2.2.2.2.2.2.2.2.2.2.1, x7.2.2.2.2.2.2.2.2.2.2.2.2.1, IntKind.wrap .i64 (x7.2.2.2.2.2.2.2.2.2.2.2.2.2 + (1 : Int))))
 else
 (some (x3.1, x3.2.1, x3.2.2.1, x3.2.2.2.1, x3.2.2.2.2.1, x3.2.2.2.2.2.1, x3.2.2.2.2.2.2.1, x3.2.2.2.2.2.2.2.1, x3.2.2.2.2.2.2.2.2.1, x3.2.2.2.2.2.2.2.2.2.1, x3.2.2.2.2.2.2.2.2.2.2.1))
def ref04_Subset.L2 (f_ref04_pick : (LL × LI) → Option LL) (f_ref03_Step : (Int × LI × LR × Int × LL) → Option LI) (f_ref04_place : (LL × LI) → Option Int) (x13 : Int × LI × LR × Int × LI × LR × LL × Int × LI × LR × Int × LI × Int × Int × LL × Int × Int) (rec14 : (Int × LI × LR × Int × LI × LR × LL × Int × LI × LR × Int × LI × Int × Int × LL × Int × Int) → Option (Int × LI × LR × Int × LI × LR × LL × Int × LI × LR × LI × Int × Int)) : Option (Int × LI × LR × Int × LI × LR × LL × Int × LI × LR × LI × Int × Int) :=
 bif decide (x13.2.2.2.2.2.2.2.2.2.2.2.2.2.2.2.2 < x13.2.2.2.2.2.2.2.2.2.2.2.2.2.2.2.1) then
 (bif decide (0 ≤ x13.2.2.2.2.2.2.2.2.2.2.2.2.2.2.2.2) && decide (x13.2.2.2.2.2.2.2.2.2.2.2.2.2.2.2.2 < ((List.length x13.2.2.2.2.2.2.2.2.2.2.2.2.2.2.1 : Nat) : Int)) then
 (at? x13.2.2.2.2.2.2.2.2.2.2.2.2.2.2.1 (Int.toNat x13.2.2.2.2.2.2.2.2.2.2.2.2.2.2.2.2)).bind fun e15 =>
 (f_ref04_pick (x13.2.2.2.2.2.2.1, e15)).bind fun r16 =>
 (f_ref03_Step (x13.1, x13.2.1, x13.2.2.1, x13.2.2.2.2.2.2.2.2.2.2.1, r16)).bind fun r17 =>
 (bif decide ((0 : Int) < ((List.length r17 : Nat) : Int)) then
 ((f_ref04_place (x13.2.2.2.2.2.2.1, r17)).bind fun r18 =>
 bif decide (List.length x13.2.2.2.2.2.2.2.2.2.1 + List.length ([(x13.2.2.2.2.2.2.2.2.2.2.1, e15, r18)] : List Ru) ≤ maxRows) then
 some (x13.1, x13.2.1, x13.2.2.1, x13.2.2.2.1, x13.2.2.2.2.1, x13.2.2.2.2.2.1, x13.2.2.2.2.2.2.1, x13.2.2.2.2.2.2.2.1, x13.2.2.2.2.2.2.2.2.1, List.append x13.2.2.2.2.2.2.2.2.2.1 ([(x13.2.2.2.2.2.2.2.2.2.2.1, e15, r18)] : List Ru), x13.2.2.2.2.2.2.2.2.2.2.1, x13.2.2.2.2.2.2.2.2.2.2.2.1, x13.2.2.2.2.2.2.2.2.2.2.2.2.1, x13.2.2.2.2.2.2.2.2.2.2.2.2.2.1, x13.2.2.2.2.2.2.2.2.2.2.2.2.2.2.1, x13.2.2.2.2.2.2.2.2.2.2.2.2.2.2.2.1, x13.2.2.2.2.2.2.2.2.2.2.2.2.2.2.2.2)
 else none)
 else
 (some (x13.1, x13.2.1, x13.2.2.1, x13.2.2.2.1, x13.2.2.2.2.1, x13.2.2.2.2.2.1, x13.2.2.2.2.2.2.1, x13.2.2.2.2.2.2.2.1, x13.2.2.2.2.2.2.2.2.1, x13.2.2.2.2.2.2.2.2.2.1, x13.2.2.2.2.2.2.2.2.2.2.1, x13.2.2.2.2.2.2.2.2.2.2.2.1, x13.2.2.2.2.2.2.2.2.2.2.2.2.1, x13.2.2.2.2.2.2.2.2.2.2.2.2.2.1, x13.2.2.2.2.2.2.2.2.2.2.2.2.2.2.1, x13.2.2.2.2.2.2.2.2.2.2.2.2.2.2.2.1, x13.2.2.2.2.2.2.2.2.2.2.2.2.2.2.2.2))).bind fun x19 =>
 rec14 (x19.1, x19.2.1, x19.2.2.1, x19.2.2.2.1, x19.2.2.2.2.1, x19.2.2.2.2.2.1, x19.2.2.2.2.2.2.1, x19.2.2.2.2.2.2.2.1, x19.2.2.2.2.2.2.2.2.1, x19.2.2.2.2.2.2.2.2.2.1, x19.2.2.2.2.2.2.2.2.2.2.1, x19.2.2.2.2.2.2.2.2.2.2.2.1, x19.2.2.2.2.2.2.2.2.2.2.2.2.1, x19.2.2.2.2.2.2.2.2.2.2.2.2.2.1, x19.2.2.2.2.2.2.2.2.2.2.2.2.2.2.1, x19.2.2.2.2.2.2.2.2.2.2.2.2.2.2.2.1, IntKind.wrap .i64 (x19.2.2.2.2.2.2.2.2.2.2.2.2.2.2.2.2 + (1 : Int)))
 else none)
 else
 (some (x13.1, x13.2.1, x13.2.2.1, x13.2.2.2.1, x13.2.2.2.2.1, x13.2.2.2.2.2.1, x13.2.2.2.2.2.2.1, x13.2.2.2.2.2.2.2.1, x13.2.2.2.2.2.2.2.2.1, x13.2.2.2.2.2.2.2.2.2.1, x13.2.2.2.2.2.2.2.2.2.2.2.1, x13.2.2.2.2.2.2.2.2.2.2.2.2.1, x13.2.2.2.2.2.2.2.2.2.2.2.2.2.1))
def ref04_Subset.L3 (f_ref04_Lists : (Int × Int) → Option LL) (f_ref04_pick : (LL × LI) → Option LL) (f_ref03_Step : (Int × LI × LR × Int × LL) → Option LI) (f_ref04_place : (LL × LI) → Option Int) (n : Nat) (x9 : Int × LI × LR × Int × LI × LR × LL × Int × LI × LR × LI × Int × Int) (rec10 : (Int × LI × LR × Int × LI × LR × LL × Int × LI × LR × LI × Int × Int) → Option (Int × LI × LR × LL × Int × LI × LR)) : Option (Int × LI × LR × LL × Int × LI × LR) :=
 bif decide (x9.2.2.2.2.2.2.2.2.2.2.2.2 < x9.2.2.2.2.2.2.2.2.2.2.2.1) then
 ((nth? x9.2.2.2.2.2.2.2.2.2.2.1 x9.2.2.2.2.2.2.2.2.2.2.2.2).bind fun e11 =>
 (f_ref04_Lists (((List.length x9.2.2.2.2.2.2.1 : Nat) : Int), e11)).bind fun r12 =>
 (loopN (ref04_Subset.L2 f_ref04_pick f_ref03_Step f_ref04_place) n (x9.1, x9.2.1, x9.2.2.1, x9.2.2.2.1, x9.2.2.2.2.1, x9.2.2.2.2.2.1, x9.2.2.2.2.2.2.1, x9.2.2.2.2.2.2.2.1, x9.2.2.2.2.2.2.2.2.1, x9.2.2.2.2.2.2.2.2.2.1, x9.2.2.2.2.2.2.2.2.2.2.2.2, x9.2.2.2.2.2.2.2.2.2.2.1, x9.2.2.2.2.2.2.2.2.2.2.2.1, x9.2.2.2.2.2.2.2.2.2.2.2.2, r12, ((List.length r12 : Nat) : Int), (0 : Int))).bind fun x20 =>
 rec10 (x20.1, x20.2.1, x20.2.2.1, x20.2.2.2.1, x20.2.2.2.2.1, x20.2.2.2.2.2.1, x20.2.2.2.2.2.2.1, x20.2.2.2.2.2.2.2.1, x20.2.2.2.2.2.2.2.2.1, x20.2.2.2.2.2.2.2.2.2.1, x20.2.2.2.2.2.2.2.2.2.2.1, x20.2.2.2.2.2.2.2.2.2.2.2.1, IntKind.wrap .i64 (x20.2.2.2.2.2.2.2.2.2.2.2.2 + (1 : Int))))
 else
 (some (x9.2.2.2.1, x9.2.2.2.2.1, x9.2.2.2.2.2.1, x9.2.2.2.2.2.2.1, x9.2.2.2.2.2.2.2.1, x9.2.2.2.2.2.2.2.2.1, x9.2.2.2.2.2.2.2.2.2.1))
def ref04_Subset.P (f_ref03_Meet : (LI × LI) → Option Bool) (f_ref03_Step : (Int × LI × LR × Int × LL) → Option LI) (f_ref03_Valid : (LI × Int × LI × LR) → Option Bool) (f_ref04_Lists : (Int × Int) → Option LL) (f_ref04_Sets : (LI × Int × LI × LR) → Option (LL × Bool)) (f_ref04_pick : (LL × LI) → Option LL) (f_ref04_place : (LL × LI) → Option Int) (n : Nat) (x : LI × Int × LI × LR) : Option (Int × LI × LR × LL × Int) :=
 (f_ref03_Valid (x.1, x.2.1, x.2.2.1, x.2.2.2)).bind fun r1 =>
 bif !r1 then
 (some ((0 : Int), ([] : List Int), ([] : List Ru), ([] : List LI), (1 : Int)))
 else
 ((f_ref04_Sets (x.1, x.2.1, x.2.2.1, x.2.2.2)).bind fun r2 =>
 bif !r2.2 then
 (some ((0 : Int), ([] : List Int), ([] : List Ru), ([] : List LI), (3 : Int)))
 else
 ((loopN (ref04_Subset.L1 f_ref03_Meet) n (x.1, x.2.1, x.2.2.1, x.2.2.2, (0 : Int), ([] : List Int), ([] : List Ru), r2.1, ((List.length r2.1 : Nat) : Int), ([] : List Int), ([] : List Ru), r2.1, ((List.length r2.1 : Nat) : Int), (0 : Int))).bind fun x8 =>
 (loopN (ref04_Subset.L3 f_ref04_Lists f_ref04_pick f_ref03_Step f_ref04_place n) n (x8.2.1, x8.2.2.1, x8.2.2.2.1, x8.2.2.2.2.1, x8.2.2.2.2.2.1, x8.2.2.2.2.2.2.1, x8.2.2.2.2.2.2.2.1, x8.2.2.2.2.2.2.2.2.1, x8.2.2.2.2.2.2.2.2.2.1, x8.2.2.2.2.2.2.2.2.2.2, x8.1, ((List.length x8.1 : Nat) : Int), (0 : Int))).bind fun x21 =>
 bif decide ((20000 : Int) < ((List.length x21.2.2.2.2.2.2 : Nat) : Int)) then
 (some ((0 : Int), ([] : List Int), ([] : List Ru), ([] : List LI), (3 : Int)))
 else
 (some (x21.2.2.2.2.1, x21.2.2.2.2.2.1, x21.2.2.2.2.2.2, x21.2.2.2.1, (0 : Int)))))
/-! boskage/boskageref04.Over -/
def ref04_Over.P (f_ref03_Full : (LI × Int) → Option Int) (n : Nat) (x : LI × Int) : Option Bool :=
 (bif decide ((300 : Int) < x.2) then
 (some true)
 else
 ((f_ref03_Full (x.1, x.2)).bind fun r1 =>
 some (decide ((20000 : Int) < r1)))).bind fun x2 =>
 some x2
/-! boskage/boskageref04.Filled -/
def ref04_Filled.L1 (f_ref01_List : (LI × LI) → Option Bool) (x8 : Int × LI × LR × Int × LI × LR × Int × LI × LR × Int × LI × Bool × LI × Int × Int × LL × Int × Int × LR × Int × Int) (rec9 : (Int × LI × LR × Int × LI × LR × Int × LI × LR × Int × LI × Bool × LI × Int × Int × LL × Int × Int × LR × Int × Int) → Option (Int × LI × LR × Int × LI × LR × Int × LI × LR × Int × LI × Bool × LI × Int × Int × LL × Int × Int)) : Option (Int × LI × LR × Int × LI × LR × Int × LI × LR × Int × LI × Bool × LI × Int × Int × LL × Int × Int) :=
 bif decide (x8.2.2.2.2.2.2.2.2.2.2.2.2.2.2.2.2.2.2.2.2 < x8.2.2.2.2.2.2.2.2.2.2.2.2.2.2.2.2.2.2.2.1) then
 ((nth? x8.2.2.2.2.2.2.2.2.2.2.2.2.2.2.2.2.2.2.1 x8.2.2.2.2.2.2.2.2.2.2.2.2.2.2.2.2.2.2.2.2).bind fun e10 =>
 (bif x8.2.2.2.2.2.2.2.2.2.2.2.1 then
 (bif decide (e10.1 = x8.2.2.2.2.2.2.2.2.2.1) then
 ((f_ref01_List (e10.2.1, x8.2.2.2.2.2.2.2.2.2.2.1)).bind fun r11 =>
 some (x8.1, x8.2.1, x8.2.2.1, x8.2.2.2.1, x8.2.2.2.2.1, x8.2.2.2.2.2.1, x8.2.2.2.2.2.2.1, x8.2.2.2.2.2.2.2.1, x8.2.2.2.2.2.2.2.2.1, x8.2.2.2.2.2.2.2.2.2.1, x8.2.2.2.2.2.2.2.2.2.2.1, !r11, x8.2.2.2.2.2.2.2.2.2.2.2.2.1, x8.2.2.2.2.2.2.2.2.2.2.2.2.2.1, x8.2.2.2.2.2.2.2.2.2.2.2.2.2.2.1, x8.2.2.2.2.2.2.2.2.2.2.2.2.2.2.2.1, x8.2.2.2.2.2.2.2.2.2.2.2.2.2.2.2.2.1, x8.2.2.2.2.2.2.2.2.2.2.2.2.2.2.2.2.2.1, x8.2.2.2.2.2.2.2.2.2.2.2.2.2.2.2.2.2.2.1, x8.2.2.2.2.2.2.2.2.2.2.2.2.2.2.2.2.2.2.2.1, x8.2.2.2.2.2.2.2.2.2.2.2.2.2.2.2.2.2.2.2.2))
 else
 (some (x8.1, x8.2.1, x8.2.2.1, x8.2.2.2.1, x8.2.2.2.2.1, x8.2.2.2.2.2.1, x8.2.2.2.2.2.2.1, x8.2.2.2.2.2.2.2.1, x8.2.2.2.2.2.2.2.2.1, x8.2.2.2.2.2.2.2.2.2.1, x8.2.2.2.2.2.2.2.2.2.2.1, !false, x8.2.2.2.2.2.2.2.2.2.2.2.2.1, x8.2.2.2.2.2.2.2.2.2.2.2.2.2.1, x8.2.2.2.2.2.2.2.2.2.2.2.2.2.2.1, x8.2.2.2.2.2.2.2.2.2.2.2.2.2.2.2.1, x8.2.2.2.2.2.2.2.2.2.2.2.2.2.2.2.2.1, x8.2.2.2.2.2.2.2.2.2.2.2.2.2.2.2.2.2.1, x8.2.2.2.2.2.2.2.2.2.2.2.2.2.2.2.2.2.2.1, x8.2.2.2.2.2.2.2.2.2.2.2.2.2.2.2.2.2.2.2.1, x8.2.2.2.2.2.2.2.2.2.2.2.2.2.2.2.2.2.2.2.2)))
 else
 (some (x8.1, x8.2.1, x8.2.2.1, x8.2.2.2.1, x8.2.2.2.2.1, x8.2.2.2.2.2.1, x8.2.2.2.2.2.2.1, x8.2.2.2.2.2.2.2.1, x8.2.2.2.2.2.2.2.2.1, x8.2.2.2.2.2.2.2.2.2.1, x8.2.2.2.2.2.2.2.2.2.2.1, false, x8.2.2.2.2.2.2.2.2.2.2.2.2.1, x8.2.2.2.2.2.2.2.2.2.2.2.2.2.1, x8.2.2.2.2.2.2.2.2.2.2.2.2.2.2.1, x8.2.2.2.2.2.2.2.2.2.2.2.2.2.2.2.1, x8.2.2.2.2.2.2.2.2.2.2.2.2.2.2.2.2.1, x8.2.2.2.2.2.2.2.2.2.2.2.2.2.2.2.2.2.1, x8.2.2.2.2.2.2.2.2.2.2.2.2.2.2.2.2.2.2.1, x8.2.2.2.2.2.2.2.2.2.2.2.2.2.2.2.2.2.2.2.1, x8.2.2.2.2.2.2.2.2.2.2.2.2.2.2.2.2.2.2.2.2))).bind fun x12 =>
 rec9 (x12.1, x12.2.1, x12.2.2.1, x12.2.2.2.1, x12.2.2.2.2.1, x12.2.2.2.2.2.1, x12.2.2.2.2.2.2.1, x12.2.2.2.2.2.2.2.1, x12.2.2.2.2.2.2.2.2.1, x12.2.2.2.2.2.2.2.2.2.1, x12.2.2.2.2.2.2.2.2.2.2.1, x12.2.2.2.2.2.2.2.2.2.2.2.1, x12.2.2.2.2.2.2.2.2.2.2.2.2.1, x12.2.2.2.2.2.2.2.2.2.2.2.2.2.1, x12.2.2.2.2.2.2.2.2.2.2.2.2.2.2.1, x12.2.2.2.2.2.2.2.2.2.2.2.2.2.2.2.1, x12.2.2.2.2.2.2.2.2.2.2.2.2.2.2.2.2.1, x12.2.2.2.2.2.2.2.2.2.2.2.2.2.2.2.2.2.1, x12.2.2.2.2.2.2.2.2.2.2.2.2.2.2.2.2.2.2.1, x12.2.2.2.2.2.2.2.2.2.2.2.2.2.2.2.2.2.2.2.1, IntKind.wrap .i64 (x12.2.2.2.2.2.2.2.2.2.2.2.2.2.2.2.2.2.2.2.2 + (1 : Int))))
 else
 (some (x8.1, x8.2.1, x8.2.2.1, x8.2.2.2.1, x8.2.2.2.2.1, x8.2.2.2.2.2.1, x8.2.2.2.2.2.2.1, x8.2.2.2.2.2.2.2.1, x8.2.2.2.2.2.2.2.2.1, x8.2.2.2.2.2.2.2.2.2.1, x8.2.2.2.2.2.2.2.2.2.2.1, x8.2.2.2.2.2.2.2.2.2.2.2.1, x8.2.2.2.2.2.2.2.2.2.2.2.2.1, x8.2.2.2.2.2.2.2.2.2.2.2.2.2.1, x8.2.2.2.2.2.2.2.2.2.2.2.2.2.2.1, x8.2.2.2.2.2.2.2.2.2.2.2.2.2.2.2.1, x8.2.2.2.2.2.2.2.2.2.2.2.2.2.2.2.2.1, x8.2.2.2.2.2.2.2.2.2.2.2.2.2.2.2.2.2.1))
def ref04_Filled.L2 (f_ref01_List : (LI × LI) → Option Bool) (n : Nat) (x5 : Int × LI × LR × Int × LI × LR × Int × LI × LR × Int × LI × Int × Int × LL × Int × Int) (rec6 : (Int × LI × LR × Int × LI × LR × Int × LI × LR × Int × LI × Int × Int × LL × Int × Int) → Option (Int × LI × LR × Int × LI × LR × Int × LI × LR × LI × Int × Int)) : Option (Int × LI × LR × Int × LI × LR × Int × LI × LR × LI × Int × Int) :=
 bif decide (x5.2.2.2.2.2.2.2.2.2.2.2.2.2.2.2 < x5.2.2.2.2.2.2.2.2.2.2.2.2.2.2.1) then
 (bif decide (0 ≤ x5.2.2.2.2.2.2.2.2.2.2.2.2.2.2.2) && decide (x5.2.2.2.2.2.2.2.2.2.2.2.2.2.2.2 < ((List.length x5.2.2.2.2.2.2.2.2.2.2.2.2.2.1 : Nat) : Int)) then
 (at? x5.2.2.2.2.2.2.2.2.2.2.2.2.2.1 (Int.toNat x5.2.2.2.2.2.2.2.2.2.2.2.2.2.2.2)).bind fun e7 =>
 (loopN (ref04_Filled.L1 f_ref01_List) n (x5.1, x5.2.1, x5.2.2.1, x5.2.2.2.1, x5.2.2.2.2.1, x5.2.2.2.2.2.1, x5.2.2.2.2.2.2.1, x5.2.2.2.2.2.2.2.1, x5.2.2.2.2.2.2.2.2.1, x5.2.2.2.2.2.2.2.2.2.1, e7, true, x5.2.2.2.2.2.2.2.2.2.2.1, x5.2.2.2.2.2.2.2.2.2.2.2.1, x5.2.2.2.2.2.2.2.2.2.2.2.2.1, x5.2.2.2.2.2.2.2.2.2.2.2.2.2.1, x5.2.2.2.2.2.2.2.2.2.2.2.2.2.2.1, x5.2.2.2.2.2.2.2.2.2.2.2.2.2.2.2, x5.2.2.1, ((List.length x5.2.2.1 : Nat) : Int), (0 : Int))).bind fun x13 =>
 (bif x13.2.2.2.2.2.2.2.2.2.2.2.1 then
 (bif decide (List.length x13.2.2.2.2.2.2.2.2.1 + List.length ([(x13.2.2.2.2.2.2.2.2.2.1, x13.2.2.2.2.2.2.2.2.2.2.1, x13.1)] : List Ru) ≤ maxRows) then
 some (x13.1, x13.2.1, x13.2.2.1, x13.2.2.2.1, x13.2.2.2.2.1, x13.2.2.2.2.2.1, x13.2.2.2.2.2.2.1, x13.2.2.2.2.2.2.2.1, List.append x13.2.2.2.2.2.2.2.2.1 ([(x13.2.2.2.2.2.2.2.2.2.1, x13.2.2.2.2.2.2.2.2.2.2.1, x13.1)] : List Ru), x13.2.2.2.2.2.2.2.2.2.1, x13.2.2.2.2.2.2.2.2.2.2.2.2.1, x13.2.2.2.2.2.2.2.2.2.2.2.2.2.1, x13.2.2.2.2.2.2.2.2.2.2.2.2.2.2.1, x13.2.2.2.2.2.2.2.2.2.2.2.2.2.2.2.1, x13.2.2.2.2.2.2.2.2.2.2.2.2.2.2.2.2.1, x13.2.2.2.2.2.2.2.2.2.2.2.2.2.2.2.2.2)
 else none)
 else
 (some (x13.1, x13.2.1, x13.2.2.1, x13.2.2.2.1, x13.2.2.2.2.1, x13.2.2.2.2.2.1, x13.2.2.2.2.2.2.1, x13.2.2.2.2.2.2.2.1, x13.2.2.2.2.2.2.2.2.1, x13.2.2.2.2.2.2.2.2.2.1, x13.2.2.2.2.2.2.2.2.2.2.2.2.1, x13.2.2.2.2.2.2.2.2.2.2.2.2.2.1, x13.2.2.2.2.2.2.2.2.2.2.2.2.2.2.1, x13.2.2.2.2.2.2.2.2.2.2.2.2.2.2.2.1, x13.2.2.2.2.2.2.2.2.2.2.2.2.2.2.2.2.1, x13.2.2.2.2.2.2.2.2.2.2.2.2.2.2.2.2.2))).bind fun x14 =>
 rec6 (x14.1, x14.2.1, x14.2.2.1, x14.2.2.2.1, x14.2.2.2.2.1, x14.2.2.2.2.2.1, x14.2.2.2.2.2.2.1, x14.2.2.2.2.2.2.2.1, x14.2.2.2.2.2.2.2.2.1, x14.2.2.2.2.2.2.2.2.2.1, x14.2.2.2.2.2.2.2.2.2.2.1, x14.2.2.2.2.2.2.2.2.2.2.2.1, x14.2.2.2.2.2.2.2.2.2.2.2.2.1, x14.2.2.2.2.2.2.2.2.2.2.2.2.2.1, x14.2.2.2.2.2.2.2.2.2.2.2.2.2.2.1, IntKind.wrap .i64 (x14.2.2.2.2.2.2.2.2.2.2.2.2.2.2.2 + (1 : Int)))
 else none)
 else
 (some (x5.1, x5.2.1, x5.2.2.1, x5.2.2.2.1, x5.2.2.2.2.1, x5.2.2.2.2.2.1, x5.2.2.2.2.2.2.1, x5.2.2.2.2.2.2.2.1, x5.2.2.2.2.2.2.2.2.1, x5.2.2.2.2.2.2.2.2.2.2.1, x5.2.2.2.2.2.2.2.2.2.2.2.1, x5.2.2.2.2.2.2.2.2.2.2.2.2.1))
def ref04_Filled.L3 (f_ref04_Lists : (Int × Int) → Option LL) (f_ref01_List : (LI × LI) → Option Bool) (n : Nat) (x1 : Int × LI × LR × Int × LI × LR × Int × LI × LR × LI × Int × Int) (rec2 : (Int × LI × LR × Int × LI × LR × Int × LI × LR × LI × Int × Int) → Option (Int × LI × LR × Int × LI × LR)) : Option (Int × LI × LR × Int × LI × LR) :=
 bif decide (x1.2.2.2.2.2.2.2.2.2.2.2 < x1.2.2.2.2.2.2.2.2.2.2.1) then
 ((nth? x1.2.2.2.2.2.2.2.2.2.1 x1.2.2.2.2.2.2.2.2.2.2.2).bind fun e3 =>
 (f_ref04_Lists (IntKind.wrap .i64 (x1.1 + (1 : Int)), e3)).bind fun r4 =>
 (loopN (ref04_Filled.L2 f_ref01_List n) n (x1.1, x1.2.1, x1.2.2.1, x1.2.2.2.1, x1.2.2.2.2.1, x1.2.2.2.2.2.1, x1.2.2.2.2.2.2.1, x1.2.2.2.2.2.2.2.1, x1.2.2.2.2.2.2.2.2.1, x1.2.2.2.2.2.2.2.2.2.2.2, x1.2.2.2.2.2.2.2.2.2.1, x1.2.2.2.2.2.2.2.2.2.2.1, x1.2.2.2.2.2.2.2.2.2.2.2, r4, ((List.length r4 : Nat) : Int), (0 : Int))).bind fun x15 =>
 rec2 (x15.1, x15.2.1, x15.2.2.1, x15.2.2.2.1, x15.2.2.2.2.1, x15.2.2.2.2.2.1, x15.2.2.2.2.2.2.1, x15.2.2.2.2.2.2.2.1, x15.2.2.2.2.2.2.2.2.1, x15.2.2.2.2.2.2.2.2.2.1, x15.2.2.2.2.2.2.2.2.2.2.1, IntKind.wrap .i64 (x15.2.2.2.2.2.2.2.2.2.2.2 + (1 : Int))))
 else
 (some (x1.2.2.2.1, x1.2.2.2.2.1, x1.2.2.2.2.2.1, x1.2.2.2.2.2.2.1, x1.2.2.2.2.2.2.2.1, x1.2.2.2.2.2.2.2.2.1))
def ref04_Filled.P (f_ref01_List : (LI × LI) → Option Bool) (f_ref04_Lists : (Int × Int) → Option LL) (n : Nat) (x : LI × Int × LI × LR) : Option (Int × LI × LR) :=
 bif decide (List.length ([] : List Int) + List.length x.2.2.1 ≤ maxRows) then
 bif decide (List.length ([] : List Ru) + List.length x.2.2.2 ≤ maxRows) then
 (loopN (ref04_Filled.L3 f_ref04_Lists f_ref01_List n) n (x.2.1, x.2.2.1, x.2.2.2, (0 : Int), ([] : List Int), ([] : List Ru), IntKind.wrap .i64 (x.2.1 + (1 : Int)), List.append ([] : List Int) x.2.2.1, List.append ([] : List Ru) x.2.2.2, x.1, ((List.length x.1 : Nat) : Int), (0 : Int))).bind fun x16 =>
 some (x16.2.2.2.1, x16.2.2.2.2.1, x16.2.2.2.2.2)
 else none
 else none
/-! (boskage/boskageref04.Table).index -/
def ref04_Table_index.L1 (x1 : Int × LL × Int × LI × Int × Int) (rec2 : (Int × LL × Int × LI × Int × Int) → Option Int) : Option Int :=
 bif decide (x1.2.2.2.2.2 < x1.2.2.2.2.1) then
 ((nth? x1.2.2.2.1 x1.2.2.2.2.2).bind fun e3 =>
 rec2 (x1.1, x1.2.1, IntKind.wrap .i64 ((IntKind.wrap .i64 (x1.2.2.1 * x1.1)) + e3), x1.2.2.2.1, x1.2.2.2.2.1, IntKind.wrap .i64 (x1.2.2.2.2.2 + (1 : Int))))
 else
 (some x1.2.2.1)
def ref04_Table_index.P (n : Nat) (x : Int × LL × LI) : Option Int :=
 (loopN (ref04_Table_index.L1) n (x.1, x.2.1, (0 : Int), x.2.2, ((List.length x.2.2 : Nat) : Int), (0 : Int))).bind fun x4 =>
 some x4
/-! boskage/boskageref04.Make -/
def ref04_Make.L1 (x5 : Int × LI × LR × Int × LL × Int × (List (Option LI)) × LI × LI × Int × Int × Int × Int) (rec6 : (Int × LI × LR × Int × LL × Int × (List (Option LI)) × LI × LI × Int × Int × Int × Int) → Option (Int × LI × LR × Int × LL × Int × (List (Option LI)) × LI × LI × Int × Int)) : Option (Int × LI × LR × Int × LL × Int × (List (Option LI)) × LI × LI × Int × Int) :=
 bif decide (x5.2.2.2.2.2.2.2.2.2.2.2.2 < x5.2.2.2.2.2.2.2.2.2.2.2.1) then
 (bif decide (0 ≤ x5.2.2.2.2.2.2.2.2.2.2.2.2) && decide (x5.2.2.2.2.2.2.2.2.2.2.2.2 < ((List.length x5.2.2.2.2.2.2.2.1 : Nat) : Int)) then
 (at? x5.2.2.2.2.2.2.2.1 (Int.toNat x5.2.2.2.2.2.2.2.2.2.2.2.2)).bind fun e7 =>
 rec6 (x5.1, x5.2.1, x5.2.2.1, x5.2.2.2.1, x5.2.2.2.2.1, x5.2.2.2.2.2.1, x5.2.2.2.2.2.2.1, List.set x5.2.2.2.2.2.2.2.1 (Int.toNat x5.2.2.2.2.2.2.2.2.2.2.2.2) (-1 : Int), x5.2.2.2.2.2.2.2.2.1, x5.2.2.2.2.2.2.2.2.2.1, x5.2.2.2.2.2.2.2.2.2.2.1, x5.2.2.2.2.2.2.2.2.2.2.2.1, IntKind.wrap .i64 (x5.2.2.2.2.2.2.2.2.2.2.2.2 + (1 : Int)))
 else none)
 else
 (some (x5.1, x5.2.1, x5.2.2.1, x5.2.2.2.1, x5.2.2.2.2.1, x5.2.2.2.2.2.1, x5.2.2.2.2.2.2.1, x5.2.2.2.2.2.2.2.1, x5.2.2.2.2.2.2.2.2.1, x5.2.2.2.2.2.2.2.2.2.1, x5.2.2.2.2.2.2.2.2.2.2.1))
def ref04_Make.L2 (f_ref03_Power : (Int × Int) → Option Int) (n : Nat) (x1 : Int × LI × LR × Int × LL × Int × (List (Option LI)) × LI × Int × Int) (rec2 : (Int × LI × LR × Int × LL × Int × (List (Option LI)) × LI × Int × Int) → Option (Int × LI × LR × Int × LL × Int × (List (Option LI)))) : Option (Int × LI × LR × Int × LL × Int × (List (Option LI))) :=
 bif decide (x1.2.2.2.2.2.2.2.2.2 < x1.2.2.2.2.2.2.2.2.1) then
 ((nth? x1.2.2.2.2.2.2.2.1 x1.2.2.2.2.2.2.2.2.2).bind fun e3 =>
 (f_ref03_Power (x1.1, e3)).bind fun r4 =>
 bif decide (0 ≤ r4) && decide (r4 ≤ r4) && decide (r4 ≤ ((maxRows : Nat) : Int)) then
 (loopN (ref04_Make.L1) n (x1.1, x1.2.1, x1.2.2.1, x1.2.2.2.1, x1.2.2.2.2.1, x1.2.2.2.2.2.1, x1.2.2.2.2.2.2.1, List.replicate (Int.toNat r4) ((0 : Int) : Int), x1.2.2.2.2.2.2.2.1, x1.2.2.2.2.2.2.2.2.1, x1.2.2.2.2.2.2.2.2.2, ((List.length (List.replicate (Int.toNat r4) ((0 : Int) : Int)) : Nat) : Int), (0 : Int))).bind fun x8 =>
 bif decide (List.length x8.2.2.2.2.2.2.1 + List.length ([x8.2.2.2.2.2.2.2.1] : List LI) ≤ maxRows) then
 rec2 (x8.1, x8.2.1, x8.2.2.1, x8.2.2.2.1, x8.2.2.2.2.1, x8.2.2.2.2.2.1, List.append x8.2.2.2.2.2.2.1 (List.map some ([x8.2.2.2.2.2.2.2.1] : List LI)), x8.2.2.2.2.2.2.2.2.1, x8.2.2.2.2.2.2.2.2.2.1, IntKind.wrap .i64 (x8.2.2.2.2.2.2.2.2.2.2 + (1 : Int)))
 else none
 else none)
 else
 (some (x1.1, x1.2.1, x1.2.2.1, x1.2.2.2.1, x1.2.2.2.2.1, x1.2.2.2.2.2.1, x1.2.2.2.2.2.2.1))
def ref04_Make.L3 (f_ref04_Table_index : (Int × LL × LI) → Option Int) (x10 : Int × LL × Int × (List (Option LI)) × LR × Int × Int) (rec11 : (Int × LL × Int × (List (Option LI)) × LR × Int × Int) → Option (Int × LL × Int × (List (Option LI)))) : Option (Int × LL × Int × (List (Option LI))) :=
 bif decide (x10.2.2.2.2.2.2 < x10.2.2.2.2.2.1) then
 ((nth? x10.2.2.2.2.1 x10.2.2.2.2.2.2).bind fun e12 =>
 bif decide (0 ≤ e12.1) && decide (e12.1 < ((List.length x10.2.2.2.1 : Nat) : Int)) then
 (rowAt? x10.2.2.2.1 (Int.toNat e12.1)).bind fun e13 =>
 (rowsAll x10.2.2.2.1).bind fun e14 =>
 (f_ref04_Table_index (x10.2.2.1, e14, e12.2.1)).bind fun r15 =>
 (rowAt? x10.2.2.2.1 (Int.toNat e12.1)).bind fun e16 =>
 bif decide (0 ≤ r15) && decide (r15 < ((List.length e16 : Nat) : Int)) then
 (rowAt? x10.2.2.2.1 (Int.toNat e12.1)).bind fun e17 =>
 (at? e17 (Int.toNat r15)).bind fun e18 =>
 rec11 (x10.1, x10.2.1, x10.2.2.1, List.set x10.2.2.2.1 (Int.toNat e12.1) (some (List.set e17 (Int.toNat r15) e12.2.2)), x10.2.2.2.2.1, x10.2.2.2.2.2.1, IntKind.wrap .i64 (x10.2.2.2.2.2.2 + (1 : Int)))
 else none
 else none)
 else
 (some (x10.1, x10.2.1, x10.2.2.1, x10.2.2.2.1))
def ref04_Make.P (f_ref03_Power : (Int × Int) → Option Int) (f_ref04_Table_index : (Int × LL × LI) → Option Int) (n : Nat) (x : LI × Int × LI × LR) : Option (Int × LL) :=
 (loopN (ref04_Make.L2 f_ref03_Power n) n (x.2.1, x.2.2.1, x.2.2.2, (0 : Int), ([] : List LI), x.2.1, ([] : List (Option LI)), x.1, ((List.length x.1 : Nat) : Int), (0 : Int))).bind fun x9 =>
 (loopN (ref04_Make.L3 f_ref04_Table_index) n (x9.2.2.2.1, x9.2.2.2.2.1, x9.2.2.2.2.2.1, x9.2.2.2.2.2.2, x9.2.2.1, ((List.length x9.2.2.1 : Nat) : Int), (0 : Int))).bind fun x19 =>
 (rowsAll x19.2.2.2).bind fun e20 =>
 some (x19.2.2.1, e20)
/-! (boskage/boskageref04.Table).Next -/
def ref04_Table_Next.P (f_ref04_Table_index : (Int × LL × LI) → Option Int) (n : Nat) (x : Int × LL × Int × LI) : Option Int :=
 (nth? x.2.1 x.2.2.1).bind fun e1 =>
 (f_ref04_Table_index (x.1, x.2.1, x.2.2.2)).bind fun r2 =>
 (nth? e1 r2).bind fun e3 =>
 some e3
/-! boskage/boskageref04.alike -/
def ref04_alike.L1 (f_ref04_Table_Next : (Int × LL × Int × LI) → Option Int) (x8 : LI × Int × Int × Int × LL × Int × Int × LI × LI × Int × Int × LL × Int × Int × Int × Int) (rec9 : (LI × Int × Int × Int × LL × Int × Int × LI × LI × Int × Int × LL × Int × Int × Int × Int) → Option (Sum (LI × Int × Int × Int × LL × Int × Int × LI × Int × Int × LL × Int × Int) (Sum (LI × Int × Int × Int × LL × LI × Int × Int) (Sum Unit Bool)))) : Option (Sum (LI × Int × Int × Int × LL × Int × Int × LI × Int × Int × LL × Int × Int) (Sum (LI × Int × Int × Int × LL × LI × Int × Int) (Sum Unit Bool))) :=
 bif decide (x8.2.2.2.2.2.2.2.2.2.2.2.2.2.2.2 < x8.2.2.2.2.2.2.2.2.2.2.2.2.2.2.1) then
 (bif decide (0 ≤ 0) && decide (0 ≤ x8.2.2.2.2.2.2.2.2.2.2.2.2.2.2.2) && decide (x8.2.2.2.2.2.2.2.2.2.2.2.2.2.2.2 ≤ ((List.length x8.2.2.2.2.2.2.2.1 : Nat) : Int)) then
 bif decide (List.length ([] : List Int) + List.length (List.drop (Int.toNat 0) (List.take (Int.toNat x8.2.2.2.2.2.2.2.2.2.2.2.2.2.2.2) x8.2.2.2.2.2.2.2.1)) ≤ maxRows) then
 bif decide (List.length (List.append ([] : List Int) (List.drop (Int.toNat 0) (List.take (Int.toNat x8.2.2.2.2.2.2.2.2.2.2.2.2.2.2.2) x8.2.2.2.2.2.2.2.1))) + List.length ([x8.2.1] : List Int) ≤ maxRows) then
 bif decide (0 ≤ x8.2.2.2.2.2.2.2.2.2.2.2.2.2.2.2) && decide (x8.2.2.2.2.2.2.2.2.2.2.2.2.2.2.2 ≤ ((List.length x8.2.2.2.2.2.2.2.1 : Nat) : Int)) && decide (((List.length x8.2.2.2.2.2.2.2.1 : Nat) : Int) ≤ ((List.length x8.2.2.2.2.2.2.2.1 : Nat) : Int)) then
 bif decide (List.length (List.append (List.append ([] : List Int) (List.drop (Int.toNat 0) (List.take (Int.toNat x8.2.2.2.2.2.2.2.2.2.2.2.2.2.2.2) x8.2.2.2.2.2.2.2.1))) ([x8.2.1] : List Int)) + List.length (List.drop (Int.toNat x8.2.2.2.2.2.2.2.2.2.2.2.2.2.2.2) (List.take (Int.toNat ((List.length x8.2.2.2.2.2.2.2.1 : Nat) : Int)) x8.2.2.2.2.2.2.2.1)) ≤ maxRows) then
 bif decide (0 ≤ 0) && decide (0 ≤ x8.2.2.2.2.2.2.2.2.2.2.2.2.2.2.2) && decide (x8.2.2.2.2.2.2.2.2.2.2.2.2.2.2.2 ≤ ((List.length x8.2.2.2.2.2.2.2.1 : Nat) : Int)) then
 bif decide (List.length ([] : List Int) + List.length (List.drop (Int.toNat 0) (List.take (Int.toNat x8.2.2.2.2.2.2.2.2.2.2.2.2.2.2.2) x8.2.2.2.2.2.2.2.1)) ≤ maxRows) then
 bif decide (List.length (List.append ([] : List Int) (List.drop (Int.toNat 0) (List.take (Int.toNat x8.2.2.2.2.2.2.2.2.2.2.2.2.2.2.2) x8.2.2.2.2.2.2.2.1))) + List.length ([x8.2.2.1] : List Int) ≤ maxRows) then
 bif decide (0 ≤ x8.2.2.2.2.2.2.2.2.2.2.2.2.2.2.2) && decide (x8.2.2.2.2.2.2.2.2.2.2.2.2.2.2.2 ≤ ((List.length x8.2.2.2.2.2.2.2.1 : Nat) : Int)) && decide (((List.length x8.2.2.2.2.2.2.2.1 : Nat) : Int) ≤ ((List.length x8.2.2.2.2.2.2.2.1 : Nat) : Int)) then
 bif decide (List.length (List.append (List.append ([] : List Int) (List.drop (Int.toNat 0) (List.take (Int.toNat x8.2.2.2.2.2.2.2.2.2.2.2.2.2.2.2) x8.2.2.2.2.2.2.2.1))) ([x8.2.2.1] : List Int)) + List.length (List.drop (Int.toNat x8.2.2.2.2.2.2.2.2.2.2.2.2.2.2.2) (List.take (Int.toNat ((List.length x8.2.2.2.2.2.2.2.1 : Nat) : Int)) x8.2.2.2.2.2.2.2.1)) ≤ maxRows) then
 (f_ref04_Table_Next (x8.2.2.2.1, x8.2.2.2.2.1, x8.2.2.2.2.2.1, List.append (List.append (List.append ([] : List Int) (List.drop (Int.toNat 0) (List.take (Int.toNat x8.2.2.2.2.2.2.2.2.2.2.2.2.2.2.2) x8.2.2.2.2.2.2.2.1))) ([x8.2.1] : List Int)) (List.drop (Int.toNat x8.2.2.2.2.2.2.2.2.2.2.2.2.2.2.2) (List.take (Int.toNat ((List.length x8.2.2.2.2.2.2.2.1 : Nat) : Int)) x8.2.2.2.2.2.2.2.1)))).bind fun r10 =>
 (nth? x8.1 r10).bind fun e11 =>
 (f_ref04_Table_Next (x8.2.2.2.1, x8.2.2.2.2.1, x8.2.2.2.2.2.1, List.append (List.append (List.append ([] : List Int) (List.drop (Int.toNat 0) (List.take (Int.toNat x8.2.2.2.2.2.2.2.2.2.2.2.2.2.2.2) x8.2.2.2.2.2.2.2.1))) ([x8.2.2.1] : List Int)) (List.drop (Int.toNat x8.2.2.2.2.2.2.2.2.2.2.2.2.2.2.2) (List.take (Int.toNat ((List.length x8.2.2.2.2.2.2.2.1 : Nat) : Int)) x8.2.2.2.2.2.2.2.1)))).bind fun r12 =>
 (nth? x8.1 r12).bind fun e13 =>
 bif !decide (e11 = e13) then
 ((((some false).bind fun r => some (Sum.inr r)).bind fun r => some (Sum.inr r)).bind fun r => some (Sum.inr r))
 else
 (rec9 (x8.1, x8.2.1, x8.2.2.1, x8.2.2.2.1, x8.2.2.2.2.1, x8.2.2.2.2.2.1, x8.2.2.2.2.2.2.1, x8.2.2.2.2.2.2.2.1, x8.2.2.2.2.2.2.2.2.1, x8.2.2.2.2.2.2.2.2.2.1, x8.2.2.2.2.2.2.2.2.2.2.1, x8.2.2.2.2.2.2.2.2.2.2.2.1, x8.2.2.2.2.2.2.2.2.2.2.2.2.1, x8.2.2.2.2.2.2.2.2.2.2.2.2.2.1, x8.2.2.2.2.2.2.2.2.2.2.2.2.2.2.1, IntKind.wrap .i64 (x8.2.2.2.2.2.2.2.2.2.2.2.2.2.2.2 + (1 : Int))))
 else none
 else none
 else none
 else none
 else none
 else none
 else none
 else none
 else none
 else none)
 else
 (some (Sum.inl (x8.1, x8.2.1, x8.2.2.1, x8.2.2.2.1, x8.2.2.2.2.1, x8.2.2.2.2.2.1, x8.2.2.2.2.2.2.1, x8.2.2.2.2.2.2.2.2.1, x8.2.2.2.2.2.2.2.2.2.1, x8.2.2.2.2.2.2.2.2.2.2.1, x8.2.2.2.2.2.2.2.2.2.2.2.1, x8.2.2.2.2.2.2.2.2.2.2.2.2.1, x8.2.2.2.2.2.2.2.2.2.2.2.2.2.1)))
def ref04_alike.L2 (f_ref04_Table_Next : (Int × LL × Int × LI) → Option Int) (n : Nat) (x5 : LI × Int × Int × Int × LL × Int × Int × LI × Int × Int × LL × Int × Int) (rec6 : (LI × Int × Int × Int × LL × Int × Int × LI × Int × Int × LL × Int × Int) → Option (Sum (LI × Int × Int × Int × LL × LI × Int × Int) (Sum Unit Bool))) : Option (Sum (LI × Int × Int × Int × LL × LI × Int × Int) (Sum Unit Bool)) :=
 bif decide (x5.2.2.2.2.2.2.2.2.2.2.2.2 < x5.2.2.2.2.2.2.2.2.2.2.2.1) then
 (bif decide (0 ≤ x5.2.2.2.2.2.2.2.2.2.2.2.2) && decide (x5.2.2.2.2.2.2.2.2.2.2.2.2 < ((List.length x5.2.2.2.2.2.2.2.2.2.2.1 : Nat) : Int)) then
 (at? x5.2.2.2.2.2.2.2.2.2.2.1 (Int.toNat x5.2.2.2.2.2.2.2.2.2.2.2.2)).bind fun e7 =>
 (loopN (ref04_alike.L1 f_ref04_Table_Next) n (x5.1, x5.2.1, x5.2.2.1, x5.2.2.2.1, x5.2.2.2.2.1, x5.2.2.2.2.2.1, x5.2.2.2.2.2.2.1, e7, x5.2.2.2.2.2.2.2.1, x5.2.2.2.2.2.2.2.2.1, x5.2.2.2.2.2.2.2.2.2.1, x5.2.2.2.2.2.2.2.2.2.2.1, x5.2.2.2.2.2.2.2.2.2.2.2.1, x5.2.2.2.2.2.2.2.2.2.2.2.2, x5.2.2.2.2.2.2.1, (0 : Int))).bind fun q => match q with
 | Sum.inl x14 => (rec6 (x14.1, x14.2.1, x14.2.2.1, x14.2.2.2.1, x14.2.2.2.2.1, x14.2.2.2.2.2.1, x14.2.2.2.2.2.2.1, x14.2.2.2.2.2.2.2.1, x14.2.2.2.2.2.2.2.2.1, x14.2.2.2.2.2.2.2.2.2.1, x14.2.2.2.2.2.2.2.2.2.2.1, x14.2.2.2.2.2.2.2.2.2.2.2.1, IntKind.wrap .i64 (x14.2.2.2.2.2.2.2.2.2.2.2.2 + (1 : Int))))
 | Sum.inr r => some r
 else none)
 else
 (some (Sum.inl (x5.1, x5.2.1, x5.2.2.1, x5.2.2.2.1, x5.2.2.2.2.1, x5.2.2.2.2.2.2.2.1, x5.2.2.2.2.2.2.2.2.1, x5.2.2.2.2.2.2.2.2.2.1)))
def ref04_alike.L3 (f_ref04_Lists : (Int × Int) → Option LL) (f_ref04_Table_Next : (Int × LL × Int × LI) → Option Int) (n : Nat) (x1 : LI × Int × Int × Int × LL × LI × Int × Int) (rec2 : (LI × Int × Int × Int × LL × LI × Int × Int) → Option (Sum Unit Bool)) : Option (Sum Unit Bool) :=
 bif decide (x1.2.2.2.2.2.2.2 < x1.2.2.2.2.2.2.1) then
 ((nth? x1.2.2.2.2.2.1 x1.2.2.2.2.2.2.2).bind fun e3 =>
 bif decide (e3 = (0 : Int)) then
 (rec2 (x1.1, x1.2.1, x1.2.2.1, x1.2.2.2.1, x1.2.2.2.2.1, x1.2.2.2.2.2.1, x1.2.2.2.2.2.2.1, IntKind.wrap .i64 (x1.2.2.2.2.2.2.2 + (1 : Int))))
 else
 ((f_ref04_Lists (x1.2.2.2.1, IntKind.wrap .i64 (e3 - (1 : Int)))).bind fun r4 =>
 (loopN (ref04_alike.L2 f_ref04_Table_Next n) n (x1.1, x1.2.1, x1.2.2.1, x1.2.2.2.1, x1.2.2.2.2.1, x1.2.2.2.2.2.2.2, e3, x1.2.2.2.2.2.1, x1.2.2.2.2.2.2.1, x1.2.2.2.2.2.2.2, r4, ((List.length r4 : Nat) : Int), (0 : Int))).bind fun q => match q with
 | Sum.inl x15 => (rec2 (x15.1, x15.2.1, x15.2.2.1, x15.2.2.2.1, x15.2.2.2.2.1, x15.2.2.2.2.2.1, x15.2.2.2.2.2.2.1, IntKind.wrap .i64 (x15.2.2.2.2.2.2.2 + (1 : Int))))
 | Sum.inr r => some r))
 else
 (some (Sum.inl ()))
def ref04_alike.P (f_ref04_Lists : (Int × Int) → Option LL) (f_ref04_Table_Next : (Int × LL × Int × LI) → Option Int) (n : Nat) (x : LI × Int × LL × LI × Int × Int) : Option Bool :=
 (loopN (ref04_alike.L3 f_ref04_Lists f_ref04_Table_Next n) n (x.2.2.2.1, x.2.2.2.2.1, x.2.2.2.2.2, x.2.1, x.2.2.1, x.1, ((List.length x.1 : Nat) : Int), (0 : Int))).bind fun q => match q with
 | Sum.inl x16 => (some true)
 | Sum.inr r => some r
/-! boskage/boskageref04.many -/
def ref04_many.L1 (f_ref03_Insert : (LI × Int) → Option LI) (x1 : LI × LI × Int × Int) (rec2 : (LI × LI × Int × Int) → Option LI) : Option LI :=
 bif decide (x1.2.2.2 < x1.2.2.1) then
 ((nth? x1.2.1 x1.2.2.2).bind fun e3 =>
 (f_ref03_Insert (x1.1, e3)).bind fun r4 =>
 rec2 (r4, x1.2.1, x1.2.2.1, IntKind.wrap .i64 (x1.2.2.2 + (1 : Int))))
 else
 (some x1.1)
def ref04_many.P (f_ref03_Insert : (LI × Int) → Option LI) (n : Nat) (x : List Int) : Option Int :=
 (loopN (ref04_many.L1 f_ref03_Insert) n (([] : List Int), x, ((List.length x : Nat) : Int), (0 : Int))).bind fun x5 =>
 some ((List.length x5 : Nat) : Int)
/-! boskage/boskageref04.classes -/
def ref04_classes.L1 (x2 : LI × Int × LI × LR × Int × LL × LI × LI × Int × Int) (rec3 : (LI × Int × LI × LR × Int × LL × LI × LI × Int × Int) → Option (LI × Int × LI × LR × Int × LL × LI)) : Option (LI × Int × LI × LR × Int × LL × LI) :=
 bif decide (x2.2.2.2.2.2.2.2.2.2 < x2.2.2.2.2.2.2.2.2.1) then
 ((nth? x2.2.2.2.2.2.2.2.1 x2.2.2.2.2.2.2.2.2.2).bind fun e4 =>
 bif decide (0 ≤ e4) && decide (e4 < ((List.length x2.2.2.2.2.2.2.1 : Nat) : Int)) then
 (at? x2.2.2.2.2.2.2.1 (Int.toNat e4)).bind fun e5 =>
 rec3 (x2.1, x2.2.1, x2.2.2.1, x2.2.2.2.1, x2.2.2.2.2.1, x2.2.2.2.2.2.1, List.set x2.2.2.2.2.2.2.1 (Int.toNat e4) (1 : Int), x2.2.2.2.2.2.2.2.1, x2.2.2.2.2.2.2.2.2.1, IntKind.wrap .i64 (x2.2.2.2.2.2.2.2.2.2 + (1 : Int)))
 else none)
 else
 (some (x2.1, x2.2.1, x2.2.2.1, x2.2.2.2.1, x2.2.2.2.2.1, x2.2.2.2.2.2.1, x2.2.2.2.2.2.2.1))
def ref04_classes.L2 (f_ref04_alike : (LI × Int × LL × LI × Int × Int) → Option Bool) (x12 : LI × Int × LI × LR × Int × LL × LI × LI × LI × Int × Int × Int × Int × Int) (rec13 : (LI × Int × LI × LR × Int × LL × LI × LI × LI × Int × Int × Int × Int × Int) → Option (LI × Int × LI × LR × Int × LL × LI × LI × LI × Int × Int × Int)) : Option (LI × Int × LI × LR × Int × LL × LI × LI × LI × Int × Int × Int) :=
 bif decide (x12.2.2.2.2.2.2.2.2.2.2.2.2.2 < x12.2.2.2.2.2.2.2.2.2.2.2.2.1) then
 (bif decide (0 ≤ x12.2.2.2.2.2.2.2.2.2.2.2.2.2) && decide (x12.2.2.2.2.2.2.2.2.2.2.2.2.2 < ((List.length x12.2.2.2.2.2.2.2.1 : Nat) : Int)) then
 (at? x12.2.2.2.2.2.2.2.1 (Int.toNat x12.2.2.2.2.2.2.2.2.2.2.2.2.2)).bind fun e14 =>
 (bif decide (0 ≤ x12.2.2.2.2.2.2.2.2.2.1) && decide (x12.2.2.2.2.2.2.2.2.2.1 < ((List.length x12.2.2.2.2.2.2.1 : Nat) : Int)) then
 (at? x12.2.2.2.2.2.2.1 (Int.toNat x12.2.2.2.2.2.2.2.2.2.1)).bind fun e15 =>
 bif decide (0 ≤ e14) && decide (e14 < ((List.length x12.2.2.2.2.2.2.1 : Nat) : Int)) then
 (at? x12.2.2.2.2.2.2.1 (Int.toNat e14)).bind fun e16 =>
 bif decide (e15 = e16) then
 ((f_ref04_alike (x12.1, x12.2.2.2.2.1, x12.2.2.2.2.2.1, x12.2.2.2.2.2.2.1, x12.2.2.2.2.2.2.2.2.2.1, e14)).bind fun r17 =>
 some (x12.1, x12.2.1, x12.2.2.1, x12.2.2.2.1, x12.2.2.2.2.1, x12.2.2.2.2.2.1, x12.2.2.2.2.2.2.1, x12.2.2.2.2.2.2.2.1, x12.2.2.2.2.2.2.2.2.1, x12.2.2.2.2.2.2.2.2.2.1, x12.2.2.2.2.2.2.2.2.2.2.2.2.2, x12.2.2.2.2.2.2.2.2.2.2.1, x12.2.2.2.2.2.2.2.2.2.2.2.1, x12.2.2.2.2.2.2.2.2.2.2.2.2.1, x12.2.2.2.2.2.2.2.2.2.2.2.2.2, r17))
 else
 (some (x12.1, x12.2.1, x12.2.2.1, x12.2.2.2.1, x12.2.2.2.2.1, x12.2.2.2.2.2.1, x12.2.2.2.2.2.2.1, x12.2.2.2.2.2.2.2.1, x12.2.2.2.2.2.2.2.2.1, x12.2.2.2.2.2.2.2.2.2.1, x12.2.2.2.2.2.2.2.2.2.2.2.2.2, x12.2.2.2.2.2.2.2.2.2.2.1, x12.2.2.2.2.2.2.2.2.2.2.2.1, x12.2.2.2.2.2.2.2.2.2.2.2.2.1, x12.2.2.2.2.2.2.2.2.2.2.2.2.2, false))
 else none
 else none).bind fun x18 =>
 bif x18.2.2.2.2.2.2.2.2.2.2.2.2.2.2.2 then
 (bif decide (0 ≤ x18.2.2.2.2.2.2.2.2.2.1) && decide (x18.2.2.2.2.2.2.2.2.2.1 < ((List.length x18.2.2.2.2.2.2.2.2.1 : Nat) : Int)) then
 (at? x18.2.2.2.2.2.2.2.2.1 (Int.toNat x18.2.2.2.2.2.2.2.2.2.1)).bind fun e19 =>
 some (x18.1, x18.2.1, x18.2.2.1, x18.2.2.2.1, x18.2.2.2.2.1, x18.2.2.2.2.2.1, x18.2.2.2.2.2.2.1, x18.2.2.2.2.2.2.2.1, List.set x18.2.2.2.2.2.2.2.2.1 (Int.toNat x18.2.2.2.2.2.2.2.2.2.1) x18.2.2.2.2.2.2.2.2.2.2.1, x18.2.2.2.2.2.2.2.2.2.1, x18.2.2.2.2.2.2.2.2.2.2.2.1, x18.2.2.2.2.2.2.2.2.2.2.2.2.1)
 else none)
 else
 (rec13 (x18.1, x18.2.1, x18.2.2.1, x18.2.2.2.1, x18.2.2.2.2.1, x18.2.2.2.2.2.1, x18.2.2.2.2.2.2.1, x18.2.2.2.2.2.2.2.1, x18.2.2.2.2.2.2.2.2.1, x18.2.2.2.2.2.2.2.2.2.1, x18.2.2.2.2.2.2.2.2.2.2.2.1, x18.2.2.2.2.2.2.2.2.2.2.2.2.1, x18.2.2.2.2.2.2.2.2.2.2.2.2.2.1, IntKind.wrap .i64 (x18.2.2.2.2.2.2.2.2.2.2.2.2.2.2.1 + (1 : Int))))
 else none)
 else
 (some (x12.1, x12.2.1, x12.2.2.1, x12.2.2.2.1, x12.2.2.2.2.1, x12.2.2.2.2.2.1, x12.2.2.2.2.2.2.1, x12.2.2.2.2.2.2.2.1, x12.2.2.2.2.2.2.2.2.1, x12.2.2.2.2.2.2.2.2.2.1, x12.2.2.2.2.2.2.2.2.2.2.1, x12.2.2.2.2.2.2.2.2.2.2.2.1))
def ref04_classes.L3 (f_ref04_alike : (LI × Int × LL × LI × Int × Int) → Option Bool) (n : Nat) (x9 : LI × Int × LI × LR × Int × LL × LI × LI × LI × Int × Int) (rec10 : (LI × Int × LI × LR × Int × LL × LI × LI × LI × Int × Int) → Option (LI × Int × LI × LR × Int × LL × LI × LI)) : Option (LI × Int × LI × LR × Int × LL × LI × LI) :=
 bif decide (x9.2.2.2.2.2.2.2.2.2.2 < x9.2.2.2.2.2.2.2.2.2.1) then
 (bif decide (0 ≤ x9.2.2.2.2.2.2.2.2.2.2) && decide (x9.2.2.2.2.2.2.2.2.2.2 < ((List.length x9.2.2.2.2.2.2.2.2.1 : Nat) : Int)) then
 (at? x9.2.2.2.2.2.2.2.2.1 (Int.toNat x9.2.2.2.2.2.2.2.2.2.2)).bind fun e11 =>
 (loopN (ref04_classes.L2 f_ref04_alike) n (x9.1, x9.2.1, x9.2.2.1, x9.2.2.2.1, x9.2.2.2.2.1, x9.2.2.2.2.2.1, x9.2.2.2.2.2.2.1, x9.2.2.2.2.2.2.2.1, List.set x9.2.2.2.2.2.2.2.2.1 (Int.toNat x9.2.2.2.2.2.2.2.2.2.2) ((List.length x9.2.2.2.2.2.2.2.1 : Nat) : Int), x9.2.2.2.2.2.2.2.2.2.2, x9.2.2.2.2.2.2.2.2.2.1, x9.2.2.2.2.2.2.2.2.2.2, ((List.length x9.2.2.2.2.2.2.2.1 : Nat) : Int), (0 : Int))).bind fun x20 =>
 bif decide (0 ≤ x20.2.2.2.2.2.2.2.2.2.1) && decide (x20.2.2.2.2.2.2.2.2.2.1 < ((List.length x20.2.2.2.2.2.2.2.2.1 : Nat) : Int)) then
 (at? x20.2.2.2.2.2.2.2.2.1 (Int.toNat x20.2.2.2.2.2.2.2.2.2.1)).bind fun e21 =>
 (bif decide (e21 = ((List.length x20.2.2.2.2.2.2.2.1 : Nat) : Int)) then
 (bif decide (List.length x20.2.2.2.2.2.2.2.1 + List.length ([x20.2.2.2.2.2.2.2.2.2.1] : List Int) ≤ maxRows) then
 some (x20.1, x20.2.1, x20.2.2.1, x20.2.2.2.1, x20.2.2.2.2.1, x20.2.2.2.2.2.1, x20.2.2.2.2.2.2.1, List.append x20.2.2.2.2.2.2.2.1 ([x20.2.2.2.2.2.2.2.2.2.1] : List Int), x20.2.2.2.2.2.2.2.2.1, x20.2.2.2.2.2.2.2.2.2.2.1, x20.2.2.2.2.2.2.2.2.2.2.2)
 else none)
 else
 (some (x20.1, x20.2.1, x20.2.2.1, x20.2.2.2.1, x20.2.2.2.2.1, x20.2.2.2.2.2.1, x20.2.2.2.2.2.2.1, x20.2.2.2.2.2.2.2.1, x20.2.2.2.2.2.2.2.2.1, x20.2.2.2.2.2.2.2.2.2.2.1, x20.2.2.2.2.2.2.2.2.2.2.2))).bind fun x22 =>
 rec10 (x22.1, x22.2.1, x22.2.2.1, x22.2.2.2.1, x22.2.2.2.2.1, x22.2.2.2.2.2.1, x22.2.2.2.2.2.2.1, x22.2.2.2.2.2.2.2.1, x22.2.2.2.2.2.2.2.2.1, x22.2.2.2.2.2.2.2.2.2.1, IntKind.wrap .i64 (x22.2.2.2.2.2.2.2.2.2.2 + (1 : Int)))
 else none
 else none)
 else
 (some (x9.1, x9.2.1, x9.2.2.1, x9.2.2.2.1, x9.2.2.2.2.1, x9.2.2.2.2.2.1, x9.2.2.2.2.2.2.1, x9.2.2.2.2.2.2.2.2.1))
def ref04_classes.L4 (f_ref04_alike : (LI × Int × LL × LI × Int × Int) → Option Bool) (n : Nat) (f_ref04_many : List Int → Option Int) (x7 : LI × Int × LI × LR × Int × LL × LI) (rec8 : (LI × Int × LI × LR × Int × LL × LI) → Option (Sum Unit LI)) : Option (Sum Unit LI) :=
 bif decide (0 ≤ x7.2.1) && decide (x7.2.1 ≤ x7.2.1) && decide (x7.2.1 ≤ ((maxRows : Nat) : Int)) then
 (loopN (ref04_classes.L3 f_ref04_alike n) n (x7.1, x7.2.1, x7.2.2.1, x7.2.2.2.1, x7.2.2.2.2.1, x7.2.2.2.2.2.1, x7.2.2.2.2.2.2, ([] : List Int), List.replicate (Int.toNat x7.2.1) ((0 : Int) : Int), ((List.length (List.replicate (Int.toNat x7.2.1) ((0 : Int) : Int)) : Nat) : Int), (0 : Int))).bind fun x23 =>
 (f_ref04_many x23.2.2.2.2.2.2.2).bind fun r24 =>
 (f_ref04_many x23.2.2.2.2.2.2.1).bind fun r25 =>
 bif decide (r24 = r25) then
 ((some x23.2.2.2.2.2.2.2).bind fun r => some (Sum.inr r))
 else
 (rec8 (x23.1, x23.2.1, x23.2.2.1, x23.2.2.2.1, x23.2.2.2.2.1, x23.2.2.2.2.2.1, x23.2.2.2.2.2.2.2))
 else none
def ref04_classes.P (f_ref04_Make : (LI × Int × LI × LR) → Option (Int × LL)) (f_ref04_alike : (LI × Int × LL × LI × Int × Int) → Option Bool) (f_ref04_many : List Int → Option Int) (n : Nat) (x : LI × Int × LI × LR) : Option LI :=
 (f_ref04_Make (x.1, x.2.1, x.2.2.1, x.2.2.2)).bind fun r1 =>
 bif decide (0 ≤ x.2.1) && decide (x.2.1 ≤ x.2.1) && decide (x.2.1 ≤ ((maxRows : Nat) : Int)) then
 (loopN (ref04_classes.L1) n (x.1, x.2.1, x.2.2.1, x.2.2.2, r1.1, r1.2, List.replicate (Int.toNat x.2.1) ((0 : Int) : Int), x.2.2.1, ((List.length x.2.2.1 : Nat) : Int), (0 : Int))).bind fun x6 =>
 (loopN (ref04_classes.L4 f_ref04_alike n f_ref04_many) n (x6.1, x6.2.1, x6.2.2.1, x6.2.2.2.1, x6.2.2.2.2.1, x6.2.2.2.2.2.1, x6.2.2.2.2.2.2)).bind fun q => match q with
 | Sum.inl (_ : Unit) => none
 | Sum.inr r => some r
 else none
/-! boskage/boskageref04.Renumber -/
def ref04_Renumber.L1 (x2 : LI × Int × LI × LR × Int × LI × LR × Int × LL × LI × Int × Int) (rec3 : (LI × Int × LI × LR × Int × LI × LR × Int × LL × LI × Int × Int) → Option (LI × Int × LI × LR × Int × LI × LR × Int × LL × LI)) : Option (LI × Int × LI × LR × Int × LI × LR × Int × LL × LI) :=
 bif decide (x2.2.2.2.2.2.2.2.2.2.2.2 < x2.2.2.2.2.2.2.2.2.2.2.1) then
 (bif decide (0 ≤ x2.2.2.2.2.2.2.2.2.2.2.2) && decide (x2.2.2.2.2.2.2.2.2.2.2.2 < ((List.length x2.2.2.2.2.2.2.2.2.2.1 : Nat) : Int)) then
 (at? x2.2.2.2.2.2.2.2.2.2.1 (Int.toNat x2.2.2.2.2.2.2.2.2.2.2.2)).bind fun e4 =>
 rec3 (x2.1, x2.2.1, x2.2.2.1, x2.2.2.2.1, x2.2.2.2.2.1, x2.2.2.2.2.2.1, x2.2.2.2.2.2.2.1, x2.2.2.2.2.2.2.2.1, x2.2.2.2.2.2.2.2.2.1, List.set x2.2.2.2.2.2.2.2.2.2.1 (Int.toNat x2.2.2.2.2.2.2.2.2.2.2.2) (-1 : Int), x2.2.2.2.2.2.2.2.2.2.2.1, IntKind.wrap .i64 (x2.2.2.2.2.2.2.2.2.2.2.2 + (1 : Int)))
 else none)
 else
 (some (x2.1, x2.2.1, x2.2.2.1, x2.2.2.2.1, x2.2.2.2.2.1, x2.2.2.2.2.2.1, x2.2.2.2.2.2.2.1, x2.2.2.2.2.2.2.2.1, x2.2.2.2.2.2.2.2.2.1, x2.2.2.2.2.2.2.2.2.2.1))
def ref04_Renumber.L2 (x15 : LI × Int × LI × LR × Int × LI × LR × Int × LL × LI × LI × Int × Int × LI × LI × Int × Int × LL × Int × Int × LI × Int × Int) (rec16 : (LI × Int × LI × LR × Int × LI × LR × Int × LL × LI × LI × Int × Int × LI × LI × Int × Int × LL × Int × Int × LI × Int × Int) → Option (LI × Int × LI × LR × Int × LI × LR × Int × LL × LI × LI × Int × Int × LI × LI × Int × Int × LL × Int × Int)) : Option (LI × Int × LI × LR × Int × LI × LR × Int × LL × LI × LI × Int × Int × LI × LI × Int × Int × LL × Int × Int) :=
 bif decide (x15.2.2.2.2.2.2.2.2.2.2.2.2.2.2.2.2.2.2.2.2.2.2 < x15.2.2.2.2.2.2.2.2.2.2.2.2.2.2.2.2.2.2.2.2.2.1) then
 ((nth? x15.2.2.2.2.2.2.2.2.2.2.2.2.2.2.2.2.2.2.2.2.1 x15.2.2.2.2.2.2.2.2.2.2.2.2.2.2.2.2.2.2.2.2.2.2).bind fun e17 =>
 bif decide (0 ≤ e17) && decide (e17 < ((List.length x15.2.2.2.2.2.2.2.2.2.2.1 : Nat) : Int)) then
 (at? x15.2.2.2.2.2.2.2.2.2.2.1 (Int.toNat e17)).bind fun e18 =>
 bif decide (List.length x15.2.2.2.2.2.2.2.2.2.2.2.2.2.1 + List.length ([e18] : List Int) ≤ maxRows) then
 rec16 (x15.1, x15.2.1, x15.2.2.1, x15.2.2.2.1, x15.2.2.2.2.1, x15.2.2.2.2.2.1, x15.2.2.2.2.2.2.1, x15.2.2.2.2.2.2.2.1, x15.2.2.2.2.2.2.2.2.1, x15.2.2.2.2.2.2.2.2.2.1, x15.2.2.2.2.2.2.2.2.2.2.1, x15.2.2.2.2.2.2.2.2.2.2.2.1, x15.2.2.2.2.2.2.2.2.2.2.2.2.1, List.append x15.2.2.2.2.2.2.2.2.2.2.2.2.2.1 ([e18] : List Int), x15.2.2.2.2.2.2.2.2.2.2.2.2.2.2.1, x15.2.2.2.2.2.2.2.2.2.2.2.2.2.2.2.1, x15.2.2.2.2.2.2.2.2.2.2.2.2.2.2.2.2.1, x15.2.2.2.2.2.2.2.2.2.2.2.2.2.2.2.2.2.1, x15.2.2.2.2.2.2.2.2.2.2.2.2.2.2.2.2.2.2.1, x15.2.2.2.2.2.2.2.2.2.2.2.2.2.2.2.2.2.2.2.1, x15.2.2.2.2.2.2.2.2.2.2.2.2.2.2.2.2.2.2.2.2.1, x15.2.2.2.2.2.2.2.2.2.2.2.2.2.2.2.2.2.2.2.2.2.1, IntKind.wrap .i64 (x15.2.2.2.2.2.2.2.2.2.2.2.2.2.2.2.2.2.2.2.2.2.2 + (1 : Int)))
 else none
 else none)
 else
 (some (x15.1, x15.2.1, x15.2.2.1, x15.2.2.2.1, x15.2.2.2.2.1, x15.2.2.2.2.2.1, x15.2.2.2.2.2.2.1, x15.2.2.2.2.2.2.2.1, x15.2.2.2.2.2.2.2.2.1, x15.2.2.2.2.2.2.2.2.2.1, x15.2.2.2.2.2.2.2.2.2.2.1, x15.2.2.2.2.2.2.2.2.2.2.2.1, x15.2.2.2.2.2.2.2.2.2.2.2.2.1, x15.2.2.2.2.2.2.2.2.2.2.2.2.2.1, x15.2.2.2.2.2.2.2.2.2.2.2.2.2.2.1, x15.2.2.2.2.2.2.2.2.2.2.2.2.2.2.2.1, x15.2.2.2.2.2.2.2.2.2.2.2.2.2.2.2.2.1, x15.2.2.2.2.2.2.2.2.2.2.2.2.2.2.2.2.2.1, x15.2.2.2.2.2.2.2.2.2.2.2.2.2.2.2.2.2.2.1, x15.2.2.2.2.2.2.2.2.2.2.2.2.2.2.2.2.2.2.2.1))
def ref04_Renumber.L3 (n : Nat) (f_ref04_Table_Next : (Int × LL × Int × LI) → Option Int) (x12 : LI × Int × LI × LR × Int × LI × LR × Int × LL × LI × LI × Int × Int × LI × Int × Int × LL × Int × Int) (rec13 : (LI × Int × LI × LR × Int × LI × LR × Int × LL × LI × LI × Int × Int × LI × Int × Int × LL × Int × Int) → Option (LI × Int × LI × LR × Int × LI × LR × Int × LL × LI × LI × Int × LI × Int × Int)) : Option (LI × Int × LI × LR × Int × LI × LR × Int × LL × LI × LI × Int × LI × Int × Int) :=
 bif decide (x12.2.2.2.2.2.2.2.2.2.2.2.2.2.2.2.2.2.2 < x12.2.2.2.2.2.2.2.2.2.2.2.2.2.2.2.2.2.1) then
 (bif decide (0 ≤ x12.2.2.2.2.2.2.2.2.2.2.2.2.2.2.2.2.2.2) && decide (x12.2.2.2.2.2.2.2.2.2.2.2.2.2.2.2.2.2.2 < ((List.length x12.2.2.2.2.2.2.2.2.2.2.2.2.2.2.2.2.1 : Nat) : Int)) then
 (at? x12.2.2.2.2.2.2.2.2.2.2.2.2.2.2.2.2.1 (Int.toNat x12.2.2.2.2.2.2.2.2.2.2.2.2.2.2.2.2.2.2)).bind fun e14 =>
 (loopN (ref04_Renumber.L2) n (x12.1, x12.2.1, x12.2.2.1, x12.2.2.2.1, x12.2.2.2.2.1, x12.2.2.2.2.2.1, x12.2.2.2.2.2.2.1, x12.2.2.2.2.2.2.2.1, x12.2.2.2.2.2.2.2.2.1, x12.2.2.2.2.2.2.2.2.2.1, x12.2.2.2.2.2.2.2.2.2.2.1, x12.2.2.2.2.2.2.2.2.2.2.2.1, x12.2.2.2.2.2.2.2.2.2.2.2.2.1, ([] : List Int), x12.2.2.2.2.2.2.2.2.2.2.2.2.2.1, x12.2.2.2.2.2.2.2.2.2.2.2.2.2.2.1, x12.2.2.2.2.2.2.2.2.2.2.2.2.2.2.2.1, x12.2.2.2.2.2.2.2.2.2.2.2.2.2.2.2.2.1, x12.2.2.2.2.2.2.2.2.2.2.2.2.2.2.2.2.2.1, x12.2.2.2.2.2.2.2.2.2.2.2.2.2.2.2.2.2.2, e14, ((List.length e14 : Nat) : Int), (0 : Int))).bind fun x19 =>
 (f_ref04_Table_Next (x19.2.2.2.2.2.2.2.1, x19.2.2.2.2.2.2.2.2.1, x19.2.2.2.2.2.2.2.2.2.2.2.2.1, x19.2.2.2.2.2.2.2.2.2.2.2.2.2.1)).bind fun r20 =>
 (bif decide ((0 : Int) ≤ r20) then
 (bif decide (0 ≤ r20) && decide (r20 < ((List.length x19.2.2.2.2.2.2.2.2.2.1 : Nat) : Int)) then
 (at? x19.2.2.2.2.2.2.2.2.2.1 (Int.toNat r20)).bind fun e21 =>
 some (x19.1, x19.2.1, x19.2.2.1, x19.2.2.2.1, x19.2.2.2.2.1, x19.2.2.2.2.2.1, x19.2.2.2.2.2.2.1, x19.2.2.2.2.2.2.2.1, x19.2.2.2.2.2.2.2.2.1, x19.2.2.2.2.2.2.2.2.2.1, x19.2.2.2.2.2.2.2.2.2.2.1, x19.2.2.2.2.2.2.2.2.2.2.2.1, x19.2.2.2.2.2.2.2.2.2.2.2.2.1, r20, x19.2.2.2.2.2.2.2.2.2.2.2.2.2.2.1, x19.2.2.2.2.2.2.2.2.2.2.2.2.2.2.2.1, x19.2.2.2.2.2.2.2.2.2.2.2.2.2.2.2.2.1, x19.2.2.2.2.2.2.2.2.2.2.2.2.2.2.2.2.2.1, x19.2.2.2.2.2.2.2.2.2.2.2.2.2.2.2.2.2.2.1, x19.2.2.2.2.2.2.2.2.2.2.2.2.2.2.2.2.2.2.2, decide (e21 < (0 : Int)))
 else none)
 else
 (some (x19.1, x19.2.1, x19.2.2.1, x19.2.2.2.1, x19.2.2.2.2.1, x19.2.2.2.2.2.1, x19.2.2.2.2.2.2.1, x19.2.2.2.2.2.2.2.1, x19.2.2.2.2.2.2.2.2.1, x19.2.2.2.2.2.2.2.2.2.1, x19.2.2.2.2.2.2.2.2.2.2.1, x19.2.2.2.2.2.2.2.2.2.2.2.1, x19.2.2.2.2.2.2.2.2.2.2.2.2.1, r20, x19.2.2.2.2.2.2.2.2.2.2.2.2.2.2.1, x19.2.2.2.2.2.2.2.2.2.2.2.2.2.2.2.1, x19.2.2.2.2.2.2.2.2.2.2.2.2.2.2.2.2.1, x19.2.2.2.2.2.2.2.2.2.2.2.2.2.2.2.2.2.1, x19.2.2.2.2.2.2.2.2.2.2.2.2.2.2.2.2.2.2.1, x19.2.2.2.2.2.2.2.2.2.2.2.2.2.2.2.2.2.2.2, false))).bind fun x22 =>
 (bif x22.2.2.2.2.2.2.2.2.2.2.2.2.2.2.2.2.2.2.2.2 then
 (bif decide (0 ≤ x22.2.2.2.2.2.2.2.2.2.2.2.2.2.1) && decide (x22.2.2.2.2.2.2.2.2.2.2.2.2.2.1 < ((List.length x22.2.2.2.2.2.2.2.2.2.1 : Nat) : Int)) then
 (at? x22.2.2.2.2.2.2.2.2.2.1 (Int.toNat x22.2.2.2.2.2.2.2.2.2.2.2.2.2.1)).bind fun e23 =>
 bif decide (List.length x22.2.2.2.2.2.2.2.2.2.2.1 + List.length ([x22.2.2.2.2.2.2.2.2.2.2.2.2.2.1] : List Int) ≤ maxRows) then
 some (x22.1, x22.2.1, x22.2.2.1, x22.2.2.2.1, x22.2.2.2.2.1, x22.2.2.2.2.2.1, x22.2.2.2.2.2.2.1, x22.2.2.2.2.2.2.2.1, x22.2.2.2.2.2.2.2.2.1, List.set x22.2.2.2.2.2.2.2.2.2.1 (Int.toNat x22.2.2.2.2.2.2.2.2.2.2.2.2.2.1) ((List.length x22.2.2.2.2.2.2.2.2.2.2.1 : Nat) : Int), List.append x22.2.2.2.2.2.2.2.2.2.2.1 ([x22.2.2.2.2.2.2.2.2.2.2.2.2.2.1] : List Int), x22.2.2.2.2.2.2.2.2.2.2.2.1, x22.2.2.2.2.2.2.2.2.2.2.2.2.1, x22.2.2.2.2.2.2.2.2.2.2.2.2.2.2.1, x22.2.2.2.2.2.2.2.2.2.2.2.2.2.2.2.1, x22.2.2.2.2.2.2.2.2.2.2.2.2.2.2.2.2.1, x22.2.2.2.2.2.2.2.2.2.2.2.2.2.2.2.2.2.1, x22.2.2.2.2.2.2.2.2.2.2.2.2.2.2.2.2.2.2.1, x22.2.2.2.2.2.2.2.2.2.2.2.2.2.2.2.2.2.2.2.1)
 else none
 else none)
 else
 (some (x22.1, x22.2.1, x22.2.2.1, x22.2.2.2.1, x22.2.2.2.2.1, x22.2.2.2.2.2.1, x22.2.2.2.2.2.2.1, x22.2.2.2.2.2.2.2.1, x22.2.2.2.2.2.2.2.2.1, x22.2.2.2.2.2.2.2.2.2.1, x22.2.2.2.2.2.2.2.2.2.2.1, x22.2.2.2.2.2.2.2.2.2.2.2.1, x22.2.2.2.2.2.2.2.2.2.2.2.2.1, x22.2.2.2.2.2.2.2.2.2.2.2.2.2.2.1, x22.2.2.2.2.2.2.2.2.2.2.2.2.2.2.2.1, x22.2.2.2.2.2.2.2.2.2.2.2.2.2.2.2.2.1, x22.2.2.2.2.2.2.2.2.2.2.2.2.2.2.2.2.2.1, x22.2.2.2.2.2.2.2.2.2.2.2.2.2.2.2.2.2.2.1, x22.2.2.2.2.2.2.2.2.2.2.2.2.2.2.2.2.2.2.2.1))).bind fun x24 =>
 rec13 (x24.1, x24.2.1, x24.2.2.1, x24.2.2.2.1, x24.2.2.2.2.1, x24.2.2.2.2.2.1, x24.2.2.2.2.2.2.1, x24.2.2.2.2.2.2.2.1, x24.2.2.2.2.2.2.2.2.1, x24.2.2.2.2.2.2.2.2.2.1, x24.2.2.2.2.2.2.2.2.2.2.1, x24.2.2.2.2.2.2.2.2.2.2.2.1, x24.2.2.2.2.2.2.2.2.2.2.2.2.1, x24.2.2.2.2.2.2.2.2.2.2.2.2.2.1, x24.2.2.2.2.2.2.2.2.2.2.2.2.2.2.1, x24.2.2.2.2.2.2.2.2.2.2.2.2.2.2.2.1, x24.2.2.2.2.2.2.2.2.2.2.2.2.2.2.2.2.1, x24.2.2.2.2.2.2.2.2.2.2.2.2.2.2.2.2.2.1, IntKind.wrap .i64 (x24.2.2.2.2.2.2.2.2.2.2.2.2.2.2.2.2.2.2 + (1 : Int)))
 else none)
 else
 (some (x12.1, x12.2.1, x12.2.2.1, x12.2.2.2.1, x12.2.2.2.2.1, x12.2.2.2.2.2.1, x12.2.2.2.2.2.2.1, x12.2.2.2.2.2.2.2.1, x12.2.2.2.2.2.2.2.2.1, x12.2.2.2.2.2.2.2.2.2.1, x12.2.2.2.2.2.2.2.2.2.2.1, x12.2.2.2.2.2.2.2.2.2.2.2.1, x12.2.2.2.2.2.2.2.2.2.2.2.2.2.1, x12.2.2.2.2.2.2.2.2.2.2.2.2.2.2.1, x12.2.2.2.2.2.2.2.2.2.2.2.2.2.2.2.1))
def ref04_Renumber.L4 (f_ref04_Lists : (Int × Int) → Option LL) (n : Nat) (f_ref04_Table_Next : (Int × LL × Int × LI) → Option Int) (x8 : LI × Int × LI × LR × Int × LI × LR × Int × LL × LI × LI × Int × LI × Int × Int) (rec9 : (LI × Int × LI × LR × Int × LI × LR × Int × LL × LI × LI × Int × LI × Int × Int) → Option (LI × Int × LI × LR × Int × LI × LR × Int × LL × LI × LI × Int)) : Option (LI × Int × LI × LR × Int × LI × LR × Int × LL × LI × LI × Int) :=
 bif decide (x8.2.2.2.2.2.2.2.2.2.2.2.2.2.2 < x8.2.2.2.2.2.2.2.2.2.2.2.2.2.1) then
 ((nth? x8.2.2.2.2.2.2.2.2.2.2.2.2.1 x8.2.2.2.2.2.2.2.2.2.2.2.2.2.2).bind fun e10 =>
 (f_ref04_Lists (x8.2.2.2.2.2.2.2.2.2.2.2.1, e10)).bind fun r11 =>
 (loopN (ref04_Renumber.L3 n f_ref04_Table_Next) n (x8.1, x8.2.1, x8.2.2.1, x8.2.2.2.1, x8.2.2.2.2.1, x8.2.2.2.2.2.1, x8.2.2.2.2.2.2.1, x8.2.2.2.2.2.2.2.1, x8.2.2.2.2.2.2.2.2.1, x8.2.2.2.2.2.2.2.2.2.1, x8.2.2.2.2.2.2.2.2.2.2.1, x8.2.2.2.2.2.2.2.2.2.2.2.1, x8.2.2.2.2.2.2.2.2.2.2.2.2.2.2, x8.2.2.2.2.2.2.2.2.2.2.2.2.1, x8.2.2.2.2.2.2.2.2.2.2.2.2.2.1, x8.2.2.2.2.2.2.2.2.2.2.2.2.2.2, r11, ((List.length r11 : Nat) : Int), (0 : Int))).bind fun x25 =>
 rec9 (x25.1, x25.2.1, x25.2.2.1, x25.2.2.2.1, x25.2.2.2.2.1, x25.2.2.2.2.2.1, x25.2.2.2.2.2.2.1, x25.2.2.2.2.2.2.2.1, x25.2.2.2.2.2.2.2.2.1, x25.2.2.2.2.2.2.2.2.2.1, x25.2.2.2.2.2.2.2.2.2.2.1, x25.2.2.2.2.2.2.2.2.2.2.2.1, x25.2.2.2.2.2.2.2.2.2.2.2.2.1, x25.2.2.2.2.2.2.2.2.2.2.2.2.2.1, IntKind.wrap .i64 (x25.2.2.2.2.2.2.2.2.2.2.2.2.2.2 + (1 : Int))))
 else
 (some (x8.1, x8.2.1, x8.2.2.1, x8.2.2.2.1, x8.2.2.2.2.1, x8.2.2.2.2.2.1, x8.2.2.2.2.2.2.1, x8.2.2.2.2.2.2.2.1, x8.2.2.2.2.2.2.2.2.1, x8.2.2.2.2.2.2.2.2.2.1, x8.2.2.2.2.2.2.2.2.2.2.1, x8.2.2.2.2.2.2.2.2.2.2.2.1))
def ref04_Renumber.L5 (f_ref04_Lists : (Int × Int) → Option LL) (n : Nat) (f_ref04_Table_Next : (Int × LL × Int × LI) → Option Int) (x6 : LI × Int × LI × LR × Int × LI × LR × Int × LL × LI × LI) (rec7 : (LI × Int × LI × LR × Int × LI × LR × Int × LL × LI × LI) → Option (Int × LI × LR × Int × LI × LR × LI × LI)) : Option (Int × LI × LR × Int × LI × LR × LI × LI) :=
 (loopN (ref04_Renumber.L4 f_ref04_Lists n f_ref04_Table_Next) n (x6.1, x6.2.1, x6.2.2.1, x6.2.2.2.1, x6.2.2.2.2.1, x6.2.2.2.2.2.1, x6.2.2.2.2.2.2.1, x6.2.2.2.2.2.2.2.1, x6.2.2.2.2.2.2.2.2.1, x6.2.2.2.2.2.2.2.2.2.1, x6.2.2.2.2.2.2.2.2.2.2, ((List.length x6.2.2.2.2.2.2.2.2.2.2 : Nat) : Int), x6.1, ((List.length x6.1 : Nat) : Int), (0 : Int))).bind fun x26 =>
 bif decide (((List.length x26.2.2.2.2.2.2.2.2.2.2.1 : Nat) : Int) = x26.2.2.2.2.2.2.2.2.2.2.2) then
 (some (x26.2.1, x26.2.2.1, x26.2.2.2.1, x26.2.2.2.2.1, x26.2.2.2.2.2.1, x26.2.2.2.2.2.2.1, x26.2.2.2.2.2.2.2.2.2.1, x26.2.2.2.2.2.2.2.2.2.2.1))
 else
 (rec7 (x26.1, x26.2.1, x26.2.2.1, x26.2.2.2.1, x26.2.2.2.2.1, x26.2.2.2.2.2.1, x26.2.2.2.2.2.2.1, x26.2.2.2.2.2.2.2.1, x26.2.2.2.2.2.2.2.2.1, x26.2.2.2.2.2.2.2.2.2.1, x26.2.2.2.2.2.2.2.2.2.2.1))
def ref04_Renumber.L6 (f_ref03_In : (LI × Int) → Option Bool) (x28 : Int × LI × LR × Int × LI × LR × LI × LI × Int × LI × LR × Int × Int) (rec29 : (Int × LI × LR × Int × LI × LR × LI × LI × Int × LI × LR × Int × Int) → Option (Int × LI × LR × Int × LI × LR × LI × Int × LI × LR)) : Option (Int × LI × LR × Int × LI × LR × LI × Int × LI × LR) :=
 bif decide (x28.2.2.2.2.2.2.2.2.2.2.2.2 < x28.2.2.2.2.2.2.2.2.2.2.2.1) then
 (bif decide (0 ≤ x28.2.2.2.2.2.2.2.2.2.2.2.2) && decide (x28.2.2.2.2.2.2.2.2.2.2.2.2 < ((List.length x28.2.2.2.2.2.2.2.1 : Nat) : Int)) then
 (at? x28.2.2.2.2.2.2.2.1 (Int.toNat x28.2.2.2.2.2.2.2.2.2.2.2.2)).bind fun e30 =>
 (f_ref03_In (x28.2.1, e30)).bind fun r31 =>
 (bif r31 then
 (bif decide (List.length x28.2.2.2.2.2.2.2.2.2.1 + List.length ([x28.2.2.2.2.2.2.2.2.2.2.2.2] : List Int) ≤ maxRows) then
 some (x28.1, x28.2.1, x28.2.2.1, x28.2.2.2.1, x28.2.2.2.2.1, x28.2.2.2.2.2.1, x28.2.2.2.2.2.2.1, x28.2.2.2.2.2.2.2.1, x28.2.2.2.2.2.2.2.2.1, List.append x28.2.2.2.2.2.2.2.2.2.1 ([x28.2.2.2.2.2.2.2.2.2.2.2.2] : List Int), x28.2.2.2.2.2.2.2.2.2.2.1, x28.2.2.2.2.2.2.2.2.2.2.2.1, x28.2.2.2.2.2.2.2.2.2.2.2.2)
 else none)
 else
 (some (x28.1, x28.2.1, x28.2.2.1, x28.2.2.2.1, x28.2.2.2.2.1, x28.2.2.2.2.2.1, x28.2.2.2.2.2.2.1, x28.2.2.2.2.2.2.2.1, x28.2.2.2.2.2.2.2.2.1, x28.2.2.2.2.2.2.2.2.2.1, x28.2.2.2.2.2.2.2.2.2.2.1, x28.2.2.2.2.2.2.2.2.2.2.2.1, x28.2.2.2.2.2.2.2.2.2.2.2.2))).bind fun x32 =>
 rec29 (x32.1, x32.2.1, x32.2.2.1, x32.2.2.2.1, x32.2.2.2.2.1, x32.2.2.2.2.2.1, x32.2.2.2.2.2.2.1, x32.2.2.2.2.2.2.2.1, x32.2.2.2.2.2.2.2.2.1, x32.2.2.2.2.2.2.2.2.2.1, x32.2.2.2.2.2.2.2.2.2.2.1, x32.2.2.2.2.2.2.2.2.2.2.2.1, IntKind.wrap .i64 (x32.2.2.2.2.2.2.2.2.2.2.2.2 + (1 : Int)))
 else none)
 else
 (some (x28.1, x28.2.1, x28.2.2.1, x28.2.2.2.1, x28.2.2.2.2.1, x28.2.2.2.2.2.1, x28.2.2.2.2.2.2.1, x28.2.2.2.2.2.2.2.2.1, x28.2.2.2.2.2.2.2.2.2.1, x28.2.2.2.2.2.2.2.2.2.2.1))
def ref04_Renumber.L7 (x38 : Int × LI × LR × LI × Int × LI × LR × Int × LI × Int × LR × Int × Int × LI × Int × Int) (rec39 : (Int × LI × LR × LI × Int × LI × LR × Int × LI × Int × LR × Int × Int × LI × Int × Int) → Option (Int × LI × LR × LI × Int × LI × LR × Int × LI × Int × LR × Int × Int)) : Option (Int × LI × LR × LI × Int × LI × LR × Int × LI × Int × LR × Int × Int) :=
 bif decide (x38.2.2.2.2.2.2.2.2.2.2.2.2.2.2.2 < x38.2.2.2.2.2.2.2.2.2.2.2.2.2.2.1) then
 ((nth? x38.2.2.2.2.2.2.2.2.2.2.2.2.2.1 x38.2.2.2.2.2.2.2.2.2.2.2.2.2.2.2).bind fun e40 =>
 bif decide (0 ≤ e40) && decide (e40 < ((List.length x38.2.2.2.1 : Nat) : Int)) then
 (at? x38.2.2.2.1 (Int.toNat e40)).bind fun e41 =>
 bif decide (List.length x38.2.2.2.2.2.2.2.2.1 + List.length ([e41] : List Int) ≤ maxRows) then
 rec39 (x38.1, x38.2.1, x38.2.2.1, x38.2.2.2.1, x38.2.2.2.2.1, x38.2.2.2.2.2.1, x38.2.2.2.2.2.2.1, x38.2.2.2.2.2.2.2.1, List.append x38.2.2.2.2.2.2.2.2.1 ([e41] : List Int), x38.2.2.2.2.2.2.2.2.2.1, x38.2.2.2.2.2.2.2.2.2.2.1, x38.2.2.2.2.2.2.2.2.2.2.2.1, x38.2.2.2.2.2.2.2.2.2.2.2.2.1, x38.2.2.2.2.2.2.2.2.2.2.2.2.2.1, x38.2.2.2.2.2.2.2.2.2.2.2.2.2.2.1, IntKind.wrap .i64 (x38.2.2.2.2.2.2.2.2.2.2.2.2.2.2.2 + (1 : Int)))
 else none
 else none)
 else
 (some (x38.1, x38.2.1, x38.2.2.1, x38.2.2.2.1, x38.2.2.2.2.1, x38.2.2.2.2.2.1, x38.2.2.2.2.2.2.1, x38.2.2.2.2.2.2.2.1, x38.2.2.2.2.2.2.2.2.1, x38.2.2.2.2.2.2.2.2.2.1, x38.2.2.2.2.2.2.2.2.2.2.1, x38.2.2.2.2.2.2.2.2.2.2.2.1, x38.2.2.2.2.2.2.2.2.2.2.2.2.1))
def ref04_Renumber.L8 (n : Nat) (x34 : Int × LI × LR × LI × Int × LI × LR × LR × Int × Int) (rec35 : (Int × LI × LR × LI × Int × LI × LR × LR × Int × Int) → Option (Int × LI × LR × Int × LI × LR)) : Option (Int × LI × LR × Int × LI × LR) :=
 bif decide (x34.2.2.2.2.2.2.2.2.2 < x34.2.2.2.2.2.2.2.2.1) then
 ((nth? x34.2.2.2.2.2.2.2.1 x34.2.2.2.2.2.2.2.2.2).bind fun e36 =>
 bif decide (0 ≤ e36.2.2) && decide (e36.2.2 < ((List.length x34.2.2.2.1 : Nat) : Int)) then
 (at? x34.2.2.2.1 (Int.toNat e36.2.2)).bind fun e37 =>
 (loopN (ref04_Renumber.L7) n (x34.1, x34.2.1, x34.2.2.1, x34.2.2.2.1, x34.2.2.2.2.1, x34.2.2.2.2.2.1, x34.2.2.2.2.2.2.1, e36.1, ([] : List Int), e37, x34.2.2.2.2.2.2.2.1, x34.2.2.2.2.2.2.2.2.1, x34.2.2.2.2.2.2.2.2.2, e36.2.1, ((List.length e36.2.1 : Nat) : Int), (0 : Int))).bind fun x42 =>
 bif decide (List.length x42.2.2.2.2.2.2.1 + List.length ([(x42.2.2.2.2.2.2.2.1, x42.2.2.2.2.2.2.2.2.1, x42.2.2.2.2.2.2.2.2.2.1)] : List Ru) ≤ maxRows) then
 rec35 (x42.1, x42.2.1, x42.2.2.1, x42.2.2.2.1, x42.2.2.2.2.1, x42.2.2.2.2.2.1, List.append x42.2.2.2.2.2.2.1 ([(x42.2.2.2.2.2.2.2.1, x42.2.2.2.2.2.2.2.2.1, x42.2.2.2.2.2.2.2.2.2.1)] : List Ru), x42.2.2.2.2.2.2.2.2.2.2.1, x42.2.2.2.2.2.2.2.2.2.2.2.1, IntKind.wrap .i64 (x42.2.2.2.2.2.2.2.2.2.2.2.2 + (1 : Int)))
 else none
 else none)
 else
 (some (x34.1, x34.2.1, x34.2.2.1, x34.2.2.2.2.1, x34.2.2.2.2.2.1, x34.2.2.2.2.2.2.1))
def ref04_Renumber.P (f_ref03_In : (LI × Int) → Option Bool) (f_ref03_Sort : List Ru → Option LR) (f_ref04_Lists : (Int × Int) → Option LL) (f_ref04_Make : (LI × Int × LI × LR) → Option (Int × LL)) (f_ref04_Table_Next : (Int × LL × Int × LI) → Option Int) (n : Nat) (x : LI × Int × LI × LR) : Option (Int × LI × LR) :=
 (f_ref04_Make (x.1, x.2.1, x.2.2.1, x.2.2.2)).bind fun r1 =>
 bif decide (0 ≤ x.2.1) && decide (x.2.1 ≤ x.2.1) && decide (x.2.1 ≤ ((maxRows : Nat) : Int)) then
 (loopN (ref04_Renumber.L1) n (x.1, x.2.1, x.2.2.1, x.2.2.2, (0 : Int), ([] : List Int), ([] : List Ru), r1.1, r1.2, List.replicate (Int.toNat x.2.1) ((0 : Int) : Int), ((List.length (List.replicate (Int.toNat x.2.1) ((0 : Int) : Int)) : Nat) : Int), (0 : Int))).bind fun x5 =>
 (loopN (ref04_Renumber.L5 f_ref04_Lists n f_ref04_Table_Next) n (x5.1, x5.2.1, x5.2.2.1, x5.2.2.2.1, x5.2.2.2.2.1, x5.2.2.2.2.2.1, x5.2.2.2.2.2.2.1, x5.2.2.2.2.2.2.2.1, x5.2.2.2.2.2.2.2.2.1, x5.2.2.2.2.2.2.2.2.2, ([] : List Int))).bind fun x27 =>
 (loopN (ref04_Renumber.L6 f_ref03_In) n (x27.1, x27.2.1, x27.2.2.1, x27.2.2.2.1, x27.2.2.2.2.1, x27.2.2.2.2.2.1, x27.2.2.2.2.2.2.1, x27.2.2.2.2.2.2.2, ((List.length x27.2.2.2.2.2.2.2 : Nat) : Int), ([] : List Int), ([] : List Ru), ((List.length x27.2.2.2.2.2.2.2 : Nat) : Int), (0 : Int))).bind fun x33 =>
 (loopN (ref04_Renumber.L8 n) n (x33.2.2.2.1, x33.2.2.2.2.1, x33.2.2.2.2.2.1, x33.2.2.2.2.2.2.1, x33.2.2.2.2.2.2.2.1, x33.2.2.2.2.2.2.2.2.1, x33.2.2.2.2.2.2.2.2.2, x33.2.2.1, ((List.length x33.2.2.1 : Nat) : Int), (0 : Int))).bind fun x43 =>
 (f_ref03_Sort x43.2.2.2.2.2).bind fun r44 =>
 some (x43.2.2.2.1, x43.2.2.2.2.1, r44)
 else none
/-! boskage/boskageref04.Minimal -/
def ref04_Minimal.L1 (x7 : LI × Int × LI × LR × Int × LI × LR × LI × Int × LI × LR × Int × Int) (rec8 : (LI × Int × LI × LR × Int × LI × LR × LI × Int × LI × LR × Int × Int) → Option (LI × Int × LI × LR × Int × LI × LR × LI × Int × LI × LR)) : Option (LI × Int × LI × LR × Int × LI × LR × LI × Int × LI × LR) :=
 bif decide (x7.2.2.2.2.2.2.2.2.2.2.2.2 < x7.2.2.2.2.2.2.2.2.2.2.2.1) then
 (bif decide (0 ≤ x7.2.2.2.2.2.2.2.2.2.2.2.2) && decide (x7.2.2.2.2.2.2.2.2.2.2.2.2 < ((List.length x7.2.2.2.2.2.2.2.1 : Nat) : Int)) then
 (at? x7.2.2.2.2.2.2.2.1 (Int.toNat x7.2.2.2.2.2.2.2.2.2.2.2.2)).bind fun e9 =>
 rec8 (x7.1, x7.2.1, x7.2.2.1, x7.2.2.2.1, x7.2.2.2.2.1, x7.2.2.2.2.2.1, x7.2.2.2.2.2.2.1, x7.2.2.2.2.2.2.2.1, max x7.2.2.2.2.2.2.2.2.1 (IntKind.wrap .i64 (e9 + (1 : Int))), x7.2.2.2.2.2.2.2.2.2.1, x7.2.2.2.2.2.2.2.2.2.2.1, x7.2.2.2.2.2.2.2.2.2.2.2.1, IntKind.wrap .i64 (x7.2.2.2.2.2.2.2.2.2.2.2.2 + (1 : Int)))
 else none)
 else
 (some (x7.1, x7.2.1, x7.2.2.1, x7.2.2.2.1, x7.2.2.2.2.1, x7.2.2.2.2.2.1, x7.2.2.2.2.2.2.1, x7.2.2.2.2.2.2.2.1, x7.2.2.2.2.2.2.2.2.1, x7.2.2.2.2.2.2.2.2.2.1, x7.2.2.2.2.2.2.2.2.2.2.1))
def ref04_Minimal.L2 (f_ref03_In : (LI × Int) → Option Bool) (f_ref03_Insert : (LI × Int) → Option LI) (x11 : LI × Int × LI × LR × Int × LI × LR × LI × Int × LI × LR × Int × Int) (rec12 : (LI × Int × LI × LR × Int × LI × LR × LI × Int × LI × LR × Int × Int) → Option (LI × Int × LI × LR × Int × LI × LR × LI × Int × LI × LR)) : Option (LI × Int × LI × LR × Int × LI × LR × LI × Int × LI × LR) :=
 bif decide (x11.2.2.2.2.2.2.2.2.2.2.2.2 < x11.2.2.2.2.2.2.2.2.2.2.2.1) then
 (bif decide (0 ≤ x11.2.2.2.2.2.2.2.2.2.2.2.2) && decide (x11.2.2.2.2.2.2.2.2.2.2.2.2 < ((List.length x11.2.2.2.2.2.2.2.1 : Nat) : Int)) then
 (at? x11.2.2.2.2.2.2.2.1 (Int.toNat x11.2.2.2.2.2.2.2.2.2.2.2.2)).bind fun e13 =>
 (f_ref03_In (x11.2.2.2.2.2.1, x11.2.2.2.2.2.2.2.2.2.2.2.2)).bind fun r14 =>
 (bif r14 then
 ((f_ref03_Insert (x11.2.2.2.2.2.2.2.2.2.1, e13)).bind fun r15 =>
 some (x11.1, x11.2.1, x11.2.2.1, x11.2.2.2.1, x11.2.2.2.2.1, x11.2.2.2.2.2.1, x11.2.2.2.2.2.2.1, x11.2.2.2.2.2.2.2.1, x11.2.2.2.2.2.2.2.2.1, r15, x11.2.2.2.2.2.2.2.2.2.2.1, x11.2.2.2.2.2.2.2.2.2.2.2.1, x11.2.2.2.2.2.2.2.2.2.2.2.2))
 else
 (some (x11.1, x11.2.1, x11.2.2.1, x11.2.2.2.1, x11.2.2.2.2.1, x11.2.2.2.2.2.1, x11.2.2.2.2.2.2.1, x11.2.2.2.2.2.2.2.1, x11.2.2.2.2.2.2.2.2.1, x11.2.2.2.2.2.2.2.2.2.1, x11.2.2.2.2.2.2.2.2.2.2.1, x11.2.2.2.2.2.2.2.2.2.2.2.1, x11.2.2.2.2.2.2.2.2.2.2.2.2))).bind fun x16 =>
 rec12 (x16.1, x16.2.1, x16.2.2.1, x16.2.2.2.1, x16.2.2.2.2.1, x16.2.2.2.2.2.1, x16.2.2.2.2.2.2.1, x16.2.2.2.2.2.2.2.1, x16.2.2.2.2.2.2.2.2.1, x16.2.2.2.2.2.2.2.2.2.1, x16.2.2.2.2.2.2.2.2.2.2.1, x16.2.2.2.2.2.2.2.2.2.2.2.1, IntKind.wrap .i64 (x16.2.2.2.2.2.2.2.2.2.2.2.2 + (1 : Int)))
 else none)
 else
 (some (x11.1, x11.2.1, x11.2.2.1, x11.2.2.2.1, x11.2.2.2.2.1, x11.2.2.2.2.2.1, x11.2.2.2.2.2.2.1, x11.2.2.2.2.2.2.2.1, x11.2.2.2.2.2.2.2.2.1, x11.2.2.2.2.2.2.2.2.2.1, x11.2.2.2.2.2.2.2.2.2.2.1))
def ref04_Minimal.L3 (x22 : LI × Int × LI × LR × Int × LI × LR × LI × Int × LI × LR × Int × LI × Int × Int × Int × LI × Int × Int) (rec23 : (LI × Int × LI × LR × Int × LI × LR × LI × Int × LI × LR × Int × LI × Int × Int × Int × LI × Int × Int) → Option (LI × Int × LI × LR × Int × LI × LR × LI × Int × LI × LR × Int × LI × Int × Int × Int)) : Option (LI × Int × LI × LR × Int × LI × LR × LI × Int × LI × LR × Int × LI × Int × Int × Int) :=
 bif decide (x22.2.2.2.2.2.2.2.2.2.2.2.2.2.2.2.2.2.2 < x22.2.2.2.2.2.2.2.2.2.2.2.2.2.2.2.2.2.1) then
 ((nth? x22.2.2.2.2.2.2.2.2.2.2.2.2.2.2.2.2.1 x22.2.2.2.2.2.2.2.2.2.2.2.2.2.2.2.2.2.2).bind fun e24 =>
 bif decide (0 ≤ e24) && decide (e24 < ((List.length x22.2.2.2.2.2.2.2.1 : Nat) : Int)) then
 (at? x22.2.2.2.2.2.2.2.1 (Int.toNat e24)).bind fun e25 =>
 bif decide (List.length x22.2.2.2.2.2.2.2.2.2.2.2.2.1 + List.length ([e25] : List Int) ≤ maxRows) then
 rec23 (x22.1, x22.2.1, x22.2.2.1, x22.2.2.2.1, x22.2.2.2.2.1, x22.2.2.2.2.2.1, x22.2.2.2.2.2.2.1, x22.2.2.2.2.2.2.2.1, x22.2.2.2.2.2.2.2.2.1, x22.2.2.2.2.2.2.2.2.2.1, x22.2.2.2.2.2.2.2.2.2.2.1, x22.2.2.2.2.2.2.2.2.2.2.2.1, List.append x22.2.2.2.2.2.2.2.2.2.2.2.2.1 ([e25] : List Int), x22.2.2.2.2.2.2.2.2.2.2.2.2.2.1, x22.2.2.2.2.2.2.2.2.2.2.2.2.2.2.1, x22.2.2.2.2.2.2.2.2.2.2.2.2.2.2.2.1, x22.2.2.2.2.2.2.2.2.2.2.2.2.2.2.2.2.1, x22.2.2.2.2.2.2.2.2.2.2.2.2.2.2.2.2.2.1, IntKind.wrap .i64 (x22.2.2.2.2.2.2.2.2.2.2.2.2.2.2.2.2.2.2 + (1 : Int)))
 else none
 else none)
 else
 (some (x22.1, x22.2.1, x22.2.2.1, x22.2.2.2.1, x22.2.2.2.2.1, x22.2.2.2.2.2.1, x22.2.2.2.2.2.2.1, x22.2.2.2.2.2.2.2.1, x22.2.2.2.2.2.2.2.2.1, x22.2.2.2.2.2.2.2.2.2.1, x22.2.2.2.2.2.2.2.2.2.2.1, x22.2.2.2.2.2.2.2.2.2.2.2.1, x22.2.2.2.2.2.2.2.2.2.2.2.2.1, x22.2.2.2.2.2.2.2.2.2.2.2.2.2.1, x22.2.2.2.2.2.2.2.2.2.2.2.2.2.2.1, x22.2.2.2.2.2.2.2.2.2.2.2.2.2.2.2.1))
def ref04_Minimal.L4 (n : Nat) (x18 : LI × Int × LI × LR × Int × LI × LR × LI × Int × LI × LR × Int × Int) (rec19 : (LI × Int × LI × LR × Int × LI × LR × LI × Int × LI × LR × Int × Int) → Option (LI × Int × LI × LR × Int × LI × LR)) : Option (LI × Int × LI × LR × Int × LI × LR) :=
 bif decide (x18.2.2.2.2.2.2.2.2.2.2.2.2 < x18.2.2.2.2.2.2.2.2.2.2.2.1) then
 ((nth? x18.2.2.2.2.2.2.1 x18.2.2.2.2.2.2.2.2.2.2.2.2).bind fun e20 =>
 bif decide (0 ≤ e20.2.2) && decide (e20.2.2 < ((List.length x18.2.2.2.2.2.2.2.1 : Nat) : Int)) then
 (at? x18.2.2.2.2.2.2.2.1 (Int.toNat e20.2.2)).bind fun e21 =>
 (loopN (ref04_Minimal.L3) n (x18.1, x18.2.1, x18.2.2.1, x18.2.2.2.1, x18.2.2.2.2.1, x18.2.2.2.2.2.1, x18.2.2.2.2.2.2.1, x18.2.2.2.2.2.2.2.1, x18.2.2.2.2.2.2.2.2.1, x18.2.2.2.2.2.2.2.2.2.1, x18.2.2.2.2.2.2.2.2.2.2.1, e20.1, ([] : List Int), e21, x18.2.2.2.2.2.2.2.2.2.2.2.1, x18.2.2.2.2.2.2.2.2.2.2.2.2, e20.2.1, ((List.length e20.2.1 : Nat) : Int), (0 : Int))).bind fun x26 =>
 bif decide (List.length x26.2.2.2.2.2.2.2.2.2.2.1 + List.length ([(x26.2.2.2.2.2.2.2.2.2.2.2.1, x26.2.2.2.2.2.2.2.2.2.2.2.2.1, x26.2.2.2.2.2.2.2.2.2.2.2.2.2.1)] : List Ru) ≤ maxRows) then
 rec19 (x26.1, x26.2.1, x26.2.2.1, x26.2.2.2.1, x26.2.2.2.2.1, x26.2.2.2.2.2.1, x26.2.2.2.2.2.2.1, x26.2.2.2.2.2.2.2.1, x26.2.2.2.2.2.2.2.2.1, x26.2.2.2.2.2.2.2.2.2.1, List.append x26.2.2.2.2.2.2.2.2.2.2.1 ([(x26.2.2.2.2.2.2.2.2.2.2.2.1, x26.2.2.2.2.2.2.2.2.2.2.2.2.1, x26.2.2.2.2.2.2.2.2.2.2.2.2.2.1)] : List Ru), x26.2.2.2.2.2.2.2.2.2.2.2.2.2.2.1, IntKind.wrap .i64 (x26.2.2.2.2.2.2.2.2.2.2.2.2.2.2.2 + (1 : Int)))
 else none
 else none)
 else
 (some (x18.1, x18.2.1, x18.2.2.1, x18.2.2.2.1, x18.2.2.2.2.2.2.2.2.1, x18.2.2.2.2.2.2.2.2.2.1, x18.2.2.2.2.2.2.2.2.2.2.1))
def ref04_Minimal.P (f_ref03_In : (LI × Int) → Option Bool) (f_ref03_Insert : (LI × Int) → Option LI) (f_ref03_Trimmed : (Int × LI × LR) → Option (Int × LI × LR)) (f_ref04_Filled : (LI × Int × LI × LR) → Option (Int × LI × LR)) (f_ref04_Over : (LI × Int) → Option Bool) (f_ref04_Renumber : (LI × Int × LI × LR) → Option (Int × LI × LR)) (f_ref04_Subset : (LI × Int × LI × LR) → Option (Int × LI × LR × LL × Int)) (f_ref04_classes : (LI × Int × LI × LR) → Option LI) (n : Nat) (x : LI × Int × LI × LR) : Option (Int × LI × LR × Bool) :=
 (f_ref03_Trimmed (x.2.1, x.2.2.1, x.2.2.2)).bind fun r1 =>
 (f_ref04_Subset (x.1, r1.1, r1.2.1, r1.2.2)).bind fun r2 =>
 (bif !decide (r2.2.2.2.2 = (0 : Int)) then
 (some (x.1, (0 : Int), ([] : List Int), ([] : List Ru), r2.1, r2.2.1, r2.2.2.1, true))
 else
 ((f_ref04_Over (x.1, IntKind.wrap .i64 (r2.1 + (1 : Int)))).bind fun r3 =>
 some (x.1, (0 : Int), ([] : List Int), ([] : List Ru), r2.1, r2.2.1, r2.2.2.1, r3))).bind fun x4 =>
 bif x4.2.2.2.2.2.2.2 then
 (some ((0 : Int), ([] : List Int), ([] : List Ru), false))
 else
 ((f_ref04_Filled (x4.1, x4.2.2.2.2.1, x4.2.2.2.2.2.1, x4.2.2.2.2.2.2.1)).bind fun r5 =>
 (f_ref04_classes (x4.1, r5.1, r5.2.1, r5.2.2)).bind fun r6 =>
 (loopN (ref04_Minimal.L1) n (x4.1, x4.2.1, x4.2.2.1, x4.2.2.2.1, r5.1, r5.2.1, r5.2.2, r6, (0 : Int), ([] : List Int), ([] : List Ru), ((List.length r6 : Nat) : Int), (0 : Int))).bind fun x10 =>
 (loopN (ref04_Minimal.L2 f_ref03_In f_ref03_Insert) n (x10.1, x10.2.1, x10.2.2.1, x10.2.2.2.1, x10.2.2.2.2.1, x10.2.2.2.2.2.1, x10.2.2.2.2.2.2.1, x10.2.2.2.2.2.2.2.1, x10.2.2.2.2.2.2.2.2.1, x10.2.2.2.2.2.2.2.2.2.1, x10.2.2.2.2.2.2.2.2.2.2, ((List.length x10.2.2.2.2.2.2.2.1 : Nat) : Int), (0 : Int))).bind fun x17 =>
 (loopN (ref04_Minimal.L4 n) n (x17.1, x17.2.1, x17.2.2.1, x17.2.2.2.1, x17.2.2.2.2.1, x17.2.2.2.2.2.1, x17.2.2.2.2.2.2.1, x17.2.2.2.2.2.2.2.1, x17.2.2.2.2.2.2.2.2.1, x17.2.2.2.2.2.2.2.2.2.1, x17.2.2.2.2.2.2.2.2.2.2, ((List.length x17.2.2.2.2.2.2.1 : Nat) : Int), (0 : Int))).bind fun x27 =>
 (f_ref03_Trimmed (x27.2.2.2.2.1, x27.2.2.2.2.2.1, x27.2.2.2.2.2.2)).bind fun r28 =>
 (f_ref04_Renumber (x27.1, r28.1, r28.2.1, r28.2.2)).bind fun r29 =>
 some (r29.1, r29.2.1, r29.2.2, true))
/-! boskage/boskageref03.Same -/
def ref03_Same.L1 (f_ref01_List : (LI × LI) → Option Bool) (x3 : Int × LI × LR × LR × Int × Int) (rec4 : (Int × LI × LR × LR × Int × Int) → Option (Sum Unit Bool)) : Option (Sum Unit Bool) :=
 bif decide (x3.2.2.2.2.2 < x3.2.2.2.2.1) then
 ((nth? x3.2.2.2.1 x3.2.2.2.2.2).bind fun e5 =>
 ((nth? x3.2.2.1 x3.2.2.2.2.2).bind fun e6 =>
 bif !decide (e5.1 = e6.1) then
 (some (x3.1, x3.2.1, x3.2.2.1, x3.2.2.2.1, x3.2.2.2.2.1, x3.2.2.2.2.2, true))
 else
 ((nth? x3.2.2.1 x3.2.2.2.2.2).bind fun e7 =>
 bif !decide (e5.2.2 = e7.2.2) then
 (some (x3.1, x3.2.1, x3.2.2.1, x3.2.2.2.1, x3.2.2.2.2.1, x3.2.2.2.2.2, true))
 else
 ((nth? x3.2.2.1 x3.2.2.2.2.2).bind fun e8 =>
 (f_ref01_List (e5.2.1, e8.2.1)).bind fun r9 =>
 some (x3.1, x3.2.1, x3.2.2.1, x3.2.2.2.1, x3.2.2.2.2.1, x3.2.2.2.2.2, !r9)))).bind fun x10 =>
 bif x10.2.2.2.2.2.2 then
 ((some false).bind fun r => some (Sum.inr r))
 else
 (rec4 (x10.1, x10.2.1, x10.2.2.1, x10.2.2.2.1, x10.2.2.2.2.1, IntKind.wrap .i64 (x10.2.2.2.2.2.1 + (1 : Int)))))
 else
 (some (Sum.inl ()))
def ref03_Same.P (f_ref01_List : (LI × LI) → Option Bool) (n : Nat) (x : Int × LI × LR × Int × LI × LR) : Option Bool :=
 (bif !decide (x.1 = x.2.2.2.1) then
 (some (x.1, x.2.1, x.2.2.1, x.2.2.2.1, x.2.2.2.2.1, x.2.2.2.2.2, true))
 else
 ((f_ref01_List (x.2.1, x.2.2.2.2.1)).bind fun r1 =>
 bif !r1 then
 (some (x.1, x.2.1, x.2.2.1, x.2.2.2.1, x.2.2.2.2.1, x.2.2.2.2.2, true))
 else
 (some (x.1, x.2.1, x.2.2.1, x.2.2.2.1, x.2.2.2.2.1, x.2.2.2.2.2, !decide (((List.length x.2.2.1 : Nat) : Int) = ((List.length x.2.2.2.2.2 : Nat) : Int)))))).bind fun x2 =>
 bif x2.2.2.2.2.2.2 then
 (some false)
 else
 ((loopN (ref03_Same.L1 f_ref01_List) n (x2.2.2.2.1, x2.2.2.2.2.1, x2.2.2.2.2.2.1, x2.2.2.1, ((List.length x2.2.2.1 : Nat) : Int), (0 : Int))).bind fun q => match q with
 | Sum.inl x11 => (some true)
 | Sum.inr r => some r)
/-! boskage/boskageref04.Equal -/
def ref04_Equal.P (f_ref03_Same : (Int × LI × LR × Int × LI × LR) → Option Bool) (f_ref04_Minimal : (LI × Int × LI × LR) → Option (Int × LI × LR × Bool)) (n : Nat) (x : LI × Int × LI × LR × Int × LI × LR) : Option (Bool × Bool) :=
 (f_ref04_Minimal (x.1, x.2.1, x.2.2.1, x.2.2.2.1)).bind fun r1 =>
 (f_ref04_Minimal (x.1, x.2.2.2.2.1, x.2.2.2.2.2.1, x.2.2.2.2.2.2)).bind fun r2 =>
 (bif r1.2.2.2 then
 (bif r2.2.2.2 then
 ((f_ref03_Same (r1.1, r1.2.1, r1.2.2.1, r2.1, r2.2.1, r2.2.2.1)).bind fun r3 =>
 bif r1.2.2.2 then
 (some (r3, r2.2.2.2))
 else
 (some (r3, false)))
 else
 (bif r1.2.2.2 then
 (some (false, r2.2.2.2))
 else
 (some (false, false))))
 else
 (bif r1.2.2.2 then
 (some (false, r2.2.2.2))
 else
 (some (false, false)))).bind fun x4 =>
 some (x4.1, x4.2)
/-! boskage/boskageref04.Alike -/
def ref04_Alike.P (f_ref04_Equal : (LI × Int × LI × LR × Int × LI × LR) → Option (Bool × Bool)) (f_ref04_Light : (LI × (List (Int × LI × LR))) → Option Bool) (n : Nat) (x : LI × Int × LI × LR × Int × LI × LR) : Option Bool :=
 (f_ref04_Light (x.1, ([(x.2.1, x.2.2.1, x.2.2.2.1), (x.2.2.2.2.1, x.2.2.2.2.2.1, x.2.2.2.2.2.2)] : List (Int × LI × LR)))).bind fun r1 =>
 bif !r1 then
 (some true)
 else
 ((f_ref04_Equal (x.1, x.2.1, x.2.2.1, x.2.2.2.1, x.2.2.2.2.1, x.2.2.2.2.2.1, x.2.2.2.2.2.2)).bind fun r2 =>
 (bif r2.1 then
 (some true)
 else
 (some (!r2.2))).bind fun x3 =>
 some x3)
/-! boskage/boskagelaw05.BooleanUnion -/
def law05_BooleanUnion.P (f_boolean_Union : (LI × Int × LI × LR × Int × LI × LR) → Option (Int × LI × LR × Int)) (f_law05_awake : Unit → Option Bool) (f_law05_few : (LI × Int × (List (RT Int)) × (List (Int × LI × LR))) → Option Bool) (f_law05_right : (LI × Int × LI × LR × Int × (List (RT Int)) × Bool) → Option Bool) (f_law05_valid : (LI × (List (Int × LI × LR))) → Option Bool) (f_ref01_Valid : (LI × Int × (List (RT Int))) → Option Bool) (f_ref03_Has : (Int × LI × LR × Int × (List (RT Int))) → Option Bool) (f_ref04_Alike : (LI × Int × LI × LR × Int × LI × LR) → Option Bool) (f_ref05_Union : (Int × LI × LR × Int × LI × LR) → Option (Int × LI × LR)) (n : Nat) (x : LI × Int × LI × LR × Int × LI × LR × Int × (List (RT Int))) : Option Bool :=
 (f_law05_few (x.1, x.2.2.2.2.2.2.2.1, x.2.2.2.2.2.2.2.2, ([(x.2.1, x.2.2.1, x.2.2.2.1), (x.2.2.2.2.1, x.2.2.2.2.2.1, x.2.2.2.2.2.2.1)] : List (Int × LI × LR)))).bind fun r1 =>
 bif !r1 then
 ((f_law05_awake ()).bind fun r2 =>
 some r2)
 else
 ((f_boolean_Union (x.1, x.2.1, x.2.2.1, x.2.2.2.1, x.2.2.2.2.1, x.2.2.2.2.2.1, x.2.2.2.2.2.2.1)).bind fun r3 =>
 (f_law05_valid (x.1, ([(x.2.1, x.2.2.1, x.2.2.2.1), (x.2.2.2.2.1, x.2.2.2.2.2.1, x.2.2.2.2.2.2.1)] : List (Int × LI × LR)))).bind fun r4 =>
 bif !r4 then
 ((bif decide (r3.2.2.2 = (1 : Int)) then
 ((f_law05_awake ()).bind fun r5 =>
 some r5)
 else
 (some false)).bind fun x6 =>
 some x6)
 else
 ((bif !decide (r3.2.2.2 = (0 : Int)) then
 (some (x.1, x.2.1, x.2.2.1, x.2.2.2.1, x.2.2.2.2.1, x.2.2.2.2.2.1, x.2.2.2.2.2.2.1, x.2.2.2.2.2.2.2.1, x.2.2.2.2.2.2.2.2, r3.1, r3.2.1, r3.2.2.1, true))
 else
 ((f_law05_valid (x.1, ([(r3.1, r3.2.1, r3.2.2.1)] : List (Int × LI × LR)))).bind fun r7 =>
 some (x.1, x.2.1, x.2.2.1, x.2.2.2.1, x.2.2.2.2.1, x.2.2.2.2.2.1, x.2.2.2.2.2.2.1, x.2.2.2.2.2.2.2.1, x.2.2.2.2.2.2.2.2, r3.1, r3.2.1, r3.2.2.1, !r7))).bind fun x8 =>
 bif x8.2.2.2.2.2.2.2.2.2.2.2.2 then
 (some false)
 else
 (((f_ref01_Valid (x8.1, x8.2.2.2.2.2.2.2.1, x8.2.2.2.2.2.2.2.2.1)).bind fun r9 =>
 bif r9 then
 ((f_ref03_Has (x8.2.1, x8.2.2.1, x8.2.2.2.1, x8.2.2.2.2.2.2.2.1, x8.2.2.2.2.2.2.2.2.1)).bind fun r10 =>
 bif r10 then
 ((f_law05_right (x8.1, x8.2.2.2.2.2.2.2.2.2.1, x8.2.2.2.2.2.2.2.2.2.2.1, x8.2.2.2.2.2.2.2.2.2.2.2.1, x8.2.2.2.2.2.2.2.1, x8.2.2.2.2.2.2.2.2.1, true)).bind fun r11 =>
 some (x8.1, x8.2.1, x8.2.2.1, x8.2.2.2.1, x8.2.2.2.2.1, x8.2.2.2.2.2.1, x8.2.2.2.2.2.2.1, x8.2.2.2.2.2.2.2.2.2.1, x8.2.2.2.2.2.2.2.2.2.2.1, x8.2.2.2.2.2.2.2.2.2.2.2.1, !r11))
 else
 ((f_ref03_Has (x8.2.2.2.2.1, x8.2.2.2.2.2.1, x8.2.2.2.2.2.2.1, x8.2.2.2.2.2.2.2.1, x8.2.2.2.2.2.2.2.2.1)).bind fun r12 =>
 (f_law05_right (x8.1, x8.2.2.2.2.2.2.2.2.2.1, x8.2.2.2.2.2.2.2.2.2.2.1, x8.2.2.2.2.2.2.2.2.2.2.2.1, x8.2.2.2.2.2.2.2.1, x8.2.2.2.2.2.2.2.2.1, r12)).bind fun r13 =>
 some (x8.1, x8.2.1, x8.2.2.1, x8.2.2.2.1, x8.2.2.2.2.1, x8.2.2.2.2.2.1, x8.2.2.2.2.2.2.1, x8.2.2.2.2.2.2.2.2.2.1, x8.2.2.2.2.2.2.2.2.2.2.1, x8.2.2.2.2.2.2.2.2.2.2.2.1, !r13)))
 else
 (some (x8.1, x8.2.1, x8.2.2.1, x8.2.2.2.1, x8.2.2.2.2.1, x8.2.2.2.2.2.1, x8.2.2.2.2.2.2.1, x8.2.2.2.2.2.2.2.2.2.1, x8.2.2.2.2.2.2.2.2.2.2.1, x8.2.2.2.2.2.2.2.2.2.2.2.1, false))).bind fun x14 =>
 bif x14.2.2.2.2.2.2.2.2.2.2 then
 (some false)
 else
 (((f_ref05_Union (x14.2.1, x14.2.2.1, x14.2.2.2.1, x14.2.2.2.2.1, x14.2.2.2.2.2.1, x14.2.2.2.2.2.2.1)).bind fun r15 =>
 (f_ref04_Alike (x14.1, x14.2.2.2.2.2.2.2.1, x14.2.2.2.2.2.2.2.2.1, x14.2.2.2.2.2.2.2.2.2.1, r15.1, r15.2.1, r15.2.2)).bind fun r16 =>
 bif r16 then
 ((f_law05_awake ()).bind fun r17 =>
 some r17)
 else
 (some false)).bind fun x18 =>
 some x18))))
/-! boskage/boolean.mapped -/
def boolean_mapped.L1 (x1 : LI × LI × LI × Int × Int) (rec2 : (LI × LI × LI × Int × Int) → Option (Sum Unit Int)) : Option (Sum Unit Int) :=
 bif decide (x1.2.2.2.2 < x1.2.2.2.1) then
 ((nth? x1.2.2.1 x1.2.2.2.2).bind fun e3 =>
 (bif decide (e3 < (0 : Int)) then
 (some (x1.1, x1.2.1, x1.2.2.1, x1.2.2.2.1, x1.2.2.2.2, true))
 else
 (bif decide (((List.length x1.2.1 : Nat) : Int) ≤ e3) then
 (some (x1.1, x1.2.1, x1.2.2.1, x1.2.2.2.1, x1.2.2.2.2, true))
 else
 ((nth? x1.2.1 e3).bind fun e4 =>
 (nth? x1.1 x1.2.2.2.2).bind fun e5 =>
 some (x1.1, x1.2.1, x1.2.2.1, x1.2.2.2.1, x1.2.2.2.2, !decide (e4 = e5))))).bind fun x6 =>
 bif x6.2.2.2.2.2 then
 ((some (6 : Int)).bind fun r => some (Sum.inr r))
 else
 (rec2 (x6.1, x6.2.1, x6.2.2.1, x6.2.2.2.1, IntKind.wrap .i64 (x6.2.2.2.2.1 + (1 : Int)))))
 else
 (some (Sum.inl ()))
def boolean_mapped.P (n : Nat) (x : LI × LI × LI) : Option Int :=
 bif !decide (((List.length x.2.2 : Nat) : Int) = ((List.length x.1 : Nat) : Int)) then
 (some (2 : Int))
 else
 ((loopN (boolean_mapped.L1) n (x.1, x.2.1, x.2.2, ((List.length x.2.2 : Nat) : Int), (0 : Int))).bind fun q => match q with
 | Sum.inl x7 => (some (0 : Int))
 | Sum.inr r => some r)
/-! boskage/boolean.Unlabel -/
def boolean_Unlabel.L1 (f_slices_Clone_int_int : List Int → Option LI) (x10 : LI × Int × LI × LR × Int × LI × LR × Int × LI × Int × LR × Int × Int × LI × Int × Int) (rec11 : (LI × Int × LI × LR × Int × LI × LR × Int × LI × Int × LR × Int × Int × LI × Int × Int) → Option (LI × Int × LI × LR × Int × LI × LR × LR × Int × Int)) : Option (LI × Int × LI × LR × Int × LI × LR × LR × Int × Int) :=
 bif decide (x10.2.2.2.2.2.2.2.2.2.2.2.2.2.2.2 < x10.2.2.2.2.2.2.2.2.2.2.2.2.2.2.1) then
 ((nth? x10.2.2.2.2.2.2.2.2.2.2.2.2.2.1 x10.2.2.2.2.2.2.2.2.2.2.2.2.2.2.2).bind fun e12 =>
 (bif decide (e12 = x10.2.2.2.2.2.2.2.1) then
 ((f_slices_Clone_int_int x10.2.2.2.2.2.2.2.2.1).bind fun r13 =>
 bif decide (List.length x10.2.2.2.2.2.2.1 + List.length ([(x10.2.2.2.2.2.2.2.2.2.2.2.2.2.2.2, r13, x10.2.2.2.2.2.2.2.2.2.1)] : List Ru) ≤ maxRows) then
 some (x10.1, x10.2.1, x10.2.2.1, x10.2.2.2.1, x10.2.2.2.2.1, x10.2.2.2.2.2.1, List.append x10.2.2.2.2.2.2.1 ([(x10.2.2.2.2.2.2.2.2.2.2.2.2.2.2.2, r13, x10.2.2.2.2.2.2.2.2.2.1)] : List Ru), x10.2.2.2.2.2.2.2.1, x10.2.2.2.2.2.2.2.2.1, x10.2.2.2.2.2.2.2.2.2.1, x10.2.2.2.2.2.2.2.2.2.2.1, x10.2.2.2.2.2.2.2.2.2.2.2.1, x10.2.2.2.2.2.2.2.2.2.2.2.2.1, x10.2.2.2.2.2.2.2.2.2.2.2.2.2.1, x10.2.2.2.2.2.2.2.2.2.2.2.2.2.2.1, x10.2.2.2.2.2.2.2.2.2.2.2.2.2.2.2)
 else none)
 else
 (some (x10.1, x10.2.1, x10.2.2.1, x10.2.2.2.1, x10.2.2.2.2.1, x10.2.2.2.2.2.1, x10.2.2.2.2.2.2.1, x10.2.2.2.2.2.2.2.1, x10.2.2.2.2.2.2.2.2.1, x10.2.2.2.2.2.2.2.2.2.1, x10.2.2.2.2.2.2.2.2.2.2.1, x10.2.2.2.2.2.2.2.2.2.2.2.1, x10.2.2.2.2.2.2.2.2.2.2.2.2.1, x10.2.2.2.2.2.2.2.2.2.2.2.2.2.1, x10.2.2.2.2.2.2.2.2.2.2.2.2.2.2.1, x10.2.2.2.2.2.2.2.2.2.2.2.2.2.2.2))).bind fun x14 =>
 rec11 (x14.1, x14.2.1, x14.2.2.1, x14.2.2.2.1, x14.2.2.2.2.1, x14.2.2.2.2.2.1, x14.2.2.2.2.2.2.1, x14.2.2.2.2.2.2.2.1, x14.2.2.2.2.2.2.2.2.1, x14.2.2.2.2.2.2.2.2.2.1, x14.2.2.2.2.2.2.2.2.2.2.1, x14.2.2.2.2.2.2.2.2.2.2.2.1, x14.2.2.2.2.2.2.2.2.2.2.2.2.1, x14.2.2.2.2.2.2.2.2.2.2.2.2.2.1, x14.2.2.2.2.2.2.2.2.2.2.2.2.2.2.1, IntKind.wrap .i64 (x14.2.2.2.2.2.2.2.2.2.2.2.2.2.2.2 + (1 : Int))))
 else
 (some (x10.1, x10.2.1, x10.2.2.1, x10.2.2.2.1, x10.2.2.2.2.1, x10.2.2.2.2.2.1, x10.2.2.2.2.2.2.1, x10.2.2.2.2.2.2.2.2.2.2.1, x10.2.2.2.2.2.2.2.2.2.2.2.1, x10.2.2.2.2.2.2.2.2.2.2.2.2.1))
def boolean_Unlabel.L2 (f_slices_Clone_int_int : List Int → Option LI) (n : Nat) (x7 : LI × Int × LI × LR × Int × LI × LR × LR × Int × Int) (rec8 : (LI × Int × LI × LR × Int × LI × LR × LR × Int × Int) → Option (Sum (Int × LI × LR × Int × LI × LR) (Int × LI × LR × Int))) : Option (Sum (Int × LI × LR × Int × LI × LR) (Int × LI × LR × Int)) :=
 bif decide (x7.2.2.2.2.2.2.2.2.2 < x7.2.2.2.2.2.2.2.2.1) then
 ((nth? x7.2.2.2.2.2.2.2.1 x7.2.2.2.2.2.2.2.2.2).bind fun e9 =>
 (loopN (boolean_Unlabel.L1 f_slices_Clone_int_int) n (x7.1, x7.2.1, x7.2.2.1, x7.2.2.2.1, x7.2.2.2.2.1, x7.2.2.2.2.2.1, x7.2.2.2.2.2.2.1, e9.1, e9.2.1, e9.2.2, x7.2.2.2.2.2.2.2.1, x7.2.2.2.2.2.2.2.2.1, x7.2.2.2.2.2.2.2.2.2, x7.1, ((List.length x7.1 : Nat) : Int), (0 : Int))).bind fun x15 =>
 bif decide ((20000 : Int) < ((List.length x15.2.2.2.2.2.2.1 : Nat) : Int)) then
 ((some ((0 : Int), ([] : List Int), ([] : List Ru), (3 : Int))).bind fun r => some (Sum.inr r))
 else
 (rec8 (x15.1, x15.2.1, x15.2.2.1, x15.2.2.2.1, x15.2.2.2.2.1, x15.2.2.2.2.2.1, x15.2.2.2.2.2.2.1, x15.2.2.2.2.2.2.2.1, x15.2.2.2.2.2.2.2.2.1, IntKind.wrap .i64 (x15.2.2.2.2.2.2.2.2.2 + (1 : Int)))))
 else
 (some (Sum.inl (x7.2.1, x7.2.2.1, x7.2.2.2.1, x7.2.2.2.2.1, x7.2.2.2.2.2.1, x7.2.2.2.2.2.2.1)))
def boolean_Unlabel.P (f_auto_Valid : (LI × Int × LI × LR) → Option Bool) (f_boolean_mapped : (LI × LI × LI) → Option Int) (f_slices_Clone_int_int : List Int → Option LI) (f_tree_ValidAlphabet : List Int → Option Bool) (n : Nat) (x : LI × LI × LI × Int × LI × LR) : Option (Int × LI × LR × Int) :=
 ((f_tree_ValidAlphabet x.1).bind fun r1 =>
 bif !r1 then
 (some (x.2.2.1, x.1, x.2.1, x.2.2.2.1, x.2.2.2.2.1, x.2.2.2.2.2, (0 : Int), ([] : List Int), ([] : List Ru), true))
 else
 ((f_tree_ValidAlphabet x.2.1).bind fun r2 =>
 bif !r2 then
 (some (x.2.2.1, x.1, x.2.1, x.2.2.2.1, x.2.2.2.2.1, x.2.2.2.2.2, (0 : Int), ([] : List Int), ([] : List Ru), true))
 else
 ((f_auto_Valid (x.2.1, x.2.2.2.1, x.2.2.2.2.1, x.2.2.2.2.2)).bind fun r3 =>
 some (x.2.2.1, x.1, x.2.1, x.2.2.2.1, x.2.2.2.2.1, x.2.2.2.2.2, (0 : Int), ([] : List Int), ([] : List Ru), !r3)))).bind fun x4 =>
 bif x4.2.2.2.2.2.2.2.2.2 then
 (some ((0 : Int), ([] : List Int), ([] : List Ru), (1 : Int)))
 else
 ((f_boolean_mapped (x4.2.1, x4.2.2.1, x4.1)).bind fun r5 =>
 bif !decide (r5 = (0 : Int)) then
 (some ((0 : Int), ([] : List Int), ([] : List Ru), r5))
 else
 ((f_slices_Clone_int_int x4.2.2.2.2.1).bind fun r6 =>
 (loopN (boolean_Unlabel.L2 f_slices_Clone_int_int n) n (x4.1, x4.2.2.2.2.2.2.1, x4.2.2.2.2.2.2.2.1, x4.2.2.2.2.2.2.2.2.1, x4.2.2.2.1, r6, ([] : List Ru), x4.2.2.2.2.2.1, ((List.length x4.2.2.2.2.2.1 : Nat) : Int), (0 : Int))).bind fun q => match q with
 | Sum.inl x16 => (some (x16.2.2.2.1, x16.2.2.2.2.1, x16.2.2.2.2.2, (0 : Int)))
 | Sum.inr r => some r))
/-! boskage/boskageref05.Mapped -/
def ref05_Mapped.L1 (x1 : LI × LI × LI × Int × Int) (rec2 : (LI × LI × LI × Int × Int) → Option (Sum Unit Int)) : Option (Sum Unit Int) :=
 bif decide (x1.2.2.2.2 < x1.2.2.2.1) then
 ((nth? x1.2.2.1 x1.2.2.2.2).bind fun e3 =>
 (bif decide (e3 < (0 : Int)) then
 (some (x1.1, x1.2.1, x1.2.2.1, x1.2.2.2.1, x1.2.2.2.2, true))
 else
 (bif decide (((List.length x1.2.1 : Nat) : Int) ≤ e3) then
 (some (x1.1, x1.2.1, x1.2.2.1, x1.2.2.2.1, x1.2.2.2.2, true))
 else
 ((nth? x1.2.1 e3).bind fun e4 =>
 (nth? x1.1 x1.2.2.2.2).bind fun e5 =>
 some (x1.1, x1.2.1, x1.2.2.1, x1.2.2.2.1, x1.2.2.2.2, !decide (e4 = e5))))).bind fun x6 =>
 bif x6.2.2.2.2.2 then
 ((some (6 : Int)).bind fun r => some (Sum.inr r))
 else
 (rec2 (x6.1, x6.2.1, x6.2.2.1, x6.2.2.2.1, IntKind.wrap .i64 (x6.2.2.2.2.1 + (1 : Int)))))
 else
 (some (Sum.inl ()))
def ref05_Mapped.P (n : Nat) (x : LI × LI × LI) : Option Int :=
 bif !decide (((List.length x.2.2 : Nat) : Int) = ((List.length x.1 : Nat) : Int)) then
 (some (2 : Int))
 else
 ((loopN (ref05_Mapped.L1) n (x.1, x.2.1, x.2.2, ((List.length x.2.2 : Nat) : Int), (0 : Int))).bind fun q => match q with
 | Sum.inl x7 => (some (0 : Int))
 | Sum.inr r => some r)
/-! boskage/boskageref05.Map -/
def ref05_Map.L1 (f_ref05_Map : (LI × Int × (List (RT Int))) → Option (Int × (List (RT Int)))) (x2 : LI × Int × (List (RT Int)) × Int × (List (RT Int)) × (List (RT Int)) × Int × Int) (rec3 : (LI × Int × (List (RT Int)) × Int × (List (RT Int)) × (List (RT Int)) × Int × Int) → Option (Int × (List (RT Int)) × Int × (List (RT Int)))) : Option (Int × (List (RT Int)) × Int × (List (RT Int))) :=
 bif decide (x2.2.2.2.2.2.2.2 < x2.2.2.2.2.2.2.1) then
 ((nth? x2.2.2.2.2.2.1 x2.2.2.2.2.2.2.2).bind fun e4 =>
 (f_ref05_Map (x2.1, RT.a e4, RT.kids e4)).bind fun r5 =>
 bif decide (List.length x2.2.2.2.2.1 + List.length ([RT.mk r5.1 r5.2] : List (RT Int)) ≤ maxRows) then
 rec3 (x2.1, x2.2.1, x2.2.2.1, x2.2.2.2.1, List.append x2.2.2.2.2.1 ([RT.mk r5.1 r5.2] : List (RT Int)), x2.2.2.2.2.2.1, x2.2.2.2.2.2.2.1, IntKind.wrap .i64 (x2.2.2.2.2.2.2.2 + (1 : Int)))
 else none)
 else
 (some (x2.2.1, x2.2.2.1, x2.2.2.2.1, x2.2.2.2.2.1))
def ref05_Map.P (f_ref05_Map : (LI × Int × (List (RT Int))) → Option (Int × (List (RT Int)))) (n : Nat) (x : LI × Int × (List (RT Int))) : Option (Int × (List (RT Int))) :=
 (nth? x.1 x.2.1).bind fun e1 =>
 (loopN (ref05_Map.L1 f_ref05_Map) n (x.1, (0 : Int), ([] : List (RT Int)), e1, ([] : List (RT Int)), x.2.2, ((List.length x.2.2 : Nat) : Int), (0 : Int))).bind fun x6 =>
 some (x6.2.2.1, x6.2.2.2)
end Go.Bk
end
noncomputable section
namespace Go.Bk
open Go Go.AM
set_option maxRecDepth 100000
set_option linter.unusedVariables false
/-! boskage/boskageref05.Unlabel -/
def ref05_Unlabel.L1 (x4 : LI × Int × LI × LR × Int × LI × LR × Int × LI × Int × LR × Int × Int × LI × Int × Int) (rec5 : (LI × Int × LI × LR × Int × LI × LR × Int × LI × Int × LR × Int × Int × LI × Int × Int) → Option (LI × Int × LI × LR × Int × LI × LR × LR × Int × Int)) : Option (LI × Int × LI × LR × Int × LI × LR × LR × Int × Int) :=
 bif decide (x4.2.2.2.2.2.2.2.2.2.2.2.2.2.2.2 < x4.2.2.2.2.2.2.2.2.2.2.2.2.2.2.1) then
 ((nth? x4.2.2.2.2.2.2.2.2.2.2.2.2.2.1 x4.2.2.2.2.2.2.2.2.2.2.2.2.2.2.2).bind fun e6 =>
 (bif decide (x4.2.2.2.2.2.2.2.1 = e6) then
 (bif decide (List.length x4.2.2.2.2.2.2.1 + List.length ([(x4.2.2.2.2.2.2.2.2.2.2.2.2.2.2.2, x4.2.2.2.2.2.2.2.2.1, x4.2.2.2.2.2.2.2.2.2.1)] : List Ru) ≤ maxRows) then
 some (x4.1, x4.2.1, x4.2.2.1, x4.2.2.2.1, x4.2.2.2.2.1, x4.2.2.2.2.2.1, List.append x4.2.2.2.2.2.2.1 ([(x4.2.2.2.2.2.2.2.2.2.2.2.2.2.2.2, x4.2.2.2.2.2.2.2.2.1, x4.2.2.2.2.2.2.2.2.2.1)] : List Ru), x4.2.2.2.2.2.2.2.1, x4.2.2.2.2.2.2.2.2.1, x4.2.2.2.2.2.2.2.2.2.1, x4.2.2.2.2.2.2.2.2.2.2.1, x4.2.2.2.2.2.2.2.2.2.2.2.1, x4.2.2.2.2.2.2.2.2.2.2.2.2.1, x4.2.2.2.2.2.2.2.2.2.2.2.2.2.1, x4.2.2.2.2.2.2.2.2.2.2.2.2.2.2.1, x4.2.2.2.2.2.2.2.2.2.2.2.2.2.2.2)
 else none)
 else
 (some (x4.1, x4.2.1, x4.2.2.1, x4.2.2.2.1, x4.2.2.2.2.1, x4.2.2.2.2.2.1, x4.2.2.2.2.2.2.1, x4.2.2.2.2.2.2.2.1, x4.2.2.2.2.2.2.2.2.1, x4.2.2.2.2.2.2.2.2.2.1, x4.2.2.2.2.2.2.2.2.2.2.1, x4.2.2.2.2.2.2.2.2.2.2.2.1, x4.2.2.2.2.2.2.2.2.2.2.2.2.1, x4.2.2.2.2.2.2.2.2.2.2.2.2.2.1, x4.2.2.2.2.2.2.2.2.2.2.2.2.2.2.1, x4.2.2.2.2.2.2.2.2.2.2.2.2.2.2.2))).bind fun x7 =>
 rec5 (x7.1, x7.2.1, x7.2.2.1, x7.2.2.2.1, x7.2.2.2.2.1, x7.2.2.2.2.2.1, x7.2.2.2.2.2.2.1, x7.2.2.2.2.2.2.2.1, x7.2.2.2.2.2.2.2.2.1, x7.2.2.2.2.2.2.2.2.2.1, x7.2.2.2.2.2.2.2.2.2.2.1, x7.2.2.2.2.2.2.2.2.2.2.2.1, x7.2.2.2.2.2.2.2.2.2.2.2.2.1, x7.2.2.2.2.2.2.2.2.2.2.2.2.2.1, x7.2.2.2.2.2.2.2.2.2.2.2.2.2.2.1, IntKind.wrap .i64 (x7.2.2.2.2.2.2.2.2.2.2.2.2.2.2.2 + (1 : Int))))
 else
 (some (x4.1, x4.2.1, x4.2.2.1, x4.2.2.2.1, x4.2.2.2.2.1, x4.2.2.2.2.2.1, x4.2.2.2.2.2.2.1, x4.2.2.2.2.2.2.2.2.2.2.1, x4.2.2.2.2.2.2.2.2.2.2.2.1, x4.2.2.2.2.2.2.2.2.2.2.2.2.1))
def ref05_Unlabel.L2 (n : Nat) (x1 : LI × Int × LI × LR × Int × LI × LR × LR × Int × Int) (rec2 : (LI × Int × LI × LR × Int × LI × LR × LR × Int × Int) → Option (Int × LI × LR × Int × LI × LR)) : Option (Int × LI × LR × Int × LI × LR) :=
 bif decide (x1.2.2.2.2.2.2.2.2.2 < x1.2.2.2.2.2.2.2.2.1) then
 ((nth? x1.2.2.2.2.2.2.2.1 x1.2.2.2.2.2.2.2.2.2).bind fun e3 =>
 (loopN (ref05_Unlabel.L1) n (x1.1, x1.2.1, x1.2.2.1, x1.2.2.2.1, x1.2.2.2.2.1, x1.2.2.2.2.2.1, x1.2.2.2.2.2.2.1, e3.1, e3.2.1, e3.2.2, x1.2.2.2.2.2.2.2.1, x1.2.2.2.2.2.2.2.2.1, x1.2.2.2.2.2.2.2.2.2, x1.1, ((List.length x1.1 : Nat) : Int), (0 : Int))).bind fun x8 =>
 rec2 (x8.1, x8.2.1, x8.2.2.1, x8.2.2.2.1, x8.2.2.2.2.1, x8.2.2.2.2.2.1, x8.2.2.2.2.2.2.1, x8.2.2.2.2.2.2.2.1, x8.2.2.2.2.2.2.2.2.1, IntKind.wrap .i64 (x8.2.2.2.2.2.2.2.2.2 + (1 : Int))))
 else
 (some (x1.2.1, x1.2.2.1, x1.2.2.2.1, x1.2.2.2.2.1, x1.2.2.2.2.2.1, x1.2.2.2.2.2.2.1))
def ref05_Unlabel.P (n : Nat) (x : LI × Int × LI × LR) : Option (Int × LI × LR) :=
 bif decide (List.length ([] : List Int) + List.length x.2.2.1 ≤ maxRows) then
 (loopN (ref05_Unlabel.L2 n) n (x.1, (0 : Int), ([] : List Int), ([] : List Ru), x.2.1, List.append ([] : List Int) x.2.2.1, ([] : List Ru), x.2.2.2, ((List.length x.2.2.2 : Nat) : Int), (0 : Int))).bind fun x9 =>
 some (x9.2.2.2.1, x9.2.2.2.2.1, x9.2.2.2.2.2)
 else none
/-! boskage/boskagelaw05.BooleanUnlabels -/
def law05_BooleanUnlabels.P (f_boolean_Unlabel : (LI × LI × LI × Int × LI × LR) → Option (Int × LI × LR × Int)) (f_law05_awake : Unit → Option Bool) (f_law05_few : (LI × Int × (List (RT Int)) × (List (Int × LI × LR))) → Option Bool) (f_law05_right : (LI × Int × LI × LR × Int × (List (RT Int)) × Bool) → Option Bool) (f_law05_valid : (LI × (List (Int × LI × LR))) → Option Bool) (f_ref01_Valid : (LI × Int × (List (RT Int))) → Option Bool) (f_ref01_ValidAlphabet : List Int → Option Bool) (f_ref03_Has : (Int × LI × LR × Int × (List (RT Int))) → Option Bool) (f_ref03_One : (Int × LI × LR) → Option Bool) (f_ref04_Alike : (LI × Int × LI × LR × Int × LI × LR) → Option Bool) (f_ref05_Map : (LI × Int × (List (RT Int))) → Option (Int × (List (RT Int)))) (f_ref05_Mapped : (LI × LI × LI) → Option Int) (f_ref05_Unlabel : (LI × Int × LI × LR) → Option (Int × LI × LR)) (n : Nat) (x : LI × LI × LI × Int × LI × LR × Int × (List (RT Int))) : Option Bool :=
 ((f_law05_few (x.2.1, x.2.2.2.2.2.2.1, x.2.2.2.2.2.2.2, ([(x.2.2.2.1, x.2.2.2.2.1, x.2.2.2.2.2.1)] : List (Int × LI × LR)))).bind fun r1 =>
 bif !r1 then
 (some (x.2.2.1, x.1, x.2.1, x.2.2.2.1, x.2.2.2.2.1, x.2.2.2.2.2.1, x.2.2.2.2.2.2.1, x.2.2.2.2.2.2.2, true))
 else
 (bif decide ((40 : Int) < ((List.length x.1 : Nat) : Int)) then
 (some (x.2.2.1, x.1, x.2.1, x.2.2.2.1, x.2.2.2.2.1, x.2.2.2.2.2.1, x.2.2.2.2.2.2.1, x.2.2.2.2.2.2.2, true))
 else
 (some (x.2.2.1, x.1, x.2.1, x.2.2.2.1, x.2.2.2.2.1, x.2.2.2.2.2.1, x.2.2.2.2.2.2.1, x.2.2.2.2.2.2.2, decide ((40 : Int) < ((List.length x.2.2.1 : Nat) : Int)))))).bind fun x2 =>
 bif x2.2.2.2.2.2.2.2.2 then
 ((f_law05_awake ()).bind fun r3 =>
 some r3)
 else
 ((f_boolean_Unlabel (x2.2.1, x2.2.2.1, x2.1, x2.2.2.2.1, x2.2.2.2.2.1, x2.2.2.2.2.2.1)).bind fun r4 =>
 ((f_law05_valid (x2.2.2.1, ([(x2.2.2.2.1, x2.2.2.2.2.1, x2.2.2.2.2.2.1)] : List (Int × LI × LR)))).bind fun r5 =>
 bif !r5 then
 (some (x2.1, x2.2.1, x2.2.2.1, x2.2.2.2.1, x2.2.2.2.2.1, x2.2.2.2.2.2.1, x2.2.2.2.2.2.2.1, x2.2.2.2.2.2.2.2.1, r4.1, r4.2.1, r4.2.2.1, r4.2.2.2, true))
 else
 ((f_ref01_ValidAlphabet x2.2.1).bind fun r6 =>
 some (x2.1, x2.2.1, x2.2.2.1, x2.2.2.2.1, x2.2.2.2.2.1, x2.2.2.2.2.2.1, x2.2.2.2.2.2.2.1, x2.2.2.2.2.2.2.2.1, r4.1, r4.2.1, r4.2.2.1, r4.2.2.2, !r6))).bind fun x7 =>
 bif x7.2.2.2.2.2.2.2.2.2.2.2.2 then
 ((bif decide (x7.2.2.2.2.2.2.2.2.2.2.2.1 = (1 : Int)) then
 ((f_law05_awake ()).bind fun r8 =>
 some r8)
 else
 (some false)).bind fun x9 =>
 some x9)
 else
 ((f_ref05_Mapped (x7.2.1, x7.2.2.1, x7.1)).bind fun r10 =>
 bif !decide (r10 = (0 : Int)) then
 ((bif decide (x7.2.2.2.2.2.2.2.2.2.2.2.1 = r10) then
 ((f_law05_awake ()).bind fun r11 =>
 some r11)
 else
 (some false)).bind fun x12 =>
 some x12)
 else
 ((bif !decide (x7.2.2.2.2.2.2.2.2.2.2.2.1 = (0 : Int)) then
 (some (x7.1, x7.2.1, x7.2.2.2.1, x7.2.2.2.2.1, x7.2.2.2.2.2.1, x7.2.2.2.2.2.2.1, x7.2.2.2.2.2.2.2.1, x7.2.2.2.2.2.2.2.2.1, x7.2.2.2.2.2.2.2.2.2.1, x7.2.2.2.2.2.2.2.2.2.2.1, true))
 else
 ((f_law05_valid (x7.2.1, ([(x7.2.2.2.2.2.2.2.2.1, x7.2.2.2.2.2.2.2.2.2.1, x7.2.2.2.2.2.2.2.2.2.2.1)] : List (Int × LI × LR)))).bind fun r13 =>
 bif !r13 then
 (some (x7.1, x7.2.1, x7.2.2.2.1, x7.2.2.2.2.1, x7.2.2.2.2.2.1, x7.2.2.2.2.2.2.1, x7.2.2.2.2.2.2.2.1, x7.2.2.2.2.2.2.2.2.1, x7.2.2.2.2.2.2.2.2.2.1, x7.2.2.2.2.2.2.2.2.2.2.1, true))
 else
 ((f_ref03_One (x7.2.2.2.1, x7.2.2.2.2.1, x7.2.2.2.2.2.1)).bind fun r14 =>
 bif r14 then
 ((f_ref03_One (x7.2.2.2.2.2.2.2.2.1, x7.2.2.2.2.2.2.2.2.2.1, x7.2.2.2.2.2.2.2.2.2.2.1)).bind fun r15 =>
 some (x7.1, x7.2.1, x7.2.2.2.1, x7.2.2.2.2.1, x7.2.2.2.2.2.1, x7.2.2.2.2.2.2.1, x7.2.2.2.2.2.2.2.1, x7.2.2.2.2.2.2.2.2.1, x7.2.2.2.2.2.2.2.2.2.1, x7.2.2.2.2.2.2.2.2.2.2.1, !r15))
 else
 (some (x7.1, x7.2.1, x7.2.2.2.1, x7.2.2.2.2.1, x7.2.2.2.2.2.1, x7.2.2.2.2.2.2.1, x7.2.2.2.2.2.2.2.1, x7.2.2.2.2.2.2.2.2.1, x7.2.2.2.2.2.2.2.2.2.1, x7.2.2.2.2.2.2.2.2.2.2.1, false))))).bind fun x16 =>
 bif x16.2.2.2.2.2.2.2.2.2.2 then
 (some false)
 else
 (((f_ref01_Valid (x16.2.1, x16.2.2.2.2.2.1, x16.2.2.2.2.2.2.1)).bind fun r17 =>
 bif r17 then
 ((f_ref05_Map (x16.1, x16.2.2.2.2.2.1, x16.2.2.2.2.2.2.1)).bind fun r18 =>
 (f_ref03_Has (x16.2.2.1, x16.2.2.2.1, x16.2.2.2.2.1, r18.1, r18.2)).bind fun r19 =>
 (f_law05_right (x16.2.1, x16.2.2.2.2.2.2.2.1, x16.2.2.2.2.2.2.2.2.1, x16.2.2.2.2.2.2.2.2.2.1, x16.2.2.2.2.2.1, x16.2.2.2.2.2.2.1, r19)).bind fun r20 =>
 some (x16.1, x16.2.1, x16.2.2.1, x16.2.2.2.1, x16.2.2.2.2.1, x16.2.2.2.2.2.2.2.1, x16.2.2.2.2.2.2.2.2.1, x16.2.2.2.2.2.2.2.2.2.1, !r20))
 else
 (some (x16.1, x16.2.1, x16.2.2.1, x16.2.2.2.1, x16.2.2.2.2.1, x16.2.2.2.2.2.2.2.1, x16.2.2.2.2.2.2.2.2.1, x16.2.2.2.2.2.2.2.2.2.1, false))).bind fun x21 =>
 bif x21.2.2.2.2.2.2.2.2 then
 (some false)
 else
 (((f_ref05_Unlabel (x21.1, x21.2.2.1, x21.2.2.2.1, x21.2.2.2.2.1)).bind fun r22 =>
 (f_ref04_Alike (x21.2.1, x21.2.2.2.2.2.1, x21.2.2.2.2.2.2.1, x21.2.2.2.2.2.2.2.1, r22.1, r22.2.1, r22.2.2)).bind fun r23 =>
 bif r23 then
 ((f_law05_awake ()).bind fun r24 =>
 some r24)
 else
 (some false)).bind fun x25 =>
 some x25)))))
end Go.Bk
end
