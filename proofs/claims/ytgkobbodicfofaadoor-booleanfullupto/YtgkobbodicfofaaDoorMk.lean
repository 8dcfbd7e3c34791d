import Derived.Test.YtgkobbodicfofaaDoorMa
import Derived.KernelRfl
import Derived.Test.YtgkobbodicfofaaDoorMd
noncomputable section
namespace Go.Bk
open Go Go.AM
set_option maxRecDepth 100000
set_option linter.unusedVariables false
/-! boskage/boskageref03.Few -/
def ref03_Few.L1 (x5 : Int × Int × (List Int) × (List (Int × (List Int) × (List (Int × (List Int) × Int)))) × Int × Int × (List (Int × (List Int) × Int)) × Int × Int) (rec6 : (Int × Int × (List Int) × (List (Int × (List Int) × (List (Int × (List Int) × Int)))) × Int × Int × (List (Int × (List Int) × Int)) × Int × Int) → Option (Sum (Int × Int × (List Int) × (List (Int × (List Int) × (List (Int × (List Int) × Int)))) × Int × Int) (Sum (List Int) Bool))) : Option (Sum (Int × Int × (List Int) × (List (Int × (List Int) × (List (Int × (List Int) × Int)))) × Int × Int) (Sum (List Int) Bool)) :=
 bif decide (x5.2.2.2.2.2.2.2.2 < x5.2.2.2.2.2.2.2.1) then
 ((nth? x5.2.2.2.2.2.2.1 x5.2.2.2.2.2.2.2.2).bind fun e7 =>
 bif decide ((10 : Int) < ((List.length e7.2.1 : Nat) : Int)) then
 (((some false).bind fun r => some (Sum.inr r)).bind fun r => some (Sum.inr r))
 else
 (rec6 (x5.1, x5.2.1, x5.2.2.1, x5.2.2.2.1, x5.2.2.2.2.1, x5.2.2.2.2.2.1, x5.2.2.2.2.2.2.1, x5.2.2.2.2.2.2.2.1, IntKind.wrap .i64 (x5.2.2.2.2.2.2.2.2 + (1 : Int)))))
 else
 (some (Sum.inl (x5.1, x5.2.1, x5.2.2.1, x5.2.2.2.1, x5.2.2.2.2.1, x5.2.2.2.2.2.1)))
def ref03_Few.L2 (n : Nat) (x1 : Int × Int × (List Int) × (List (Int × (List Int) × (List (Int × (List Int) × Int)))) × Int × Int) (rec2 : (Int × Int × (List Int) × (List (Int × (List Int) × (List (Int × (List Int) × Int)))) × Int × Int) → Option (Sum (List Int) Bool)) : Option (Sum (List Int) Bool) :=
 bif decide (x1.2.2.2.2.2 < x1.2.2.2.2.1) then
 ((nth? x1.2.2.2.1 x1.2.2.2.2.2).bind fun e3 =>
 (bif decide (x1.2.1 < ((List.length e3.2.1 : Nat) : Int)) then
 (some (x1.1, x1.2.1, x1.2.2.1, e3.1, e3.2.1, e3.2.2, x1.2.2.2.1, x1.2.2.2.2.1, x1.2.2.2.2.2, true))
 else
 (bif decide (x1.2.1 < ((List.length e3.2.2 : Nat) : Int)) then
 (some (x1.1, x1.2.1, x1.2.2.1, e3.1, e3.2.1, e3.2.2, x1.2.2.2.1, x1.2.2.2.2.1, x1.2.2.2.2.2, true))
 else
 (bif decide (x1.1 < e3.1) then
 (some (x1.1, x1.2.1, x1.2.2.1, e3.1, e3.2.1, e3.2.2, x1.2.2.2.1, x1.2.2.2.2.1, x1.2.2.2.2.2, decide (e3.1 ≤ (300 : Int))))
 else
 (some (x1.1, x1.2.1, x1.2.2.1, e3.1, e3.2.1, e3.2.2, x1.2.2.2.1, x1.2.2.2.2.1, x1.2.2.2.2.2, false))))).bind fun x4 =>
 bif x4.2.2.2.2.2.2.2.2.2 then
 ((some false).bind fun r => some (Sum.inr r))
 else
 ((loopN (ref03_Few.L1) n (x4.1, x4.2.1, x4.2.2.1, x4.2.2.2.2.2.2.1, x4.2.2.2.2.2.2.2.1, x4.2.2.2.2.2.2.2.2.1, x4.2.2.2.2.2.1, ((List.length x4.2.2.2.2.2.1 : Nat) : Int), (0 : Int))).bind fun q => match q with
 | Sum.inl x8 => (rec2 (x8.1, x8.2.1, x8.2.2.1, x8.2.2.2.1, x8.2.2.2.2.1, IntKind.wrap .i64 (x8.2.2.2.2.2 + (1 : Int))))
 | Sum.inr r => some r))
 else
 (some (Sum.inl x1.2.2.1))
def ref03_Few.P (n : Nat) (x : (List Int) × Int × Int × (List (Int × (List Int) × (List (Int × (List Int) × Int))))) : Option Bool :=
 (loopN (ref03_Few.L2 n) n (x.2.1, x.2.2.1, x.1, x.2.2.2, ((List.length x.2.2.2 : Nat) : Int), (0 : Int))).bind fun q => match q with
 | Sum.inl x9 => (some (decide (((List.length x9 : Nat) : Int) ≤ (40 : Int))))
 | Sum.inr r => some r
/-! boskage/boskageref01.count -/
def ref01_count.L1 (f_ref01_count : (Int × (List (RT Int)) × Int) → Option Int) (x1 : Int × Int × (List (RT Int)) × Int × Int) (rec2 : (Int × Int × (List (RT Int)) × Int × Int) → Option Int) : Option Int :=
 bif decide (x1.2.2.2.2 < x1.2.2.2.1) then
 ((nth? x1.2.2.1 x1.2.2.2.2).bind fun e3 =>
 (bif decide (x1.2.1 ≤ x1.1) then
 ((f_ref01_count (RT.a e3, RT.kids e3, IntKind.wrap .i64 (x1.1 - x1.2.1))).bind fun r4 =>
 some (x1.1, IntKind.wrap .i64 (x1.2.1 + r4), x1.2.2.1, x1.2.2.2.1, x1.2.2.2.2))
 else
 (some (x1.1, x1.2.1, x1.2.2.1, x1.2.2.2.1, x1.2.2.2.2))).bind fun x5 =>
 rec2 (x5.1, x5.2.1, x5.2.2.1, x5.2.2.2.1, IntKind.wrap .i64 (x5.2.2.2.2 + (1 : Int))))
 else
 (some x1.2.1)
def ref01_count.P (f_ref01_count : (Int × (List (RT Int)) × Int) → Option Int) (n : Nat) (x : Int × (List (RT Int)) × Int) : Option Int :=
 (loopN (ref01_count.L1 f_ref01_count) n (x.2.2, (1 : Int), x.2.1, ((List.length x.2.1 : Nat) : Int), (0 : Int))).bind fun x6 =>
 some x6
/-! boskage/boskageref01.Few -/
def ref01_Few.P (f_ref01_count : (Int × (List (RT Int)) × Int) → Option Int) (n : Nat) (x : Int × (List (RT Int)) × Int) : Option Bool :=
 (f_ref01_count (x.1, x.2.1, x.2.2)).bind fun r1 =>
 some (decide (r1 ≤ x.2.2))
/-! boskage/boskagelaw05.few -/
def law05_few.P (f_ref01_Few : (Int × (List (RT Int)) × Int) → Option Bool) (f_ref03_Few : ((List Int) × Int × Int × (List (Int × (List Int) × (List (Int × (List Int) × Int))))) → Option Bool) (n : Nat) (x : (List Int) × Int × (List (RT Int)) × (List (Int × (List Int) × (List (Int × (List Int) × Int))))) : Option Bool :=
 ((f_ref03_Few (x.1, (6 : Int), (30 : Int), x.2.2.2)).bind fun r1 =>
 bif r1 then
 ((f_ref01_Few (x.2.1, x.2.2.1, (400 : Int))).bind fun r2 =>
 some r2)
 else
 (some false)).bind fun x3 =>
 some x3
/-! boskage/boskagelaw05.even -/
def law05_even.P (n : Nat) (x : Unit) : Option (Int × (List Int) × (List (Int × (List Int) × Int))) :=
 some ((2 : Int), ([(1 : Int)] : List Int), ([((0 : Int), ([] : List Int), (0 : Int)), ((1 : Int), ([(0 : Int), (0 : Int)] : List Int), (1 : Int)), ((1 : Int), ([(1 : Int), (1 : Int)] : List Int), (0 : Int))] : List (Int × (List Int) × Int)))
/-! boskage/tree.ValidAlphabet$1 -/
def tree_ValidAlphabet_1.P (n : Nat) (x : Int) : Option Bool :=
 (bif decide (x < (0 : Int)) then
 (some true)
 else
 (some (decide ((3 : Int) < x)))).bind fun x1 =>
 some x1
/-! slices.IndexFunc[[]int,int] -/
def slices_IndexFunc_int_int_of_tree_ValidAlphabet_1.L1 (f_tree_ValidAlphabet_1 : Int → Option Bool) (x1 : (List Int) × Int × Int) (rec2 : ((List Int) × Int × Int) → Option (Sum Unit Int)) : Option (Sum Unit Int) :=
 bif decide (x1.2.2 < x1.2.1) then
 ((nth? x1.1 x1.2.2).bind fun e3 =>
 (f_tree_ValidAlphabet_1 e3).bind fun r4 =>
 bif r4 then
 ((some x1.2.2).bind fun r => some (Sum.inr r))
 else
 (rec2 (x1.1, x1.2.1, IntKind.wrap .i64 (x1.2.2 + (1 : Int)))))
 else
 (some (Sum.inl ()))
def slices_IndexFunc_int_int_of_tree_ValidAlphabet_1.P (f_tree_ValidAlphabet_1 : Int → Option Bool) (n : Nat) (x : List Int) : Option Int :=
 (loopN (slices_IndexFunc_int_int_of_tree_ValidAlphabet_1.L1 f_tree_ValidAlphabet_1) n (x, ((List.length x : Nat) : Int), (0 : Int))).bind fun q => match q with
 | Sum.inl x5 => (some (-1 : Int))
 | Sum.inr r => some r
/-! slices.ContainsFunc[[]int,int] -/
def slices_ContainsFunc_int_int_of_tree_ValidAlphabet_1.P (f_slices_IndexFunc_int_int_of_tree_ValidAlphabet_1 : List Int → Option Int) (n : Nat) (x : List Int) : Option Bool :=
 (f_slices_IndexFunc_int_int_of_tree_ValidAlphabet_1 x).bind fun r1 =>
 some (decide ((0 : Int) ≤ r1))
/-! boskage/tree.ValidAlphabet -/
def tree_ValidAlphabet.P (f_slices_ContainsFunc_int_int_of_tree_ValidAlphabet_1 : List Int → Option Bool) (n : Nat) (x : List Int) : Option Bool :=
 (bif decide (((List.length x : Nat) : Int) ≤ (12 : Int)) then
 ((f_slices_ContainsFunc_int_int_of_tree_ValidAlphabet_1 x).bind fun r1 =>
 some (!r1))
 else
 (some false)).bind fun x2 =>
 some x2
/-! boskage/auto.Valid$1 -/
def auto_Valid_1.P (n : Nat) (x : Int × Int × (List Int) × (List (Int × (List Int) × Int))) : Option Bool :=
 (bif decide ((0 : Int) ≤ x.1) then
 (some (decide (x.1 < x.2.1)))
 else
 (some false)).bind fun x1 =>
 some x1
/-! boskage/auto.Valid -/
def auto_Valid.L1 (f_auto_Valid_1 : (Int × Int × (List Int) × (List (Int × (List Int) × Int))) → Option Bool) (x3 : (List Int) × Int × (List Int) × (List (Int × (List Int) × Int)) × (List Int) × Int × Int) (rec4 : ((List Int) × Int × (List Int) × (List (Int × (List Int) × Int)) × (List Int) × Int × Int) → Option (Sum ((List Int) × Int × (List Int) × (List (Int × (List Int) × Int))) Bool)) : Option (Sum ((List Int) × Int × (List Int) × (List (Int × (List Int) × Int))) Bool) :=
 bif decide (x3.2.2.2.2.2.2 < x3.2.2.2.2.2.1) then
 ((nth? x3.2.2.2.2.1 x3.2.2.2.2.2.2).bind fun e5 =>
 ((f_auto_Valid_1 (e5, x3.2.1, x3.2.2.1, x3.2.2.2.1)).bind fun r6 =>
 bif !r6 then
 (some (x3.1, x3.2.1, x3.2.2.1, x3.2.2.2.1, x3.2.2.2.2.1, x3.2.2.2.2.2.1, x3.2.2.2.2.2.2, true))
 else
 (bif decide ((0 : Int) < x3.2.2.2.2.2.2) then
 ((nth? x3.2.2.1 (IntKind.wrap .i64 (x3.2.2.2.2.2.2 - (1 : Int)))).bind fun e7 =>
 some (x3.1, x3.2.1, x3.2.2.1, x3.2.2.2.1, x3.2.2.2.2.1, x3.2.2.2.2.2.1, x3.2.2.2.2.2.2, decide (e5 ≤ e7)))
 else
 (some (x3.1, x3.2.1, x3.2.2.1, x3.2.2.2.1, x3.2.2.2.2.1, x3.2.2.2.2.2.1, x3.2.2.2.2.2.2, false)))).bind fun x8 =>
 bif x8.2.2.2.2.2.2.2 then
 ((some false).bind fun r => some (Sum.inr r))
 else
 (rec4 (x8.1, x8.2.1, x8.2.2.1, x8.2.2.2.1, x8.2.2.2.2.1, x8.2.2.2.2.2.1, IntKind.wrap .i64 (x8.2.2.2.2.2.2.1 + (1 : Int)))))
 else
 (some (Sum.inl (x3.1, x3.2.1, x3.2.2.1, x3.2.2.2.1)))
def auto_Valid.L2 (f_auto_Valid_1 : (Int × Int × (List Int) × (List (Int × (List Int) × Int))) → Option Bool) (x16 : (List Int) × Int × (List Int) × (List (Int × (List Int) × Int)) × (List (Int × (List Int) × Int)) × Int × Int × (List Int) × Int × Int) (rec17 : ((List Int) × Int × (List Int) × (List (Int × (List Int) × Int)) × (List (Int × (List Int) × Int)) × Int × Int × (List Int) × Int × Int) → Option (Sum ((List Int) × Int × (List Int) × (List (Int × (List Int) × Int)) × (List (Int × (List Int) × Int)) × Int × Int) (Sum Unit Bool))) : Option (Sum ((List Int) × Int × (List Int) × (List (Int × (List Int) × Int)) × (List (Int × (List Int) × Int)) × Int × Int) (Sum Unit Bool)) :=
 bif decide (x16.2.2.2.2.2.2.2.2.2 < x16.2.2.2.2.2.2.2.2.1) then
 ((nth? x16.2.2.2.2.2.2.2.1 x16.2.2.2.2.2.2.2.2.2).bind fun e18 =>
 (f_auto_Valid_1 (e18, x16.2.1, x16.2.2.1, x16.2.2.2.1)).bind fun r19 =>
 bif !r19 then
 (((some false).bind fun r => some (Sum.inr r)).bind fun r => some (Sum.inr r))
 else
 (rec17 (x16.1, x16.2.1, x16.2.2.1, x16.2.2.2.1, x16.2.2.2.2.1, x16.2.2.2.2.2.1, x16.2.2.2.2.2.2.1, x16.2.2.2.2.2.2.2.1, x16.2.2.2.2.2.2.2.2.1, IntKind.wrap .i64 (x16.2.2.2.2.2.2.2.2.2 + (1 : Int)))))
 else
 (some (Sum.inl (x16.1, x16.2.1, x16.2.2.1, x16.2.2.2.1, x16.2.2.2.2.1, x16.2.2.2.2.2.1, x16.2.2.2.2.2.2.1)))
def auto_Valid.L3 (f_auto_Valid_1 : (Int × Int × (List Int) × (List (Int × (List Int) × Int))) → Option Bool) (n : Nat) (x10 : (List Int) × Int × (List Int) × (List (Int × (List Int) × Int)) × (List (Int × (List Int) × Int)) × Int × Int) (rec11 : ((List Int) × Int × (List Int) × (List (Int × (List Int) × Int)) × (List (Int × (List Int) × Int)) × Int × Int) → Option (Sum Unit Bool)) : Option (Sum Unit Bool) :=
 bif decide (x10.2.2.2.2.2.2 < x10.2.2.2.2.2.1) then
 ((nth? x10.2.2.2.2.1 x10.2.2.2.2.2.2).bind fun e12 =>
 (bif decide (e12.1 < (0 : Int)) then
 (some (x10.1, x10.2.1, x10.2.2.1, x10.2.2.2.1, e12.1, e12.2.1, e12.2.2, x10.2.2.2.2.1, x10.2.2.2.2.2.1, x10.2.2.2.2.2.2, true))
 else
 (bif decide (((List.length x10.1 : Nat) : Int) ≤ e12.1) then
 (some (x10.1, x10.2.1, x10.2.2.1, x10.2.2.2.1, e12.1, e12.2.1, e12.2.2, x10.2.2.2.2.1, x10.2.2.2.2.2.1, x10.2.2.2.2.2.2, true))
 else
 ((nth? x10.1 e12.1).bind fun e13 =>
 bif !decide (((List.length e12.2.1 : Nat) : Int) = e13) then
 (some (x10.1, x10.2.1, x10.2.2.1, x10.2.2.2.1, e12.1, e12.2.1, e12.2.2, x10.2.2.2.2.1, x10.2.2.2.2.2.1, x10.2.2.2.2.2.2, true))
 else
 ((f_auto_Valid_1 (e12.2.2, x10.2.1, x10.2.2.1, x10.2.2.2.1)).bind fun r14 =>
 some (x10.1, x10.2.1, x10.2.2.1, x10.2.2.2.1, e12.1, e12.2.1, e12.2.2, x10.2.2.2.2.1, x10.2.2.2.2.2.1, x10.2.2.2.2.2.2, !r14))))).bind fun x15 =>
 bif x15.2.2.2.2.2.2.2.2.2.2 then
 ((some false).bind fun r => some (Sum.inr r))
 else
 ((loopN (auto_Valid.L2 f_auto_Valid_1) n (x15.1, x15.2.1, x15.2.2.1, x15.2.2.2.1, x15.2.2.2.2.2.2.2.1, x15.2.2.2.2.2.2.2.2.1, x15.2.2.2.2.2.2.2.2.2.1, x15.2.2.2.2.2.1, ((List.length x15.2.2.2.2.2.1 : Nat) : Int), (0 : Int))).bind fun q => match q with
 | Sum.inl x20 => (rec11 (x20.1, x20.2.1, x20.2.2.1, x20.2.2.2.1, x20.2.2.2.2.1, x20.2.2.2.2.2.1, IntKind.wrap .i64 (x20.2.2.2.2.2.2 + (1 : Int))))
 | Sum.inr r => some r))
 else
 (some (Sum.inl ()))
def auto_Valid.P (f_auto_Valid_1 : (Int × Int × (List Int) × (List (Int × (List Int) × Int))) → Option Bool) (f_tree_ValidAlphabet : List Int → Option Bool) (n : Nat) (x : (List Int) × Int × (List Int) × (List (Int × (List Int) × Int))) : Option Bool :=
 ((f_tree_ValidAlphabet x.1).bind fun r1 =>
 bif !r1 then
 (some (x.1, x.2.1, x.2.2.1, x.2.2.2, true))
 else
 (bif decide (x.2.1 < (0 : Int)) then
 (some (x.1, x.2.1, x.2.2.1, x.2.2.2, true))
 else
 (bif decide ((300 : Int) < x.2.1) then
 (some (x.1, x.2.1, x.2.2.1, x.2.2.2, true))
 else
 (some (x.1, x.2.1, x.2.2.1, x.2.2.2, decide ((20000 : Int) < ((List.length x.2.2.2 : Nat) : Int))))))).bind fun x2 =>
 bif x2.2.2.2.2 then
 (some false)
 else
 ((loopN (auto_Valid.L1 f_auto_Valid_1) n (x2.1, x2.2.1, x2.2.2.1, x2.2.2.2.1, x2.2.2.1, ((List.length x2.2.2.1 : Nat) : Int), (0 : Int))).bind fun q => match q with
 | Sum.inl x9 => ((loopN (auto_Valid.L3 f_auto_Valid_1 n) n (x9.1, x9.2.1, x9.2.2.1, x9.2.2.2, x9.2.2.2, ((List.length x9.2.2.2 : Nat) : Int), (0 : Int))).bind fun q => match q with
 | Sum.inl x21 => (some true)
 | Sum.inr r => some r)
 | Sum.inr r => some r)
/-! boskage/auto.Copy -/
def auto_Copy.L1 (f_slices_Clone_int_int : List Int → Option (List Int)) (x2 : Int × (List Int) × (List (Int × (List Int) × Int)) × Int × (List Int) × (List (Int × (List Int) × Int)) × (List (Int × (List Int) × Int)) × Int × Int) (rec3 : (Int × (List Int) × (List (Int × (List Int) × Int)) × Int × (List Int) × (List (Int × (List Int) × Int)) × (List (Int × (List Int) × Int)) × Int × Int) → Option (Int × (List Int) × (List (Int × (List Int) × Int)) × Int × (List Int) × (List (Int × (List Int) × Int)))) : Option (Int × (List Int) × (List (Int × (List Int) × Int)) × Int × (List Int) × (List (Int × (List Int) × Int))) :=
 bif decide (x2.2.2.2.2.2.2.2.2 < x2.2.2.2.2.2.2.2.1) then
 ((nth? x2.2.2.2.2.2.2.1 x2.2.2.2.2.2.2.2.2).bind fun e4 =>
 (f_slices_Clone_int_int e4.2.1).bind fun r5 =>
 bif decide (List.length x2.2.2.2.2.2.1 + List.length ([(e4.1, r5, e4.2.2)] : List (Int × (List Int) × Int)) ≤ maxRows) then
 rec3 (x2.1, x2.2.1, x2.2.2.1, x2.2.2.2.1, x2.2.2.2.2.1, List.append x2.2.2.2.2.2.1 ([(e4.1, r5, e4.2.2)] : List (Int × (List Int) × Int)), x2.2.2.2.2.2.2.1, x2.2.2.2.2.2.2.2.1, IntKind.wrap .i64 (x2.2.2.2.2.2.2.2.2 + (1 : Int)))
 else none)
 else
 (some (x2.1, x2.2.1, x2.2.2.1, x2.2.2.2.1, x2.2.2.2.2.1, x2.2.2.2.2.2.1))
def auto_Copy.P (f_slices_Clone_int_int : List Int → Option (List Int)) (n : Nat) (x : Int × (List Int) × (List (Int × (List Int) × Int))) : Option (Int × (List Int) × (List (Int × (List Int) × Int))) :=
 (f_slices_Clone_int_int x.2.1).bind fun r1 =>
 (loopN (auto_Copy.L1 f_slices_Clone_int_int) n ((0 : Int), ([] : List Int), ([] : List (Int × (List Int) × Int)), x.1, r1, ([] : List (Int × (List Int) × Int)), x.2.2, ((List.length x.2.2 : Nat) : Int), (0 : Int))).bind fun x6 =>
 some (x6.2.2.2.1, x6.2.2.2.2.1, x6.2.2.2.2.2)
/-! boskage/auto.Final -/
def auto_Final.L1 (x1 : (List Bool) × (List Int) × Int × Int) (rec2 : ((List Bool) × (List Int) × Int × Int) → Option (List Bool)) : Option (List Bool) :=
 bif decide (x1.2.2.2 < x1.2.2.1) then
 ((nth? x1.2.1 x1.2.2.2).bind fun e3 =>
 bif decide (0 ≤ e3) && decide (e3 < ((List.length x1.1 : Nat) : Int)) then
 (at? x1.1 (Int.toNat e3)).bind fun e4 =>
 rec2 (List.set x1.1 (Int.toNat e3) true, x1.2.1, x1.2.2.1, IntKind.wrap .i64 (x1.2.2.2 + (1 : Int)))
 else none)
 else
 (some x1.1)
def auto_Final.P (n : Nat) (x : Int × (List Int) × (List (Int × (List Int) × Int))) : Option (List Bool) :=
 bif decide (0 ≤ x.1) && decide (x.1 ≤ x.1) && decide (x.1 ≤ ((maxRows : Nat) : Int)) then
 (loopN (auto_Final.L1) n (List.replicate (Int.toNat x.1) (false : Bool), x.2.1, ((List.length x.2.1 : Nat) : Int), (0 : Int))).bind fun x5 =>
 some x5
 else none
/-! math/bits.Mul64 -/
def math_bits_Mul64.P (n : Nat) (x : Int × Int) : Option (Int × Int) :=
 bif decide (0 ≤ (32 : Int)) && decide ((32 : Int) ≤ ((IntKind.bits .u64 : Nat) : Int)) then
 bif decide (0 ≤ (32 : Int)) && decide ((32 : Int) ≤ ((IntKind.bits .u64 : Nat) : Int)) then
 bif decide (0 ≤ (32 : Int)) && decide ((32 : Int) ≤ ((IntKind.bits .u64 : Nat) : Int)) then
 bif decide (0 ≤ (32 : Int)) && decide ((32 : Int) ≤ ((IntKind.bits .u64 : Nat) : Int)) then
 bif decide (0 ≤ (32 : Int)) && decide ((32 : Int) ≤ ((IntKind.bits .u64 : Nat) : Int)) then
 some (IntKind.wrap .u64 ((IntKind.wrap .u64 ((IntKind.wrap .u64 ((x.1 / 2 ^ Int.toNat (32 : Int)) * (x.2 / 2 ^ Int.toNat (32 : Int)))) + ((IntKind.wrap .u64 ((IntKind.wrap .u64 ((x.1 / 2 ^ Int.toNat (32 : Int)) * (bits .and .u64 x.2 (4294967295 : Int)))) + ((IntKind.wrap .u64 ((bits .and .u64 x.1 (4294967295 : Int)) * (bits .and .u64 x.2 (4294967295 : Int)))) / 2 ^ Int.toNat (32 : Int)))) / 2 ^ Int.toNat (32 : Int)))) + ((IntKind.wrap .u64 ((bits .and .u64 (IntKind.wrap .u64 ((IntKind.wrap .u64 ((x.1 / 2 ^ Int.toNat (32 : Int)) * (bits .and .u64 x.2 (4294967295 : Int)))) + ((IntKind.wrap .u64 ((bits .and .u64 x.1 (4294967295 : Int)) * (bits .and .u64 x.2 (4294967295 : Int)))) / 2 ^ Int.toNat (32 : Int)))) (4294967295 : Int)) + (IntKind.wrap .u64 ((bits .and .u64 x.1 (4294967295 : Int)) * (x.2 / 2 ^ Int.toNat (32 : Int)))))) / 2 ^ Int.toNat (32 : Int))), IntKind.wrap .u64 (x.1 * x.2))
 else none
 else none
 else none
 else none
 else none
/-! math/bits.Mul -/
def math_bits_Mul.P (f_math_bits_Mul64 : (Int × Int) → Option (Int × Int)) (n : Nat) (x : Int × Int) : Option (Int × Int) :=
 (f_math_bits_Mul64 (x.1, x.2)).bind fun r1 =>
 some (r1.1, r1.2)
/-! slices.Repeat[[]int,int] -/
def slices_Repeat_int_int.L1 (x5 : (List Int) × Int) (rec6 : ((List Int) × Int) → Option (List Int)) : Option (List Int) :=
 bif decide (x5.2 < ((List.length x5.1 : Nat) : Int)) then
 (bif decide (0 ≤ x5.2) && decide (x5.2 ≤ ((List.length x5.1 : Nat) : Int)) && decide (((List.length x5.1 : Nat) : Int) ≤ ((List.length x5.1 : Nat) : Int)) then
 bif decide (0 ≤ 0) && decide (0 ≤ x5.2) && decide (x5.2 ≤ ((List.length x5.1 : Nat) : Int)) then
 rec6 (List.append (List.append (List.take (Int.toNat x5.2) x5.1) (List.take (Nat.min (List.length (List.drop (Int.toNat 0) (List.take (Int.toNat x5.2) x5.1))) ((Int.toNat ((List.length x5.1 : Nat) : Int)) - (Int.toNat x5.2))) (List.drop (Int.toNat 0) (List.take (Int.toNat x5.2) x5.1)))) (List.drop ((Int.toNat x5.2) + (Nat.min (List.length (List.drop (Int.toNat 0) (List.take (Int.toNat x5.2) x5.1))) ((Int.toNat ((List.length x5.1 : Nat) : Int)) - (Int.toNat x5.2)))) x5.1), IntKind.wrap .i64 (x5.2 + ((Nat.min (List.length (List.drop (Int.toNat 0) (List.take (Int.toNat x5.2) x5.1))) ((Int.toNat ((List.length x5.1 : Nat) : Int)) - (Int.toNat x5.2)) : Nat) : Int)))
 else none
 else none)
 else
 (some x5.1)
def slices_Repeat_int_int.P (f_math_bits_Mul : (Int × Int) → Option (Int × Int)) (n : Nat) (x : (List Int) × Int) : Option (List Int) :=
 (bif decide (x.2 < (0 : Int)) then
 (none)
 else
 (some (x.1, x.2))).bind fun x1 =>
 (f_math_bits_Mul (IntKind.wrap .u64 ((List.length x1.1 : Nat) : Int), IntKind.wrap .u64 x1.2)).bind fun r2 =>
 (bif decide ((0 : Int) < r2.1) then
 (some (x1.1, r2.2, true))
 else
 (some (x1.1, r2.2, decide ((9223372036854775807 : Int) < r2.2)))).bind fun x3 =>
 (bif x3.2.2 then
 (none)
 else
 (some (x3.1, x3.2.1))).bind fun x4 =>
 bif decide (0 ≤ (IntKind.wrap .i64 x4.2)) && decide ((IntKind.wrap .i64 x4.2) ≤ (IntKind.wrap .i64 x4.2)) && decide ((IntKind.wrap .i64 x4.2) ≤ ((maxRows : Nat) : Int)) then
 (loopN (slices_Repeat_int_int.L1) n (List.append (List.append (List.take 0 (List.replicate (Int.toNat (IntKind.wrap .i64 x4.2)) ((0 : Int) : Int))) (List.take (Nat.min (List.length x4.1) ((List.length (List.replicate (Int.toNat (IntKind.wrap .i64 x4.2)) ((0 : Int) : Int))) - 0)) x4.1)) (List.drop (0 + (Nat.min (List.length x4.1) ((List.length (List.replicate (Int.toNat (IntKind.wrap .i64 x4.2)) ((0 : Int) : Int))) - 0))) (List.replicate (Int.toNat (IntKind.wrap .i64 x4.2)) ((0 : Int) : Int))), ((Nat.min (List.length x4.1) ((List.length (List.replicate (Int.toNat (IntKind.wrap .i64 x4.2)) ((0 : Int) : Int))) - 0) : Nat) : Int))).bind fun x7 =>
 some x7
 else none
/-! boskage/boolean.Under -/
def boolean_Under.L1 (f_slices_Clone_int_int : List Int → Option (List Int)) (x5 : Int × (List Int) × Int × (List Int) × (List (Int × (List Int) × Int)) × Int × (List Int) × (List (Int × (List Int) × Int)) × Int × Int × (List Bool) × (List (Int × (List Int) × Int)) × Int × Int) (rec6 : (Int × (List Int) × Int × (List Int) × (List (Int × (List Int) × Int)) × Int × (List Int) × (List (Int × (List Int) × Int)) × Int × Int × (List Bool) × (List (Int × (List Int) × Int)) × Int × Int) → Option ((List Int) × Int × (List Int) × (List (Int × (List Int) × Int)) × Int × (List Int) × (List (Int × (List Int) × Int)) × Int × Int)) : Option ((List Int) × Int × (List Int) × (List (Int × (List Int) × Int)) × Int × (List Int) × (List (Int × (List Int) × Int)) × Int × Int) :=
 bif decide (x5.2.2.2.2.2.2.2.2.2.2.2.2.2 < x5.2.2.2.2.2.2.2.2.2.2.2.2.1) then
 ((nth? x5.2.2.2.2.2.2.2.2.2.2.2.1 x5.2.2.2.2.2.2.2.2.2.2.2.2.2).bind fun e7 =>
 (bif decide (e7.1 = x5.1) then
 (bif decide (0 ≤ e7.2.2) && decide (e7.2.2 < ((List.length x5.2.2.2.2.2.2.2.2.2.2.1 : Nat) : Int)) then
 (at? x5.2.2.2.2.2.2.2.2.2.2.1 (Int.toNat e7.2.2)).bind fun e8 =>
 some (x5.1, x5.2.1, x5.2.2.1, x5.2.2.2.1, x5.2.2.2.2.1, x5.2.2.2.2.2.1, x5.2.2.2.2.2.2.1, x5.2.2.2.2.2.2.2.1, x5.2.2.2.2.2.2.2.2.1, x5.2.2.2.2.2.2.2.2.2.1, x5.2.2.2.2.2.2.2.2.2.2.1, e7.1, e7.2.1, e7.2.2, x5.2.2.2.2.2.2.2.2.2.2.2.1, x5.2.2.2.2.2.2.2.2.2.2.2.2.1, x5.2.2.2.2.2.2.2.2.2.2.2.2.2, e8)
 else none)
 else
 (some (x5.1, x5.2.1, x5.2.2.1, x5.2.2.2.1, x5.2.2.2.2.1, x5.2.2.2.2.2.1, x5.2.2.2.2.2.2.1, x5.2.2.2.2.2.2.2.1, x5.2.2.2.2.2.2.2.2.1, x5.2.2.2.2.2.2.2.2.2.1, x5.2.2.2.2.2.2.2.2.2.2.1, e7.1, e7.2.1, e7.2.2, x5.2.2.2.2.2.2.2.2.2.2.2.1, x5.2.2.2.2.2.2.2.2.2.2.2.2.1, x5.2.2.2.2.2.2.2.2.2.2.2.2.2, false))).bind fun x9 =>
 (bif x9.2.2.2.2.2.2.2.2.2.2.2.2.2.2.2.2.2 then
 ((f_slices_Clone_int_int x9.2.2.2.2.2.2.2.2.2.2.2.2.1).bind fun r10 =>
 bif decide (List.length x9.2.2.2.2.2.2.2.1 + List.length ([(x9.1, r10, x9.2.2.2.2.2.2.2.2.2.1)] : List (Int × (List Int) × Int)) ≤ maxRows) then
 some (x9.1, x9.2.1, x9.2.2.1, x9.2.2.2.1, x9.2.2.2.2.1, x9.2.2.2.2.2.1, x9.2.2.2.2.2.2.1, List.append x9.2.2.2.2.2.2.2.1 ([(x9.1, r10, x9.2.2.2.2.2.2.2.2.2.1)] : List (Int × (List Int) × Int)), x9.2.2.2.2.2.2.2.2.1, x9.2.2.2.2.2.2.2.2.2.1, x9.2.2.2.2.2.2.2.2.2.2.1, x9.2.2.2.2.2.2.2.2.2.2.2.2.2.2.1, x9.2.2.2.2.2.2.2.2.2.2.2.2.2.2.2.1, x9.2.2.2.2.2.2.2.2.2.2.2.2.2.2.2.2.1)
 else none)
 else
 (some (x9.1, x9.2.1, x9.2.2.1, x9.2.2.2.1, x9.2.2.2.2.1, x9.2.2.2.2.2.1, x9.2.2.2.2.2.2.1, x9.2.2.2.2.2.2.2.1, x9.2.2.2.2.2.2.2.2.1, x9.2.2.2.2.2.2.2.2.2.1, x9.2.2.2.2.2.2.2.2.2.2.1, x9.2.2.2.2.2.2.2.2.2.2.2.2.2.2.1, x9.2.2.2.2.2.2.2.2.2.2.2.2.2.2.2.1, x9.2.2.2.2.2.2.2.2.2.2.2.2.2.2.2.2.1))).bind fun x11 =>
 rec6 (x11.1, x11.2.1, x11.2.2.1, x11.2.2.2.1, x11.2.2.2.2.1, x11.2.2.2.2.2.1, x11.2.2.2.2.2.2.1, x11.2.2.2.2.2.2.2.1, x11.2.2.2.2.2.2.2.2.1, x11.2.2.2.2.2.2.2.2.2.1, x11.2.2.2.2.2.2.2.2.2.2.1, x11.2.2.2.2.2.2.2.2.2.2.2.1, x11.2.2.2.2.2.2.2.2.2.2.2.2.1, IntKind.wrap .i64 (x11.2.2.2.2.2.2.2.2.2.2.2.2.2 + (1 : Int))))
 else
 (some (x5.2.1, x5.2.2.1, x5.2.2.2.1, x5.2.2.2.2.1, x5.2.2.2.2.2.1, x5.2.2.2.2.2.2.1, x5.2.2.2.2.2.2.2.1, x5.2.2.2.2.2.2.2.2.1, x5.2.2.2.2.2.2.2.2.2.1))
def boolean_Under.L2 (f_slices_Repeat_int_int : ((List Int) × Int) → Option (List Int)) (x17 : Int × (List Int) × (List (Int × (List Int) × Int)) × Int × (List Int) × (List (Int × (List Int) × Int)) × Int × Int × Int × Int × (List Int) × Int × Int × Int × Int) (rec18 : (Int × (List Int) × (List (Int × (List Int) × Int)) × Int × (List Int) × (List (Int × (List Int) × Int)) × Int × Int × Int × Int × (List Int) × Int × Int × Int × Int) → Option (Int × (List Int) × (List (Int × (List Int) × Int)) × Int × (List Int) × (List (Int × (List Int) × Int)) × Int × Int × (List Int) × Int × Int)) : Option (Int × (List Int) × (List (Int × (List Int) × Int)) × Int × (List Int) × (List (Int × (List Int) × Int)) × Int × Int × (List Int) × Int × Int) :=
 bif decide (x17.2.2.2.2.2.2.2.2.2.2.2.2.2.2 < x17.2.2.2.2.2.2.2.2.2.2.2.2.2.1) then
 ((f_slices_Repeat_int_int (([x17.2.2.2.2.2.2.1] : List Int), x17.2.2.2.2.2.2.2.2.2.1)).bind fun r19 =>
 bif decide (0 ≤ x17.2.2.2.2.2.2.2.2.2.2.2.2.2.2) && decide (x17.2.2.2.2.2.2.2.2.2.2.2.2.2.2 < ((List.length r19 : Nat) : Int)) then
 (at? r19 (Int.toNat x17.2.2.2.2.2.2.2.2.2.2.2.2.2.2)).bind fun e20 =>
 bif decide (List.length x17.2.2.2.2.2.1 + List.length ([(x17.2.2.2.2.2.2.2.2.1, List.set r19 (Int.toNat x17.2.2.2.2.2.2.2.2.2.2.2.2.2.2) x17.2.2.2.2.2.2.2.1, x17.2.2.2.2.2.2.2.1)] : List (Int × (List Int) × Int)) ≤ maxRows) then
 rec18 (x17.1, x17.2.1, x17.2.2.1, x17.2.2.2.1, x17.2.2.2.2.1, List.append x17.2.2.2.2.2.1 ([(x17.2.2.2.2.2.2.2.2.1, List.set r19 (Int.toNat x17.2.2.2.2.2.2.2.2.2.2.2.2.2.2) x17.2.2.2.2.2.2.2.1, x17.2.2.2.2.2.2.2.1)] : List (Int × (List Int) × Int)), x17.2.2.2.2.2.2.1, x17.2.2.2.2.2.2.2.1, x17.2.2.2.2.2.2.2.2.1, x17.2.2.2.2.2.2.2.2.2.1, x17.2.2.2.2.2.2.2.2.2.2.1, x17.2.2.2.2.2.2.2.2.2.2.2.1, x17.2.2.2.2.2.2.2.2.2.2.2.2.1, x17.2.2.2.2.2.2.2.2.2.2.2.2.2.1, IntKind.wrap .i64 (x17.2.2.2.2.2.2.2.2.2.2.2.2.2.2 + (1 : Int)))
 else none
 else none)
 else
 (some (x17.1, x17.2.1, x17.2.2.1, x17.2.2.2.1, x17.2.2.2.2.1, x17.2.2.2.2.2.1, x17.2.2.2.2.2.2.1, x17.2.2.2.2.2.2.2.1, x17.2.2.2.2.2.2.2.2.2.2.1, x17.2.2.2.2.2.2.2.2.2.2.2.1, x17.2.2.2.2.2.2.2.2.2.2.2.2.1))
def boolean_Under.L3 (f_slices_Repeat_int_int : ((List Int) × Int) → Option (List Int)) (n : Nat) (x13 : Int × (List Int) × (List (Int × (List Int) × Int)) × Int × (List Int) × (List (Int × (List Int) × Int)) × Int × Int × (List Int) × Int × Int) (rec14 : (Int × (List Int) × (List (Int × (List Int) × Int)) × Int × (List Int) × (List (Int × (List Int) × Int)) × Int × Int × (List Int) × Int × Int) → Option (Int × (List Int) × (List (Int × (List Int) × Int)) × Int × (List Int) × (List (Int × (List Int) × Int)) × Int)) : Option (Int × (List Int) × (List (Int × (List Int) × Int)) × Int × (List Int) × (List (Int × (List Int) × Int)) × Int) :=
 bif decide (x13.2.2.2.2.2.2.2.2.2.2 < x13.2.2.2.2.2.2.2.2.2.1) then
 ((nth? x13.2.2.2.2.2.2.2.2.1 x13.2.2.2.2.2.2.2.2.2.2).bind fun e15 =>
 (f_slices_Repeat_int_int (([x13.2.2.2.2.2.2.1] : List Int), e15)).bind fun r16 =>
 bif decide (List.length x13.2.2.2.2.2.1 + List.length ([(x13.2.2.2.2.2.2.2.2.2.2, r16, x13.2.2.2.2.2.2.1)] : List (Int × (List Int) × Int)) ≤ maxRows) then
 (loopN (boolean_Under.L2 f_slices_Repeat_int_int) n (x13.1, x13.2.1, x13.2.2.1, x13.2.2.2.1, x13.2.2.2.2.1, List.append x13.2.2.2.2.2.1 ([(x13.2.2.2.2.2.2.2.2.2.2, r16, x13.2.2.2.2.2.2.1)] : List (Int × (List Int) × Int)), x13.2.2.2.2.2.2.1, x13.2.2.2.2.2.2.2.1, x13.2.2.2.2.2.2.2.2.2.2, e15, x13.2.2.2.2.2.2.2.2.1, x13.2.2.2.2.2.2.2.2.2.1, x13.2.2.2.2.2.2.2.2.2.2, e15, (0 : Int))).bind fun x21 =>
 rec14 (x21.1, x21.2.1, x21.2.2.1, x21.2.2.2.1, x21.2.2.2.2.1, x21.2.2.2.2.2.1, x21.2.2.2.2.2.2.1, x21.2.2.2.2.2.2.2.1, x21.2.2.2.2.2.2.2.2.1, x21.2.2.2.2.2.2.2.2.2.1, IntKind.wrap .i64 (x21.2.2.2.2.2.2.2.2.2.2 + (1 : Int)))
 else none)
 else
 (some (x13.1, x13.2.1, x13.2.2.1, x13.2.2.2.1, x13.2.2.2.2.1, x13.2.2.2.2.2.1, x13.2.2.2.2.2.2.2.1))
def boolean_Under.P (f_auto_Copy : (Int × (List Int) × (List (Int × (List Int) × Int))) → Option (Int × (List Int) × (List (Int × (List Int) × Int)))) (f_auto_Final : (Int × (List Int) × (List (Int × (List Int) × Int))) → Option (List Bool)) (f_auto_Valid : ((List Int) × Int × (List Int) × (List (Int × (List Int) × Int))) → Option Bool) (f_slices_Clone_int_int : List Int → Option (List Int)) (f_slices_Repeat_int_int : ((List Int) × Int) → Option (List Int)) (n : Nat) (x : (List Int) × Int × (List Int) × (List (Int × (List Int) × Int)) × Int) : Option (Int × (List Int) × (List (Int × (List Int) × Int)) × Int) :=
 (f_auto_Valid (x.1, x.2.1, x.2.2.1, x.2.2.2.1)).bind fun r1 =>
 bif !r1 then
 (some ((0 : Int), ([] : List Int), ([] : List (Int × (List Int) × Int)), (1 : Int)))
 else
 ((bif decide (x.2.2.2.2 < (0 : Int)) then
 (some (x.2.2.2.2, x.1, x.2.1, x.2.2.1, x.2.2.2.1, (0 : Int), ([] : List Int), ([] : List (Int × (List Int) × Int)), true))
 else
 (some (x.2.2.2.2, x.1, x.2.1, x.2.2.1, x.2.2.2.1, (0 : Int), ([] : List Int), ([] : List (Int × (List Int) × Int)), decide (((List.length x.1 : Nat) : Int) ≤ x.2.2.2.2)))).bind fun x2 =>
 bif x2.2.2.2.2.2.2.2.2 then
 (some ((0 : Int), ([] : List Int), ([] : List (Int × (List Int) × Int)), (6 : Int)))
 else
 ((f_auto_Copy (x2.2.2.1, x2.2.2.2.1, x2.2.2.2.2.1)).bind fun r3 =>
 (f_auto_Final (x2.2.2.1, x2.2.2.2.1, x2.2.2.2.2.1)).bind fun r4 =>
 (loopN (boolean_Under.L1 f_slices_Clone_int_int) n (x2.1, x2.2.1, x2.2.2.2.2.2.1, x2.2.2.2.2.2.2.1, x2.2.2.2.2.2.2.2.1, IntKind.wrap .i64 (r3.1 + (2 : Int)), r3.2.1, r3.2.2, r3.1, IntKind.wrap .i64 (r3.1 + (1 : Int)), r4, x2.2.2.2.2.1, ((List.length x2.2.2.2.2.1 : Nat) : Int), (0 : Int))).bind fun x12 =>
 (loopN (boolean_Under.L3 f_slices_Repeat_int_int n) n (x12.2.1, x12.2.2.1, x12.2.2.2.1, x12.2.2.2.2.1, x12.2.2.2.2.2.1, x12.2.2.2.2.2.2.1, x12.2.2.2.2.2.2.2.1, x12.2.2.2.2.2.2.2.2, x12.1, ((List.length x12.1 : Nat) : Int), (0 : Int))).bind fun x22 =>
 (bif decide ((300 : Int) < x22.2.2.2.1) then
 (some (x22.1, x22.2.1, x22.2.2.1, x22.2.2.2.1, ([x22.2.2.2.2.2.2] : List Int), x22.2.2.2.2.2.1, true))
 else
 (some (x22.1, x22.2.1, x22.2.2.1, x22.2.2.2.1, ([x22.2.2.2.2.2.2] : List Int), x22.2.2.2.2.2.1, decide ((20000 : Int) < ((List.length x22.2.2.2.2.2.1 : Nat) : Int))))).bind fun x23 =>
 bif x23.2.2.2.2.2.2 then
 (some ((0 : Int), ([] : List Int), ([] : List (Int × (List Int) × Int)), (3 : Int)))
 else
 (some (x23.2.2.2.1, x23.2.2.2.2.1, x23.2.2.2.2.2.1, (0 : Int)))))
/-! boskage/boskagelaw05.leaf -/
def law05_leaf.P (n : Nat) (x : Unit) : Option (Int × (List (RT Int))) :=
 some ((0 : Int), ([] : List (RT Int)))
/-! boskage/boskagelaw05.f -/
def law05_f.P (n : Nat) (x : Int × (List (RT Int)) × Int × (List (RT Int))) : Option (Int × (List (RT Int))) :=
 some ((1 : Int), ([RT.mk x.1 x.2.1, RT.mk x.2.2.1 x.2.2.2] : List (RT Int)))
/-! boskage/boskageref01.ValidAlphabet -/
def ref01_ValidAlphabet.L1 (x1 : (List Int) × Int × Int) (rec2 : ((List Int) × Int × Int) → Option (Sum Unit Bool)) : Option (Sum Unit Bool) :=
 bif decide (x1.2.2 < x1.2.1) then
 ((nth? x1.1 x1.2.2).bind fun e3 =>
 (bif decide (e3 < (0 : Int)) then
 (some (x1.1, x1.2.1, x1.2.2, true))
 else
 (some (x1.1, x1.2.1, x1.2.2, decide ((3 : Int) < e3)))).bind fun x4 =>
 bif x4.2.2.2 then
 ((some false).bind fun r => some (Sum.inr r))
 else
 (rec2 (x4.1, x4.2.1, IntKind.wrap .i64 (x4.2.2.1 + (1 : Int)))))
 else
 (some (Sum.inl ()))
def ref01_ValidAlphabet.P (n : Nat) (x : List Int) : Option Bool :=
 bif decide ((12 : Int) < ((List.length x : Nat) : Int)) then
 (some false)
 else
 ((loopN (ref01_ValidAlphabet.L1) n (x, ((List.length x : Nat) : Int), (0 : Int))).bind fun q => match q with
 | Sum.inl x5 => (some true)
 | Sum.inr r => some r)
/-! boskage/boskageref03.Valid -/
def ref03_Valid.L1 (x3 : (List Int) × Int × (List Int) × (List (Int × (List Int) × Int)) × (List Int) × Int × Int) (rec4 : ((List Int) × Int × (List Int) × (List (Int × (List Int) × Int)) × (List Int) × Int × Int) → Option (Sum ((List Int) × Int × (List Int) × (List (Int × (List Int) × Int))) Bool)) : Option (Sum ((List Int) × Int × (List Int) × (List (Int × (List Int) × Int))) Bool) :=
 bif decide (x3.2.2.2.2.2.2 < x3.2.2.2.2.2.1) then
 ((nth? x3.2.2.2.2.1 x3.2.2.2.2.2.2).bind fun e5 =>
 (bif decide (e5 < (0 : Int)) then
 (some (x3.1, x3.2.1, x3.2.2.1, x3.2.2.2.1, x3.2.2.2.2.1, x3.2.2.2.2.2.1, x3.2.2.2.2.2.2, true))
 else
 (bif decide (x3.2.1 ≤ e5) then
 (some (x3.1, x3.2.1, x3.2.2.1, x3.2.2.2.1, x3.2.2.2.2.1, x3.2.2.2.2.2.1, x3.2.2.2.2.2.2, true))
 else
 (bif decide ((0 : Int) < x3.2.2.2.2.2.2) then
 ((nth? x3.2.2.1 (IntKind.wrap .i64 (x3.2.2.2.2.2.2 - (1 : Int)))).bind fun e6 =>
 some (x3.1, x3.2.1, x3.2.2.1, x3.2.2.2.1, x3.2.2.2.2.1, x3.2.2.2.2.2.1, x3.2.2.2.2.2.2, decide (e5 ≤ e6)))
 else
 (some (x3.1, x3.2.1, x3.2.2.1, x3.2.2.2.1, x3.2.2.2.2.1, x3.2.2.2.2.2.1, x3.2.2.2.2.2.2, false))))).bind fun x7 =>
 bif x7.2.2.2.2.2.2.2 then
 ((some false).bind fun r => some (Sum.inr r))
 else
 (rec4 (x7.1, x7.2.1, x7.2.2.1, x7.2.2.2.1, x7.2.2.2.2.1, x7.2.2.2.2.2.1, IntKind.wrap .i64 (x7.2.2.2.2.2.2.1 + (1 : Int)))))
 else
 (some (Sum.inl (x3.1, x3.2.1, x3.2.2.1, x3.2.2.2.1)))
def ref03_Valid.L2 (x14 : (List Int) × Int × (List Int) × (List (Int × (List Int) × Int)) × (List (Int × (List Int) × Int)) × Int × Int × (List Int) × Int × Int) (rec15 : ((List Int) × Int × (List Int) × (List (Int × (List Int) × Int)) × (List (Int × (List Int) × Int)) × Int × Int × (List Int) × Int × Int) → Option (Sum ((List Int) × Int × (List Int) × (List (Int × (List Int) × Int)) × (List (Int × (List Int) × Int)) × Int × Int) (Sum Unit Bool))) : Option (Sum ((List Int) × Int × (List Int) × (List (Int × (List Int) × Int)) × (List (Int × (List Int) × Int)) × Int × Int) (Sum Unit Bool)) :=
 bif decide (x14.2.2.2.2.2.2.2.2.2 < x14.2.2.2.2.2.2.2.2.1) then
 ((nth? x14.2.2.2.2.2.2.2.1 x14.2.2.2.2.2.2.2.2.2).bind fun e16 =>
 (bif decide (e16 < (0 : Int)) then
 (some (x14.1, x14.2.1, x14.2.2.1, x14.2.2.2.1, x14.2.2.2.2.1, x14.2.2.2.2.2.1, x14.2.2.2.2.2.2.1, x14.2.2.2.2.2.2.2.1, x14.2.2.2.2.2.2.2.2.1, x14.2.2.2.2.2.2.2.2.2, true))
 else
 (some (x14.1, x14.2.1, x14.2.2.1, x14.2.2.2.1, x14.2.2.2.2.1, x14.2.2.2.2.2.1, x14.2.2.2.2.2.2.1, x14.2.2.2.2.2.2.2.1, x14.2.2.2.2.2.2.2.2.1, x14.2.2.2.2.2.2.2.2.2, decide (x14.2.1 ≤ e16)))).bind fun x17 =>
 bif x17.2.2.2.2.2.2.2.2.2.2 then
 (((some false).bind fun r => some (Sum.inr r)).bind fun r => some (Sum.inr r))
 else
 (rec15 (x17.1, x17.2.1, x17.2.2.1, x17.2.2.2.1, x17.2.2.2.2.1, x17.2.2.2.2.2.1, x17.2.2.2.2.2.2.1, x17.2.2.2.2.2.2.2.1, x17.2.2.2.2.2.2.2.2.1, IntKind.wrap .i64 (x17.2.2.2.2.2.2.2.2.2.1 + (1 : Int)))))
 else
 (some (Sum.inl (x14.1, x14.2.1, x14.2.2.1, x14.2.2.2.1, x14.2.2.2.2.1, x14.2.2.2.2.2.1, x14.2.2.2.2.2.2.1)))
def ref03_Valid.L3 (n : Nat) (x9 : (List Int) × Int × (List Int) × (List (Int × (List Int) × Int)) × (List (Int × (List Int) × Int)) × Int × Int) (rec10 : ((List Int) × Int × (List Int) × (List (Int × (List Int) × Int)) × (List (Int × (List Int) × Int)) × Int × Int) → Option (Sum Unit Bool)) : Option (Sum Unit Bool) :=
 bif decide (x9.2.2.2.2.2.2 < x9.2.2.2.2.2.1) then
 ((nth? x9.2.2.2.2.1 x9.2.2.2.2.2.2).bind fun e11 =>
 (bif decide (e11.1 < (0 : Int)) then
 (some (x9.1, x9.2.1, x9.2.2.1, x9.2.2.2.1, e11.1, e11.2.1, e11.2.2, x9.2.2.2.2.1, x9.2.2.2.2.2.1, x9.2.2.2.2.2.2, true))
 else
 (bif decide (((List.length x9.1 : Nat) : Int) ≤ e11.1) then
 (some (x9.1, x9.2.1, x9.2.2.1, x9.2.2.2.1, e11.1, e11.2.1, e11.2.2, x9.2.2.2.2.1, x9.2.2.2.2.2.1, x9.2.2.2.2.2.2, true))
 else
 ((nth? x9.1 e11.1).bind fun e12 =>
 bif !decide (((List.length e11.2.1 : Nat) : Int) = e12) then
 (some (x9.1, x9.2.1, x9.2.2.1, x9.2.2.2.1, e11.1, e11.2.1, e11.2.2, x9.2.2.2.2.1, x9.2.2.2.2.2.1, x9.2.2.2.2.2.2, true))
 else
 (bif decide (e11.2.2 < (0 : Int)) then
 (some (x9.1, x9.2.1, x9.2.2.1, x9.2.2.2.1, e11.1, e11.2.1, e11.2.2, x9.2.2.2.2.1, x9.2.2.2.2.2.1, x9.2.2.2.2.2.2, true))
 else
 (some (x9.1, x9.2.1, x9.2.2.1, x9.2.2.2.1, e11.1, e11.2.1, e11.2.2, x9.2.2.2.2.1, x9.2.2.2.2.2.1, x9.2.2.2.2.2.2, decide (x9.2.1 ≤ e11.2.2))))))).bind fun x13 =>
 bif x13.2.2.2.2.2.2.2.2.2.2 then
 ((some false).bind fun r => some (Sum.inr r))
 else
 ((loopN (ref03_Valid.L2) n (x13.1, x13.2.1, x13.2.2.1, x13.2.2.2.1, x13.2.2.2.2.2.2.2.1, x13.2.2.2.2.2.2.2.2.1, x13.2.2.2.2.2.2.2.2.2.1, x13.2.2.2.2.2.1, ((List.length x13.2.2.2.2.2.1 : Nat) : Int), (0 : Int))).bind fun q => match q with
 | Sum.inl x18 => (rec10 (x18.1, x18.2.1, x18.2.2.1, x18.2.2.2.1, x18.2.2.2.2.1, x18.2.2.2.2.2.1, IntKind.wrap .i64 (x18.2.2.2.2.2.2 + (1 : Int))))
 | Sum.inr r => some r))
 else
 (some (Sum.inl ()))
def ref03_Valid.P (f_ref01_ValidAlphabet : List Int → Option Bool) (n : Nat) (x : (List Int) × Int × (List Int) × (List (Int × (List Int) × Int))) : Option Bool :=
 ((f_ref01_ValidAlphabet x.1).bind fun r1 =>
 bif !r1 then
 (some (x.1, x.2.1, x.2.2.1, x.2.2.2, true))
 else
 (bif decide (x.2.1 < (0 : Int)) then
 (some (x.1, x.2.1, x.2.2.1, x.2.2.2, true))
 else
 (bif decide ((300 : Int) < x.2.1) then
 (some (x.1, x.2.1, x.2.2.1, x.2.2.2, true))
 else
 (some (x.1, x.2.1, x.2.2.1, x.2.2.2, decide ((20000 : Int) < ((List.length x.2.2.2 : Nat) : Int))))))).bind fun x2 =>
 bif x2.2.2.2.2 then
 (some false)
 else
 ((loopN (ref03_Valid.L1) n (x2.1, x2.2.1, x2.2.2.1, x2.2.2.2.1, x2.2.2.1, ((List.length x2.2.2.1 : Nat) : Int), (0 : Int))).bind fun q => match q with
 | Sum.inl x8 => ((loopN (ref03_Valid.L3 n) n (x8.1, x8.2.1, x8.2.2.1, x8.2.2.2, x8.2.2.2, ((List.length x8.2.2.2 : Nat) : Int), (0 : Int))).bind fun q => match q with
 | Sum.inl x19 => (some true)
 | Sum.inr r => some r)
 | Sum.inr r => some r)
/-! boskage/boskageref03.In -/
def ref03_In.L1 (x1 : Int × (List Int) × Int × Int) (rec2 : (Int × (List Int) × Int × Int) → Option (Sum Unit Bool)) : Option (Sum Unit Bool) :=
 bif decide (x1.2.2.2 < x1.2.2.1) then
 ((nth? x1.2.1 x1.2.2.2).bind fun e3 =>
 bif decide (e3 = x1.1) then
 ((some true).bind fun r => some (Sum.inr r))
 else
 (rec2 (x1.1, x1.2.1, x1.2.2.1, IntKind.wrap .i64 (x1.2.2.2 + (1 : Int)))))
 else
 (some (Sum.inl ()))
def ref03_In.P (n : Nat) (x : (List Int) × Int) : Option Bool :=
 (loopN (ref03_In.L1) n (x.2, x.1, ((List.length x.1 : Nat) : Int), (0 : Int))).bind fun q => match q with
 | Sum.inl x4 => (some false)
 | Sum.inr r => some r
/-! boskage/boskageref03.Insert -/
def ref03_Insert.L1 (x1 : (List Int) × Int × Int) (rec2 : ((List Int) × Int × Int) → Option ((List Int) × Int × Int)) : Option ((List Int) × Int × Int) :=
 (bif decide (x1.2.2 < ((List.length x1.1 : Nat) : Int)) then
 ((nth? x1.1 x1.2.2).bind fun e3 =>
 some (x1.1, x1.2.1, x1.2.2, decide (e3 < x1.2.1)))
 else
 (some (x1.1, x1.2.1, x1.2.2, false))).bind fun x4 =>
 bif x4.2.2.2 then
 (rec2 (x4.1, x4.2.1, IntKind.wrap .i64 (x4.2.2.1 + (1 : Int))))
 else
 (some (x4.1, x4.2.1, x4.2.2.1))
def ref03_Insert.P (n : Nat) (x : (List Int) × Int) : Option (List Int) :=
 (loopN (ref03_Insert.L1) n (x.1, x.2, (0 : Int))).bind fun x5 =>
 (bif decide (x5.2.2 < ((List.length x5.1 : Nat) : Int)) then
 ((nth? x5.1 x5.2.2).bind fun e6 =>
 some (x5.1, x5.2.1, x5.2.2, decide (e6 = x5.2.1)))
 else
 (some (x5.1, x5.2.1, x5.2.2, false))).bind fun x7 =>
 bif x7.2.2.2 then
 (some x7.1)
 else
 (bif decide (0 ≤ 0) && decide (0 ≤ x7.2.2.1) && decide (x7.2.2.1 ≤ ((List.length x7.1 : Nat) : Int)) then
 bif decide (List.length ([] : List Int) + List.length (List.drop (Int.toNat 0) (List.take (Int.toNat x7.2.2.1) x7.1)) ≤ maxRows) then
 bif decide (List.length (List.append ([] : List Int) (List.drop (Int.toNat 0) (List.take (Int.toNat x7.2.2.1) x7.1))) + List.length ([x7.2.1] : List Int) ≤ maxRows) then
 bif decide (0 ≤ x7.2.2.1) && decide (x7.2.2.1 ≤ ((List.length x7.1 : Nat) : Int)) && decide (((List.length x7.1 : Nat) : Int) ≤ ((List.length x7.1 : Nat) : Int)) then
 bif decide (List.length (List.append (List.append ([] : List Int) (List.drop (Int.toNat 0) (List.take (Int.toNat x7.2.2.1) x7.1))) ([x7.2.1] : List Int)) + List.length (List.drop (Int.toNat x7.2.2.1) (List.take (Int.toNat ((List.length x7.1 : Nat) : Int)) x7.1)) ≤ maxRows) then
 some (List.append (List.append (List.append ([] : List Int) (List.drop (Int.toNat 0) (List.take (Int.toNat x7.2.2.1) x7.1))) ([x7.2.1] : List Int)) (List.drop (Int.toNat x7.2.2.1) (List.take (Int.toNat ((List.length x7.1 : Nat) : Int)) x7.1)))
 else none
 else none
 else none
 else none
 else none)
/-! boskage/boskageref03.Step -/
def ref03_Step.L1 (f_ref03_In : ((List Int) × Int) → Option Bool) (x4 : Int × (List (List Int)) × (List Int) × Int × (List Int) × Int × Bool × Int × (List (Int × (List Int) × Int)) × Int × Int) (rec5 : (Int × (List (List Int)) × (List Int) × Int × (List Int) × Int × Bool × Int × (List (Int × (List Int) × Int)) × Int × Int) → Option (Int × (List (List Int)) × (List Int) × Int × (List Int) × Int × Bool × (List (Int × (List Int) × Int)) × Int × Int)) : Option (Int × (List (List Int)) × (List Int) × Int × (List Int) × Int × Bool × (List (Int × (List Int) × Int)) × Int × Int) :=
 (bif x4.2.2.2.2.2.2.1 then
 (some (x4.1, x4.2.1, x4.2.2.1, x4.2.2.2.1, x4.2.2.2.2.1, x4.2.2.2.2.2.1, x4.2.2.2.2.2.2.1, x4.2.2.2.2.2.2.2.1, x4.2.2.2.2.2.2.2.2.1, x4.2.2.2.2.2.2.2.2.2.1, x4.2.2.2.2.2.2.2.2.2.2, decide (x4.2.2.2.2.2.2.2.1 < ((List.length x4.2.1 : Nat) : Int))))
 else
 (some (x4.1, x4.2.1, x4.2.2.1, x4.2.2.2.1, x4.2.2.2.2.1, x4.2.2.2.2.2.1, x4.2.2.2.2.2.2.1, x4.2.2.2.2.2.2.2.1, x4.2.2.2.2.2.2.2.2.1, x4.2.2.2.2.2.2.2.2.2.1, x4.2.2.2.2.2.2.2.2.2.2, false))).bind fun x6 =>
 bif x6.2.2.2.2.2.2.2.2.2.2.2 then
 ((nth? x6.2.1 x6.2.2.2.2.2.2.2.1).bind fun e7 =>
 (nth? x6.2.2.2.2.1 x6.2.2.2.2.2.2.2.1).bind fun e8 =>
 (f_ref03_In (e7, e8)).bind fun r9 =>
 rec5 (x6.1, x6.2.1, x6.2.2.1, x6.2.2.2.1, x6.2.2.2.2.1, x6.2.2.2.2.2.1, r9, IntKind.wrap .i64 (x6.2.2.2.2.2.2.2.1 + (1 : Int)), x6.2.2.2.2.2.2.2.2.1, x6.2.2.2.2.2.2.2.2.2.1, x6.2.2.2.2.2.2.2.2.2.2.1))
 else
 (some (x6.1, x6.2.1, x6.2.2.1, x6.2.2.2.1, x6.2.2.2.2.1, x6.2.2.2.2.2.1, x6.2.2.2.2.2.2.1, x6.2.2.2.2.2.2.2.2.1, x6.2.2.2.2.2.2.2.2.2.1, x6.2.2.2.2.2.2.2.2.2.2.1))
def ref03_Step.L2 (f_ref03_In : ((List Int) × Int) → Option Bool) (n : Nat) (f_ref03_Insert : ((List Int) × Int) → Option (List Int)) (x1 : Int × (List (List Int)) × (List Int) × (List (Int × (List Int) × Int)) × Int × Int) (rec2 : (Int × (List (List Int)) × (List Int) × (List (Int × (List Int) × Int)) × Int × Int) → Option (List Int)) : Option (List Int) :=
 bif decide (x1.2.2.2.2.2 < x1.2.2.2.2.1) then
 ((nth? x1.2.2.2.1 x1.2.2.2.2.2).bind fun e3 =>
 (loopN (ref03_Step.L1 f_ref03_In) n (x1.1, x1.2.1, x1.2.2.1, e3.1, e3.2.1, e3.2.2, decide (e3.1 = x1.1), (0 : Int), x1.2.2.2.1, x1.2.2.2.2.1, x1.2.2.2.2.2)).bind fun x10 =>
 (bif x10.2.2.2.2.2.2.1 then
 ((f_ref03_Insert (x10.2.2.1, x10.2.2.2.2.2.1)).bind fun r11 =>
 some (x10.1, x10.2.1, r11, x10.2.2.2.2.2.2.2.1, x10.2.2.2.2.2.2.2.2.1, x10.2.2.2.2.2.2.2.2.2))
 else
 (some (x10.1, x10.2.1, x10.2.2.1, x10.2.2.2.2.2.2.2.1, x10.2.2.2.2.2.2.2.2.1, x10.2.2.2.2.2.2.2.2.2))).bind fun x12 =>
 rec2 (x12.1, x12.2.1, x12.2.2.1, x12.2.2.2.1, x12.2.2.2.2.1, IntKind.wrap .i64 (x12.2.2.2.2.2 + (1 : Int))))
 else
 (some x1.2.2.1)
def ref03_Step.P (f_ref03_In : ((List Int) × Int) → Option Bool) (f_ref03_Insert : ((List Int) × Int) → Option (List Int)) (n : Nat) (x : Int × (List Int) × (List (Int × (List Int) × Int)) × Int × (List (List Int))) : Option (List Int) :=
 (loopN (ref03_Step.L2 f_ref03_In n f_ref03_Insert) n (x.2.2.2.1, x.2.2.2.2, ([] : List Int), x.2.2.1, ((List.length x.2.2.1 : Nat) : Int), (0 : Int))).bind fun x13 =>
 some x13
/-! boskage/boskageref03.Of -/
def ref03_Of.L1 (f_ref03_Of : (Int × (List Int) × (List (Int × (List Int) × Int)) × Int × (List (RT Int))) → Option (List Int)) (x1 : Int × (List Int) × (List (Int × (List Int) × Int)) × Int × (List (RT Int)) × (List (List Int)) × (List (RT Int)) × Int × Int) (rec2 : (Int × (List Int) × (List (Int × (List Int) × Int)) × Int × (List (RT Int)) × (List (List Int)) × (List (RT Int)) × Int × Int) → Option (Int × (List Int) × (List (Int × (List Int) × Int)) × Int × (List (RT Int)) × (List (List Int)))) : Option (Int × (List Int) × (List (Int × (List Int) × Int)) × Int × (List (RT Int)) × (List (List Int))) :=
 bif decide (x1.2.2.2.2.2.2.2.2 < x1.2.2.2.2.2.2.2.1) then
 ((nth? x1.2.2.2.2.2.2.1 x1.2.2.2.2.2.2.2.2).bind fun e3 =>
 (f_ref03_Of (x1.1, x1.2.1, x1.2.2.1, RT.a e3, RT.kids e3)).bind fun r4 =>
 bif decide (List.length x1.2.2.2.2.2.1 + List.length ([r4] : List (List Int)) ≤ maxRows) then
 rec2 (x1.1, x1.2.1, x1.2.2.1, x1.2.2.2.1, x1.2.2.2.2.1, List.append x1.2.2.2.2.2.1 ([r4] : List (List Int)), x1.2.2.2.2.2.2.1, x1.2.2.2.2.2.2.2.1, IntKind.wrap .i64 (x1.2.2.2.2.2.2.2.2 + (1 : Int)))
 else none)
 else
 (some (x1.1, x1.2.1, x1.2.2.1, x1.2.2.2.1, x1.2.2.2.2.1, x1.2.2.2.2.2.1))
def ref03_Of.P (f_ref03_Of : (Int × (List Int) × (List (Int × (List Int) × Int)) × Int × (List (RT Int))) → Option (List Int)) (f_ref03_Step : (Int × (List Int) × (List (Int × (List Int) × Int)) × Int × (List (List Int))) → Option (List Int)) (n : Nat) (x : Int × (List Int) × (List (Int × (List Int) × Int)) × Int × (List (RT Int))) : Option (List Int) :=
 (loopN (ref03_Of.L1 f_ref03_Of) n (x.1, x.2.1, x.2.2.1, x.2.2.2.1, x.2.2.2.2, ([] : List (List Int)), x.2.2.2.2, ((List.length x.2.2.2.2 : Nat) : Int), (0 : Int))).bind fun x5 =>
 (f_ref03_Step (x5.1, x5.2.1, x5.2.2.1, x5.2.2.2.1, x5.2.2.2.2.2)).bind fun r6 =>
 some r6
/-! boskage/boskageref03.Meet -/
def ref03_Meet.L1 (f_ref03_In : ((List Int) × Int) → Option Bool) (x1 : (List Int) × (List Int) × Int × Int) (rec2 : ((List Int) × (List Int) × Int × Int) → Option (Sum Unit Bool)) : Option (Sum Unit Bool) :=
 bif decide (x1.2.2.2 < x1.2.2.1) then
 ((nth? x1.2.1 x1.2.2.2).bind fun e3 =>
 (f_ref03_In (x1.1, e3)).bind fun r4 =>
 bif r4 then
 ((some true).bind fun r => some (Sum.inr r))
 else
 (rec2 (x1.1, x1.2.1, x1.2.2.1, IntKind.wrap .i64 (x1.2.2.2 + (1 : Int)))))
 else
 (some (Sum.inl ()))
def ref03_Meet.P (f_ref03_In : ((List Int) × Int) → Option Bool) (n : Nat) (x : (List Int) × (List Int)) : Option Bool :=
 (loopN (ref03_Meet.L1 f_ref03_In) n (x.2, x.1, ((List.length x.1 : Nat) : Int), (0 : Int))).bind fun q => match q with
 | Sum.inl x5 => (some false)
 | Sum.inr r => some r
/-! boskage/boskageref03.Has -/
def ref03_Has.P (f_ref03_Meet : ((List Int) × (List Int)) → Option Bool) (f_ref03_Of : (Int × (List Int) × (List (Int × (List Int) × Int)) × Int × (List (RT Int))) → Option (List Int)) (n : Nat) (x : Int × (List Int) × (List (Int × (List Int) × Int)) × Int × (List (RT Int))) : Option Bool :=
 (f_ref03_Of (x.1, x.2.1, x.2.2.1, x.2.2.2.1, x.2.2.2.2)).bind fun r1 =>
 (f_ref03_Meet (r1, x.2.1)).bind fun r2 =>
 some r2
/-! boskage/boskagelaw05.awake -/
def law05_awake.P (f_boolean_Under : ((List Int) × Int × (List Int) × (List (Int × (List Int) × Int)) × Int) → Option (Int × (List Int) × (List (Int × (List Int) × Int)) × Int)) (f_law05_even : Unit → Option (Int × (List Int) × (List (Int × (List Int) × Int)))) (f_law05_f : (Int × (List (RT Int)) × Int × (List (RT Int))) → Option (Int × (List (RT Int)))) (f_law05_leaf : Unit → Option (Int × (List (RT Int)))) (f_ref03_Has : (Int × (List Int) × (List (Int × (List Int) × Int)) × Int × (List (RT Int))) → Option Bool) (f_ref03_Valid : ((List Int) × Int × (List Int) × (List (Int × (List Int) × Int))) → Option Bool) (n : Nat) (x : Unit) : Option Bool :=
 (f_law05_even ()).bind fun r1 =>
 (f_boolean_Under (([0, 2] : List Int), r1.1, r1.2.1, r1.2.2, (1 : Int))).bind fun r2 =>
 (f_law05_leaf ()).bind fun r3 =>
 (f_law05_leaf ()).bind fun r4 =>
 (f_law05_leaf ()).bind fun r5 =>
 (f_law05_f (r4.1, r4.2, r5.1, r5.2)).bind fun r6 =>
 (f_law05_f (r3.1, r3.2, r6.1, r6.2)).bind fun r7 =>
 (bif decide (r2.2.2.2 = (0 : Int)) then
 ((f_ref03_Valid (([0, 2] : List Int), r2.1, r2.2.1, r2.2.2.1)).bind fun r8 =>
 bif r8 then
 ((f_ref03_Has (r2.1, r2.2.1, r2.2.2.1, r7.1, r7.2)).bind fun r9 =>
 bif r9 then
 ((f_law05_leaf ()).bind fun r10 =>
 (f_ref03_Has (r2.1, r2.2.1, r2.2.2.1, r10.1, r10.2)).bind fun r11 =>
 some (!r11))
 else
 (some false))
 else
 (some false))
 else
 (some false)).bind fun x12 =>
 some x12
/-! boskage/boskagelaw05.valid -/
def law05_valid.L1 (f_ref03_Valid : ((List Int) × Int × (List Int) × (List (Int × (List Int) × Int))) → Option Bool) (x1 : (List Int) × (List (Int × (List Int) × (List (Int × (List Int) × Int)))) × Int × Int) (rec2 : ((List Int) × (List (Int × (List Int) × (List (Int × (List Int) × Int)))) × Int × Int) → Option (Sum Unit Bool)) : Option (Sum Unit Bool) :=
 bif decide (x1.2.2.2 < x1.2.2.1) then
 ((nth? x1.2.1 x1.2.2.2).bind fun e3 =>
 (f_ref03_Valid (x1.1, e3.1, e3.2.1, e3.2.2)).bind fun r4 =>
 bif !r4 then
 ((some false).bind fun r => some (Sum.inr r))
 else
 (rec2 (x1.1, x1.2.1, x1.2.2.1, IntKind.wrap .i64 (x1.2.2.2 + (1 : Int)))))
 else
 (some (Sum.inl ()))
def law05_valid.P (f_ref03_Valid : ((List Int) × Int × (List Int) × (List (Int × (List Int) × Int))) → Option Bool) (n : Nat) (x : (List Int) × (List (Int × (List Int) × (List (Int × (List Int) × Int))))) : Option Bool :=
 (loopN (law05_valid.L1 f_ref03_Valid) n (x.1, x.2, ((List.length x.2 : Nat) : Int), (0 : Int))).bind fun q => match q with
 | Sum.inl x5 => (some true)
 | Sum.inr r => some r
/-! boskage/boskageref01.shaped -/
def ref01_shaped.L1 (f_ref01_shaped : ((List Int) × Int × (List (RT Int))) → Option Bool) (x3 : (List Int) × (List (RT Int)) × Int × Int) (rec4 : ((List Int) × (List (RT Int)) × Int × Int) → Option (Sum Unit Bool)) : Option (Sum Unit Bool) :=
 bif decide (x3.2.2.2 < x3.2.2.1) then
 ((nth? x3.2.1 x3.2.2.2).bind fun e5 =>
 (f_ref01_shaped (x3.1, RT.a e5, RT.kids e5)).bind fun r6 =>
 bif !r6 then
 ((some false).bind fun r => some (Sum.inr r))
 else
 (rec4 (x3.1, x3.2.1, x3.2.2.1, IntKind.wrap .i64 (x3.2.2.2 + (1 : Int)))))
 else
 (some (Sum.inl ()))
def ref01_shaped.P (f_ref01_shaped : ((List Int) × Int × (List (RT Int))) → Option Bool) (n : Nat) (x : (List Int) × Int × (List (RT Int))) : Option Bool :=
 (bif decide (x.2.1 < (0 : Int)) then
 (some (x.1, x.2.1, x.2.2, true))
 else
 (bif decide (((List.length x.1 : Nat) : Int) ≤ x.2.1) then
 (some (x.1, x.2.1, x.2.2, true))
 else
 ((nth? x.1 x.2.1).bind fun e1 =>
 some (x.1, x.2.1, x.2.2, !decide (((List.length x.2.2 : Nat) : Int) = e1))))).bind fun x2 =>
 bif x2.2.2.2 then
 (some false)
 else
 ((loopN (ref01_shaped.L1 f_ref01_shaped) n (x2.1, x2.2.2.1, ((List.length x2.2.2.1 : Nat) : Int), (0 : Int))).bind fun q => match q with
 | Sum.inl x7 => (some true)
 | Sum.inr r => some r)
/-! boskage/boskageref01.Valid -/
def ref01_Valid.P (f_ref01_Few : (Int × (List (RT Int)) × Int) → Option Bool) (f_ref01_ValidAlphabet : List Int → Option Bool) (f_ref01_shaped : ((List Int) × Int × (List (RT Int))) → Option Bool) (n : Nat) (x : (List Int) × Int × (List (RT Int))) : Option Bool :=
 ((f_ref01_ValidAlphabet x.1).bind fun r1 =>
 bif r1 then
 ((f_ref01_Few (x.2.1, x.2.2, (300 : Int))).bind fun r2 =>
 bif r2 then
 ((f_ref01_shaped (x.1, x.2.1, x.2.2)).bind fun r3 =>
 some r3)
 else
 (some false))
 else
 (some false)).bind fun x4 =>
 some x4
/-! boskage/boskageref01.Places -/
def ref01_Places.L1 (x5 : (List (List Int)) × Int × (List (RT Int)) × Int × Int × (List (List Int)) × Int × Int) (rec6 : ((List (List Int)) × Int × (List (RT Int)) × Int × Int × (List (List Int)) × Int × Int) → Option ((List (List Int)) × (List (RT Int)) × Int × Int)) : Option ((List (List Int)) × (List (RT Int)) × Int × Int) :=
 bif decide (x5.2.2.2.2.2.2.2 < x5.2.2.2.2.2.2.1) then
 (bif decide (0 ≤ x5.2.2.2.2.2.2.2) && decide (x5.2.2.2.2.2.2.2 < ((List.length x5.2.2.2.2.2.1 : Nat) : Int)) then
 (at? x5.2.2.2.2.2.1 (Int.toNat x5.2.2.2.2.2.2.2)).bind fun e7 =>
 bif decide (List.length ([x5.2.1] : List Int) + List.length e7 ≤ maxRows) then
 bif decide (List.length x5.1 + List.length ([List.append ([x5.2.1] : List Int) e7] : List (List Int)) ≤ maxRows) then
 rec6 (List.append x5.1 ([List.append ([x5.2.1] : List Int) e7] : List (List Int)), x5.2.1, x5.2.2.1, x5.2.2.2.1, x5.2.2.2.2.1, x5.2.2.2.2.2.1, x5.2.2.2.2.2.2.1, IntKind.wrap .i64 (x5.2.2.2.2.2.2.2 + (1 : Int)))
 else none
 else none
 else none)
 else
 (some (x5.1, x5.2.2.1, x5.2.2.2.1, x5.2.2.2.2.1))
def ref01_Places.L2 (f_ref01_Places : (Int × (List (RT Int))) → Option (List (List Int))) (n : Nat) (x1 : (List (List Int)) × (List (RT Int)) × Int × Int) (rec2 : ((List (List Int)) × (List (RT Int)) × Int × Int) → Option (List (List Int))) : Option (List (List Int)) :=
 bif decide (x1.2.2.2 < x1.2.2.1) then
 ((nth? x1.2.1 x1.2.2.2).bind fun e3 =>
 (f_ref01_Places (RT.a e3, RT.kids e3)).bind fun r4 =>
 (loopN (ref01_Places.L1) n (x1.1, x1.2.2.2, x1.2.1, x1.2.2.1, x1.2.2.2, r4, ((List.length r4 : Nat) : Int), (0 : Int))).bind fun x8 =>
 rec2 (x8.1, x8.2.1, x8.2.2.1, IntKind.wrap .i64 (x8.2.2.2 + (1 : Int))))
 else
 (some x1.1)
def ref01_Places.P (f_ref01_Places : (Int × (List (RT Int))) → Option (List (List Int))) (n : Nat) (x : Int × (List (RT Int))) : Option (List (List Int)) :=
 (loopN (ref01_Places.L2 f_ref01_Places n) n (([([] : List Int)] : List (List Int)), x.2, ((List.length x.2 : Nat) : Int), (0 : Int))).bind fun x9 =>
 some x9
/-! boskage/boskageref01.Find -/
def ref01_Find.L1 (x1 : Int × (List (RT Int)) × Int × (List (RT Int)) × (List Int) × Int × Int) (rec2 : (Int × (List (RT Int)) × Int × (List (RT Int)) × (List Int) × Int × Int) → Option (Sum (Int × (List (RT Int)) × Int × (List (RT Int))) (Int × (List (RT Int)) × Bool))) : Option (Sum (Int × (List (RT Int)) × Int × (List (RT Int))) (Int × (List (RT Int)) × Bool)) :=
 bif decide (x1.2.2.2.2.2.2 < x1.2.2.2.2.2.1) then
 ((nth? x1.2.2.2.2.1 x1.2.2.2.2.2.2).bind fun e3 =>
 (bif decide (e3 < (0 : Int)) then
 (some (x1.1, x1.2.1, x1.2.2.1, x1.2.2.2.1, e3, x1.2.2.2.2.1, x1.2.2.2.2.2.1, x1.2.2.2.2.2.2, true))
 else
 (some (x1.1, x1.2.1, x1.2.2.1, x1.2.2.2.1, e3, x1.2.2.2.2.1, x1.2.2.2.2.2.1, x1.2.2.2.2.2.2, decide (((List.length x1.2.1 : Nat) : Int) ≤ e3)))).bind fun x4 =>
 bif x4.2.2.2.2.2.2.2.2 then
 ((some ((0 : Int), ([] : List (RT Int)), false)).bind fun r => some (Sum.inr r))
 else
 ((nth? x4.2.1 x4.2.2.2.2.1).bind fun e5 =>
 rec2 (RT.a e5, RT.kids e5, x4.2.2.1, x4.2.2.2.1, x4.2.2.2.2.2.1, x4.2.2.2.2.2.2.1, IntKind.wrap .i64 (x4.2.2.2.2.2.2.2.1 + (1 : Int)))))
 else
 (some (Sum.inl (x1.1, x1.2.1, x1.2.2.1, x1.2.2.2.1)))
def ref01_Find.P (n : Nat) (x : Int × (List (RT Int)) × (List Int)) : Option (Int × (List (RT Int)) × Bool) :=
 (loopN (ref01_Find.L1) n (x.1, x.2.1, (0 : Int), ([] : List (RT Int)), x.2.2, ((List.length x.2.2 : Nat) : Int), (0 : Int))).bind fun q => match q with
 | Sum.inl x6 => (some (x6.1, x6.2.1, true))
 | Sum.inr r => some r
/-! boskage/boskageref05.Beneath -/
def ref05_Beneath.L1 (f_ref01_Find : (Int × (List (RT Int)) × (List Int)) → Option (Int × (List (RT Int)) × Bool)) (f_ref03_Has : (Int × (List Int) × (List (Int × (List Int) × Int)) × Int × (List (RT Int))) → Option Bool) (x2 : Int × Int × (List Int) × (List (Int × (List Int) × Int)) × Int × (List (RT Int)) × (List (List Int)) × Int × Int) (rec3 : (Int × Int × (List Int) × (List (Int × (List Int) × Int)) × Int × (List (RT Int)) × (List (List Int)) × Int × Int) → Option (Sum Unit Bool)) : Option (Sum Unit Bool) :=
 bif decide (x2.2.2.2.2.2.2.2.2 < x2.2.2.2.2.2.2.2.1) then
 (bif decide (0 ≤ x2.2.2.2.2.2.2.2.2) && decide (x2.2.2.2.2.2.2.2.2 < ((List.length x2.2.2.2.2.2.2.1 : Nat) : Int)) then
 (at? x2.2.2.2.2.2.2.1 (Int.toNat x2.2.2.2.2.2.2.2.2)).bind fun e4 =>
 (f_ref01_Find (x2.2.2.2.2.1, x2.2.2.2.2.2.1, e4)).bind fun r5 =>
 (bif decide (r5.1 = x2.1) then
 ((f_ref03_Has (x2.2.1, x2.2.2.1, x2.2.2.2.1, r5.1, r5.2.1)).bind fun r6 =>
 some (x2.1, x2.2.1, x2.2.2.1, x2.2.2.2.1, x2.2.2.2.2.1, x2.2.2.2.2.2.1, x2.2.2.2.2.2.2.1, x2.2.2.2.2.2.2.2.1, x2.2.2.2.2.2.2.2.2, r6))
 else
 (some (x2.1, x2.2.1, x2.2.2.1, x2.2.2.2.1, x2.2.2.2.2.1, x2.2.2.2.2.2.1, x2.2.2.2.2.2.2.1, x2.2.2.2.2.2.2.2.1, x2.2.2.2.2.2.2.2.2, false))).bind fun x7 =>
 bif x7.2.2.2.2.2.2.2.2.2 then
 ((some true).bind fun r => some (Sum.inr r))
 else
 (rec3 (x7.1, x7.2.1, x7.2.2.1, x7.2.2.2.1, x7.2.2.2.2.1, x7.2.2.2.2.2.1, x7.2.2.2.2.2.2.1, x7.2.2.2.2.2.2.2.1, IntKind.wrap .i64 (x7.2.2.2.2.2.2.2.2.1 + (1 : Int))))
 else none)
 else
 (some (Sum.inl ()))
def ref05_Beneath.P (f_ref01_Find : (Int × (List (RT Int)) × (List Int)) → Option (Int × (List (RT Int)) × Bool)) (f_ref01_Places : (Int × (List (RT Int))) → Option (List (List Int))) (f_ref03_Has : (Int × (List Int) × (List (Int × (List Int) × Int)) × Int × (List (RT Int))) → Option Bool) (n : Nat) (x : Int × (List Int) × (List (Int × (List Int) × Int)) × Int × Int × (List (RT Int))) : Option Bool :=
 (f_ref01_Places (x.2.2.2.2.1, x.2.2.2.2.2)).bind fun r1 =>
 (loopN (ref05_Beneath.L1 f_ref01_Find f_ref03_Has) n (x.2.2.2.1, x.1, x.2.1, x.2.2.1, x.2.2.2.2.1, x.2.2.2.2.2, r1, ((List.length r1 : Nat) : Int), (0 : Int))).bind fun q => match q with
 | Sum.inl x8 => (some false)
 | Sum.inr r => some r
/-! boskage/boskagelaw05.right -/
def law05_right.P (f_ref03_Has : (Int × (List Int) × (List (Int × (List Int) × Int)) × Int × (List (RT Int))) → Option Bool) (n : Nat) (x : (List Int) × Int × (List Int) × (List (Int × (List Int) × Int)) × Int × (List (RT Int)) × Bool) : Option Bool :=
 (f_ref03_Has (x.2.1, x.2.2.1, x.2.2.2.1, x.2.2.2.2.1, x.2.2.2.2.2.1)).bind fun r1 =>
 some (r1 == x.2.2.2.2.2.2)
/-! boskage/boskagelaw05.BooleanUnder -/
def law05_BooleanUnder.P (f_boolean_Under : ((List Int) × Int × (List Int) × (List (Int × (List Int) × Int)) × Int) → Option (Int × (List Int) × (List (Int × (List Int) × Int)) × Int)) (f_law05_awake : Unit → Option Bool) (f_law05_few : ((List Int) × Int × (List (RT Int)) × (List (Int × (List Int) × (List (Int × (List Int) × Int))))) → Option Bool) (f_law05_right : ((List Int) × Int × (List Int) × (List (Int × (List Int) × Int)) × Int × (List (RT Int)) × Bool) → Option Bool) (f_law05_valid : ((List Int) × (List (Int × (List Int) × (List (Int × (List Int) × Int))))) → Option Bool) (f_ref01_Valid : ((List Int) × Int × (List (RT Int))) → Option Bool) (f_ref05_Beneath : (Int × (List Int) × (List (Int × (List Int) × Int)) × Int × Int × (List (RT Int))) → Option Bool) (n : Nat) (x : (List Int) × Int × (List Int) × (List (Int × (List Int) × Int)) × Int × Int × (List (RT Int))) : Option Bool :=
 (f_law05_few (x.1, x.2.2.2.2.2.1, x.2.2.2.2.2.2, ([(x.2.1, x.2.2.1, x.2.2.2.1)] : List (Int × (List Int) × (List (Int × (List Int) × Int)))))).bind fun r1 =>
 bif !r1 then
 ((f_law05_awake ()).bind fun r2 =>
 some r2)
 else
 ((f_boolean_Under (x.1, x.2.1, x.2.2.1, x.2.2.2.1, x.2.2.2.2.1)).bind fun r3 =>
 (f_law05_valid (x.1, ([(x.2.1, x.2.2.1, x.2.2.2.1)] : List (Int × (List Int) × (List (Int × (List Int) × Int)))))).bind fun r4 =>
 bif !r4 then
 ((bif decide (r3.2.2.2 = (1 : Int)) then
 ((f_law05_awake ()).bind fun r5 =>
 some r5)
 else
 (some false)).bind fun x6 =>
 some x6)
 else
 ((bif decide (x.2.2.2.2.1 < (0 : Int)) then
 (some (x.2.2.2.2.1, x.1, x.2.1, x.2.2.1, x.2.2.2.1, x.2.2.2.2.2.1, x.2.2.2.2.2.2, r3.1, r3.2.1, r3.2.2.1, r3.2.2.2, true))
 else
 (some (x.2.2.2.2.1, x.1, x.2.1, x.2.2.1, x.2.2.2.1, x.2.2.2.2.2.1, x.2.2.2.2.2.2, r3.1, r3.2.1, r3.2.2.1, r3.2.2.2, decide (((List.length x.1 : Nat) : Int) ≤ x.2.2.2.2.1)))).bind fun x7 =>
 bif x7.2.2.2.2.2.2.2.2.2.2.2 then
 ((bif decide (x7.2.2.2.2.2.2.2.2.2.2.1 = (6 : Int)) then
 ((f_law05_awake ()).bind fun r8 =>
 some r8)
 else
 (some false)).bind fun x9 =>
 some x9)
 else
 ((bif !decide (x7.2.2.2.2.2.2.2.2.2.2.1 = (0 : Int)) then
 (some (x7.1, x7.2.1, x7.2.2.1, x7.2.2.2.1, x7.2.2.2.2.1, x7.2.2.2.2.2.1, x7.2.2.2.2.2.2.1, x7.2.2.2.2.2.2.2.1, x7.2.2.2.2.2.2.2.2.1, x7.2.2.2.2.2.2.2.2.2.1, true))
 else
 ((f_law05_valid (x7.2.1, ([(x7.2.2.2.2.2.2.2.1, x7.2.2.2.2.2.2.2.2.1, x7.2.2.2.2.2.2.2.2.2.1)] : List (Int × (List Int) × (List (Int × (List Int) × Int)))))).bind fun r10 =>
 some (x7.1, x7.2.1, x7.2.2.1, x7.2.2.2.1, x7.2.2.2.2.1, x7.2.2.2.2.2.1, x7.2.2.2.2.2.2.1, x7.2.2.2.2.2.2.2.1, x7.2.2.2.2.2.2.2.2.1, x7.2.2.2.2.2.2.2.2.2.1, !r10))).bind fun x11 =>
 bif x11.2.2.2.2.2.2.2.2.2.2 then
 (some false)
 else
 (((f_ref01_Valid (x11.2.1, x11.2.2.2.2.2.1, x11.2.2.2.2.2.2.1)).bind fun r12 =>
 bif !r12 then
 ((f_law05_awake ()).bind fun r13 =>
 some r13)
 else
 ((f_ref05_Beneath (x11.2.2.1, x11.2.2.2.1, x11.2.2.2.2.1, x11.1, x11.2.2.2.2.2.1, x11.2.2.2.2.2.2.1)).bind fun r14 =>
 (f_law05_right (x11.2.1, x11.2.2.2.2.2.2.2.1, x11.2.2.2.2.2.2.2.2.1, x11.2.2.2.2.2.2.2.2.2.1, x11.2.2.2.2.2.1, x11.2.2.2.2.2.2.1, r14)).bind fun r15 =>
 bif r15 then
 ((f_law05_awake ()).bind fun r16 =>
 some r16)
 else
 (some false))).bind fun x17 =>
 some x17))))
/-! boskage/boskagelaw05.many -/
def law05_many.L1 (x1 : Int × (List Int) × (List (Int × (List Int) × Int)) × Int × (List Int) × (List (Int × (List Int) × Int)) × Int × Int) (rec2 : (Int × (List Int) × (List (Int × (List Int) × Int)) × Int × (List Int) × (List (Int × (List Int) × Int)) × Int × Int) → Option (Int × (List Int) × (List (Int × (List Int) × Int)) × Int × (List Int) × (List (Int × (List Int) × Int)))) : Option (Int × (List Int) × (List (Int × (List Int) × Int)) × Int × (List Int) × (List (Int × (List Int) × Int))) :=
 bif decide (x1.2.2.2.2.2.2.2 < x1.2.2.2.2.2.2.1) then
 (bif decide (List.length x1.2.2.2.2.2.1 + List.length ([((0 : Int), ([] : List Int), (0 : Int))] : List (Int × (List Int) × Int)) ≤ maxRows) then
 rec2 (x1.1, x1.2.1, x1.2.2.1, x1.2.2.2.1, x1.2.2.2.2.1, List.append x1.2.2.2.2.2.1 ([((0 : Int), ([] : List Int), (0 : Int))] : List (Int × (List Int) × Int)), x1.2.2.2.2.2.2.1, IntKind.wrap .i64 (x1.2.2.2.2.2.2.2 + (1 : Int)))
 else none)
 else
 (some (x1.1, x1.2.1, x1.2.2.1, x1.2.2.2.1, x1.2.2.2.2.1, x1.2.2.2.2.2.1))
def law05_many.P (n : Nat) (x : Int × Int) : Option (Int × (List Int) × (List (Int × (List Int) × Int))) :=
 (loopN (law05_many.L1) n ((0 : Int), ([] : List Int), ([] : List (Int × (List Int) × Int)), x.1, ([] : List Int), ([] : List (Int × (List Int) × Int)), x.2, (0 : Int))).bind fun x3 =>
 some (x3.2.2.2.1, x3.2.2.2.2.1, x3.2.2.2.2.2)
/-! boskage/boolean.Union -/
def boolean_Union.L1 (x7 : Int × (List Int) × (List (Int × (List Int) × Int)) × Int × (List Int) × (List (Int × (List Int) × Int)) × Int × (List Int) × (List (Int × (List Int) × Int)) × Int × (List Int) × (List (Int × (List Int) × Int)) × Int × Int) (rec8 : (Int × (List Int) × (List (Int × (List Int) × Int)) × Int × (List Int) × (List (Int × (List Int) × Int)) × Int × (List Int) × (List (Int × (List Int) × Int)) × Int × (List Int) × (List (Int × (List Int) × Int)) × Int × Int) → Option (Int × (List Int) × (List (Int × (List Int) × Int)) × Int × (List Int) × (List (Int × (List Int) × Int)) × Int × (List Int) × (List (Int × (List Int) × Int)) × Int × (List Int) × (List (Int × (List Int) × Int)))) : Option (Int × (List Int) × (List (Int × (List Int) × Int)) × Int × (List Int) × (List (Int × (List Int) × Int)) × Int × (List Int) × (List (Int × (List Int) × Int)) × Int × (List Int) × (List (Int × (List Int) × Int))) :=
 bif decide (x7.2.2.2.2.2.2.2.2.2.2.2.2.2 < x7.2.2.2.2.2.2.2.2.2.2.2.2.1) then
 (bif decide (0 ≤ x7.2.2.2.2.2.2.2.2.2.2.2.2.2) && decide (x7.2.2.2.2.2.2.2.2.2.2.2.2.2 < ((List.length x7.2.2.2.2.2.2.2.2.2.2.1 : Nat) : Int)) then
 (at? x7.2.2.2.2.2.2.2.2.2.2.1 (Int.toNat x7.2.2.2.2.2.2.2.2.2.2.2.2.2)).bind fun e9 =>
 bif decide (List.length x7.2.2.2.2.2.2.2.1 + List.length ([IntKind.wrap .i64 (e9 + x7.1)] : List Int) ≤ maxRows) then
 rec8 (x7.1, x7.2.1, x7.2.2.1, x7.2.2.2.1, x7.2.2.2.2.1, x7.2.2.2.2.2.1, x7.2.2.2.2.2.2.1, List.append x7.2.2.2.2.2.2.2.1 ([IntKind.wrap .i64 (e9 + x7.1)] : List Int), x7.2.2.2.2.2.2.2.2.1, x7.2.2.2.2.2.2.2.2.2.1, x7.2.2.2.2.2.2.2.2.2.2.1, x7.2.2.2.2.2.2.2.2.2.2.2.1, x7.2.2.2.2.2.2.2.2.2.2.2.2.1, IntKind.wrap .i64 (x7.2.2.2.2.2.2.2.2.2.2.2.2.2 + (1 : Int)))
 else none
 else none)
 else
 (some (x7.1, x7.2.1, x7.2.2.1, x7.2.2.2.1, x7.2.2.2.2.1, x7.2.2.2.2.2.1, x7.2.2.2.2.2.2.1, x7.2.2.2.2.2.2.2.1, x7.2.2.2.2.2.2.2.2.1, x7.2.2.2.2.2.2.2.2.2.1, x7.2.2.2.2.2.2.2.2.2.2.1, x7.2.2.2.2.2.2.2.2.2.2.2.1))
def boolean_Union.L2 (x14 : Int × (List Int) × (List (Int × (List Int) × Int)) × Int × (List Int) × (List (Int × (List Int) × Int)) × Int × (List Int) × (List (Int × (List Int) × Int)) × Int × (List Int) × (List (Int × (List Int) × Int)) × Int × (List Int) × Int × Int × Int × Int × Int) (rec15 : (Int × (List Int) × (List (Int × (List Int) × Int)) × Int × (List Int) × (List (Int × (List Int) × Int)) × Int × (List Int) × (List (Int × (List Int) × Int)) × Int × (List Int) × (List (Int × (List Int) × Int)) × Int × (List Int) × Int × Int × Int × Int × Int) → Option (Int × (List Int) × (List (Int × (List Int) × Int)) × Int × (List Int) × (List (Int × (List Int) × Int)) × Int × (List Int) × (List (Int × (List Int) × Int)) × Int × (List Int) × (List (Int × (List Int) × Int)) × Int × (List Int) × Int × Int × Int)) : Option (Int × (List Int) × (List (Int × (List Int) × Int)) × Int × (List Int) × (List (Int × (List Int) × Int)) × Int × (List Int) × (List (Int × (List Int) × Int)) × Int × (List Int) × (List (Int × (List Int) × Int)) × Int × (List Int) × Int × Int × Int) :=
 bif decide (x14.2.2.2.2.2.2.2.2.2.2.2.2.2.2.2.2.2.2 < x14.2.2.2.2.2.2.2.2.2.2.2.2.2.2.2.2.2.1) then
 ((nth? x14.2.2.2.2.2.2.2.2.2.2.2.2.2.1 x14.2.2.2.2.2.2.2.2.2.2.2.2.2.2.2.2.2.2).bind fun e16 =>
 (nth? x14.2.2.2.2.2.2.2.2.2.2.2.2.2.1 x14.2.2.2.2.2.2.2.2.2.2.2.2.2.2.2.2.2.2).bind fun e17 =>
 none)
 else
 (some (x14.1, x14.2.1, x14.2.2.1, x14.2.2.2.1, x14.2.2.2.2.1, x14.2.2.2.2.2.1, x14.2.2.2.2.2.2.1, x14.2.2.2.2.2.2.2.1, x14.2.2.2.2.2.2.2.2.1, x14.2.2.2.2.2.2.2.2.2.1, x14.2.2.2.2.2.2.2.2.2.2.1, x14.2.2.2.2.2.2.2.2.2.2.2.1, x14.2.2.2.2.2.2.2.2.2.2.2.2.1, x14.2.2.2.2.2.2.2.2.2.2.2.2.2.1, x14.2.2.2.2.2.2.2.2.2.2.2.2.2.2.1, x14.2.2.2.2.2.2.2.2.2.2.2.2.2.2.2.1, x14.2.2.2.2.2.2.2.2.2.2.2.2.2.2.2.2.1))
def boolean_Union.L3 (n : Nat) (x11 : Int × (List Int) × (List (Int × (List Int) × Int)) × Int × (List Int) × (List (Int × (List Int) × Int)) × Int × (List Int) × (List (Int × (List Int) × Int)) × Int × (List Int) × (List (Int × (List Int) × Int)) × Int × Int) (rec12 : (Int × (List Int) × (List (Int × (List Int) × Int)) × Int × (List Int) × (List (Int × (List Int) × Int)) × Int × (List Int) × (List (Int × (List Int) × Int)) × Int × (List Int) × (List (Int × (List Int) × Int)) × Int × Int) → Option (Int × (List Int) × (List (Int × (List Int) × Int)) × Int × (List Int) × (List (Int × (List Int) × Int)))) : Option (Int × (List Int) × (List (Int × (List Int) × Int)) × Int × (List Int) × (List (Int × (List Int) × Int))) :=
 bif decide (x11.2.2.2.2.2.2.2.2.2.2.2.2.2 < x11.2.2.2.2.2.2.2.2.2.2.2.2.1) then
 (bif decide (0 ≤ x11.2.2.2.2.2.2.2.2.2.2.2.2.2) && decide (x11.2.2.2.2.2.2.2.2.2.2.2.2.2 < ((List.length x11.2.2.2.2.2.2.2.2.2.2.2.1 : Nat) : Int)) then
 (at? x11.2.2.2.2.2.2.2.2.2.2.2.1 (Int.toNat x11.2.2.2.2.2.2.2.2.2.2.2.2.2)).bind fun e13 =>
 (loopN (boolean_Union.L2) n (x11.1, x11.2.1, x11.2.2.1, x11.2.2.2.1, x11.2.2.2.2.1, x11.2.2.2.2.2.1, x11.2.2.2.2.2.2.1, x11.2.2.2.2.2.2.2.1, x11.2.2.2.2.2.2.2.2.1, x11.2.2.2.2.2.2.2.2.2.1, x11.2.2.2.2.2.2.2.2.2.2.1, x11.2.2.2.2.2.2.2.2.2.2.2.1, e13.1, e13.2.1, e13.2.2, x11.2.2.2.2.2.2.2.2.2.2.2.2.1, x11.2.2.2.2.2.2.2.2.2.2.2.2.2, ((List.length e13.2.1 : Nat) : Int), (0 : Int))).bind fun x18 =>
 bif decide (List.length x18.2.2.2.2.2.2.2.2.1 + List.length ([(x18.2.2.2.2.2.2.2.2.2.2.2.2.1, x18.2.2.2.2.2.2.2.2.2.2.2.2.2.1, IntKind.wrap .i64 (x18.2.2.2.2.2.2.2.2.2.2.2.2.2.2.1 + x18.1))] : List (Int × (List Int) × Int)) ≤ maxRows) then
 rec12 (x18.1, x18.2.1, x18.2.2.1, x18.2.2.2.1, x18.2.2.2.2.1, x18.2.2.2.2.2.1, x18.2.2.2.2.2.2.1, x18.2.2.2.2.2.2.2.1, List.append x18.2.2.2.2.2.2.2.2.1 ([(x18.2.2.2.2.2.2.2.2.2.2.2.2.1, x18.2.2.2.2.2.2.2.2.2.2.2.2.2.1, IntKind.wrap .i64 (x18.2.2.2.2.2.2.2.2.2.2.2.2.2.2.1 + x18.1))] : List (Int × (List Int) × Int)), x18.2.2.2.2.2.2.2.2.2.1, x18.2.2.2.2.2.2.2.2.2.2.1, x18.2.2.2.2.2.2.2.2.2.2.2.1, x18.2.2.2.2.2.2.2.2.2.2.2.2.2.2.2.1, IntKind.wrap .i64 (x18.2.2.2.2.2.2.2.2.2.2.2.2.2.2.2.2 + (1 : Int)))
 else none
 else none)
 else
 (some (x11.2.2.2.1, x11.2.2.2.2.1, x11.2.2.2.2.2.1, x11.2.2.2.2.2.2.1, x11.2.2.2.2.2.2.2.1, x11.2.2.2.2.2.2.2.2.1))
def boolean_Union.P (f_auto_Copy : (Int × (List Int) × (List (Int × (List Int) × Int))) → Option (Int × (List Int) × (List (Int × (List Int) × Int)))) (f_auto_Valid : ((List Int) × Int × (List Int) × (List (Int × (List Int) × Int))) → Option Bool) (n : Nat) (x : (List Int) × Int × (List Int) × (List (Int × (List Int) × Int)) × Int × (List Int) × (List (Int × (List Int) × Int))) : Option (Int × (List Int) × (List (Int × (List Int) × Int)) × Int) :=
 ((f_auto_Valid (x.1, x.2.1, x.2.2.1, x.2.2.2.1)).bind fun r1 =>
 bif !r1 then
 (some (x.2.1, x.2.2.1, x.2.2.2.1, x.2.2.2.2.1, x.2.2.2.2.2.1, x.2.2.2.2.2.2, (0 : Int), ([] : List Int), ([] : List (Int × (List Int) × Int)), true))
 else
 ((f_auto_Valid (x.1, x.2.2.2.2.1, x.2.2.2.2.2.1, x.2.2.2.2.2.2)).bind fun r2 =>
 some (x.2.1, x.2.2.1, x.2.2.2.1, x.2.2.2.2.1, x.2.2.2.2.2.1, x.2.2.2.2.2.2, (0 : Int), ([] : List Int), ([] : List (Int × (List Int) × Int)), !r2))).bind fun x3 =>
 bif x3.2.2.2.2.2.2.2.2.2 then
 (some ((0 : Int), ([] : List Int), ([] : List (Int × (List Int) × Int)), (1 : Int)))
 else
 ((bif decide ((300 : Int) < (IntKind.wrap .i64 (x3.1 + x3.2.2.2.1))) then
 (some (x3.1, x3.2.1, x3.2.2.1, x3.2.2.2.1, x3.2.2.2.2.1, x3.2.2.2.2.2.1, x3.2.2.2.2.2.2.1, x3.2.2.2.2.2.2.2.1, x3.2.2.2.2.2.2.2.2.1, true))
 else
 (some (x3.1, x3.2.1, x3.2.2.1, x3.2.2.2.1, x3.2.2.2.2.1, x3.2.2.2.2.2.1, x3.2.2.2.2.2.2.1, x3.2.2.2.2.2.2.2.1, x3.2.2.2.2.2.2.2.2.1, decide ((20000 : Int) < (IntKind.wrap .i64 (((List.length x3.2.2.1 : Nat) : Int) + ((List.length x3.2.2.2.2.2.1 : Nat) : Int))))))).bind fun x4 =>
 bif x4.2.2.2.2.2.2.2.2.2 then
 (some ((0 : Int), ([] : List Int), ([] : List (Int × (List Int) × Int)), (3 : Int)))
 else
 ((f_auto_Copy (x4.1, x4.2.1, x4.2.2.1)).bind fun r5 =>
 (f_auto_Copy (x4.2.2.2.1, x4.2.2.2.2.1, x4.2.2.2.2.2.1)).bind fun r6 =>
 (loopN (boolean_Union.L1) n (x4.1, x4.2.1, x4.2.2.1, x4.2.2.2.2.2.2.1, x4.2.2.2.2.2.2.2.1, x4.2.2.2.2.2.2.2.2.1, IntKind.wrap .i64 (r5.1 + x4.2.2.2.1), r5.2.1, r5.2.2, r6.1, r6.2.1, r6.2.2, ((List.length r6.2.1 : Nat) : Int), (0 : Int))).bind fun x10 =>
 (loopN (boolean_Union.L3 n) n (x10.1, x10.2.1, x10.2.2.1, x10.2.2.2.1, x10.2.2.2.2.1, x10.2.2.2.2.2.1, x10.2.2.2.2.2.2.1, x10.2.2.2.2.2.2.2.1, x10.2.2.2.2.2.2.2.2.1, x10.2.2.2.2.2.2.2.2.2.1, x10.2.2.2.2.2.2.2.2.2.2.1, x10.2.2.2.2.2.2.2.2.2.2.2, ((List.length x10.2.2.2.2.2.2.2.2.2.2.2 : Nat) : Int), (0 : Int))).bind fun x19 =>
 some (x19.2.2.2.1, x19.2.2.2.2.1, x19.2.2.2.2.2, (0 : Int))))
/-! boskage/boskagelaw05.BooleanFull -/
def law05_BooleanFull.P (f_boolean_Union : ((List Int) × Int × (List Int) × (List (Int × (List Int) × Int)) × Int × (List Int) × (List (Int × (List Int) × Int))) → Option (Int × (List Int) × (List (Int × (List Int) × Int)) × Int)) (f_law05_awake : Unit → Option Bool) (f_law05_many : (Int × Int) → Option (Int × (List Int) × (List (Int × (List Int) × Int)))) (f_law05_valid : ((List Int) × (List (Int × (List Int) × (List (Int × (List Int) × Int))))) → Option Bool) (n : Nat) (x : Int × Int × Int × Int) : Option Bool :=
 (bif decide (x.1 < (1 : Int)) then
 (some (x.1, x.2.1, x.2.2.1, x.2.2.2, true))
 else
 (bif decide ((300 : Int) < x.1) then
 (some (x.1, x.2.1, x.2.2.1, x.2.2.2, true))
 else
 (bif decide (x.2.1 < (1 : Int)) then
 (some (x.1, x.2.1, x.2.2.1, x.2.2.2, true))
 else
 (bif decide ((300 : Int) < x.2.1) then
 (some (x.1, x.2.1, x.2.2.1, x.2.2.2, true))
 else
 (bif decide (x.2.2.1 < (0 : Int)) then
 (some (x.1, x.2.1, x.2.2.1, x.2.2.2, true))
 else
 (bif decide ((20000 : Int) < x.2.2.1) then
 (some (x.1, x.2.1, x.2.2.1, x.2.2.2, true))
 else
 (bif decide (x.2.2.2 < (0 : Int)) then
 (some (x.1, x.2.1, x.2.2.1, x.2.2.2, true))
 else
 (some (x.1, x.2.1, x.2.2.1, x.2.2.2, decide ((20000 : Int) < x.2.2.2)))))))))).bind fun x1 =>
 bif x1.2.2.2.2 then
 ((f_law05_awake ()).bind fun r2 =>
 some r2)
 else
 ((f_law05_many (x1.1, x1.2.2.1)).bind fun r3 =>
 (f_law05_many (x1.2.1, x1.2.2.2.1)).bind fun r4 =>
 (f_boolean_Union (([0, 2] : List Int), r3.1, r3.2.1, r3.2.2, r4.1, r4.2.1, r4.2.2)).bind fun r5 =>
 (bif decide ((300 : Int) < (IntKind.wrap .i64 (x1.1 + x1.2.1))) then
 (some (r5.1, r5.2.1, r5.2.2.1, r5.2.2.2, true))
 else
 (some (r5.1, r5.2.1, r5.2.2.1, r5.2.2.2, decide ((20000 : Int) < (IntKind.wrap .i64 (x1.2.2.1 + x1.2.2.2.1)))))).bind fun x6 =>
 bif x6.2.2.2.2 then
 ((bif decide (x6.2.2.2.1 = (3 : Int)) then
 ((f_law05_awake ()).bind fun r7 =>
 some r7)
 else
 (some false)).bind fun x8 =>
 some x8)
 else
 ((bif decide (x6.2.2.2.1 = (0 : Int)) then
 ((f_law05_valid (([0, 2] : List Int), ([(x6.1, x6.2.1, x6.2.2.1)] : List (Int × (List Int) × (List (Int × (List Int) × Int)))))).bind fun r9 =>
 bif r9 then
 ((f_law05_awake ()).bind fun r10 =>
 some r10)
 else
 (some false))
 else
 (some false)).bind fun x11 =>
 some x11))
end Go.Bk
end
noncomputable section
namespace Go.Bk
open Go Go.AM
set_option linter.unusedVariables false
/-! Total correctness of pure functions with fuel: "from some fuel on". -/
def Ev (p : Nat → Prop) : Prop := ∃ N, ∀ n, N ≤ n → p n
theorem Ev.all {p : Nat → Prop} (h : ∀ n, p n) : Ev p := ⟨0, fun n _ => h n⟩
theorem Ev.mono {p q : Nat → Prop} (h : Ev p) (hq : ∀ n, p n → q n) : Ev q := h.elim fun N hN => ⟨N, fun n hn => hq n (hN n hn)⟩
theorem Ev.and {p q : Nat → Prop} (h : Ev p) (h' : Ev q) : Ev fun n => p n ∧ q n := by
  obtain ⟨N, hN⟩ := h
  obtain ⟨M, hM⟩ := h'
  exact ⟨max N M, fun n hn => ⟨hN n (by omega), hM n (by omega)⟩⟩
theorem Ev.pred {p : Nat → Prop} (h : Ev fun n => p (n + 1)) : Ev p := by
  obtain ⟨N, hN⟩ := h
  refine ⟨N + 1, fun n hn => ?_⟩
  obtain ⟨k, rfl⟩ : ∃ k, n = k + 1 := ⟨n - 1, by omega⟩
  exact hN k (by omega)
theorem Ev.succ {p : Nat → Prop} (h : Ev p) : Ev fun n => p (n + 1) := h.elim fun N hN => ⟨N, fun n hn => hN (n + 1) (by omega)⟩
def Sp {α β : Type} (F : Nat → α → Option β) (x : α) (Q : β → Prop) : Prop := ∃ r, Q r ∧ Ev fun n => F n x = some r
theorem Sp.mono {α β : Type} {F : Nat → α → Option β} {x : α} {Q R : β → Prop} (h : Sp F x Q) (hq : ∀ r, Q r → R r) : Sp F x R := h.elim fun r hr => ⟨r, hq r hr.1, hr.2⟩
theorem Sp.step {α β : Type} {F G : Nat → α → Option β} {x : α} {Q : β → Prop} (hF : ∀ n x, F (n + 1) x = G n x) (h : Sp G x Q) : Sp F x Q := by
  obtain ⟨r, hr, he⟩ := h
  exact ⟨r, hr, (he.mono (q := fun n => F (n + 1) x = some r) fun n hn => by rw [hF]; exact hn).pred⟩
def Lp {σ τ : Type} (L : Nat → σ → (σ → Option τ) → Option τ) (s : σ) (Q : τ → Prop) : Prop := ∃ t, Q t ∧ ∃ N, ∀ n, N ≤ n → ∀ m, N ≤ m → loopN (L n) m s = some t
theorem Lp.ev {σ τ : Type} {L : Nat → σ → (σ → Option τ) → Option τ} {s : σ} {Q : τ → Prop} (h : Lp L s Q) : ∃ t, Q t ∧ Ev fun n => loopN (L n) n s = some t := by
  obtain ⟨t, ht, N, hN⟩ := h
  exact ⟨t, ht, N, fun n hn => hN n hn n hn⟩
theorem Lp.mono {σ τ : Type} {L : Nat → σ → (σ → Option τ) → Option τ} {s : σ} {Q R : τ → Prop} (h : Lp L s Q) (hq : ∀ r, Q r → R r) : Lp L s R := h.elim fun r hr => ⟨r, hq r hr.1, hr.2⟩
def St {σ τ : Type} (L : Nat → σ → (σ → Option τ) → Option τ) (s : σ) (I : σ → Prop) (Q : τ → Prop) : Prop :=
  (∃ s', I s' ∧ Ev fun n => ∀ k, L n s k = k s') ∨ (∃ t, Q t ∧ Ev fun n => ∀ k, L n s k = some t)
theorem Lp.of_st {σ τ : Type} {L : Nat → σ → (σ → Option τ) → Option τ} {s : σ} {I : σ → Prop} {Q : τ → Prop} (h : St L s I Q) (hI : ∀ s', I s' → Lp L s' Q) : Lp L s Q := by
  rcases h with ⟨s', hs, N, hN⟩ | ⟨t, ht, N, hN⟩
  · obtain ⟨t, ht, M, hM⟩ := hI s' hs
    refine ⟨t, ht, max N M + 1, fun n hn m hm => ?_⟩
    obtain ⟨k, rfl⟩ : ∃ k, m = k + 1 := ⟨m - 1, by omega⟩
    show L n s (loopN (L n) k) = some t
    rw [hN n (by omega)]
    exact hM n (by omega) k (by omega)
  · refine ⟨t, ht, N + 1, fun n hn m hm => ?_⟩
    obtain ⟨k, rfl⟩ : ∃ k, m = k + 1 := ⟨m - 1, by omega⟩
    show L n s (loopN (L n) k) = some t
    exact hN n (by omega) _
theorem Lp.range {σ τ : Type} {L : Nat → σ → (σ → Option τ) → Option τ} {Q : τ → Prop} (len : Nat) (I : Nat → σ → Prop)
    (hs : ∀ i s, i < len → I i s → St L s (I (i + 1)) Q) (hf : ∀ s, I len s → St L s (fun _ => False) Q) : ∀ s, I 0 s → Lp L s Q := by
  have key : ∀ d i s, i + d = len → I i s → Lp L s Q := by
    intro d
    induction d with
    | zero => intro i s hi h; obtain rfl : i = len := by omega
              exact Lp.of_st (hf s h) fun _ hx => hx.elim
    | succ d ih => intro i s hi h; exact Lp.of_st (hs i s (by omega) h) fun s' h' => ih (i + 1) s' (by omega) h'
  intro s h
  exact key len 0 s (by omega) h
theorem Lp.search {σ τ : Type} {L : Nat → σ → (σ → Option τ) → Option τ} (len : Nat) (st : Nat → σ) (P : Nat → Prop) (no : Nat → τ) (yes : τ)
    (hs : ∀ i, i < len → (P i ∧ Ev fun n => ∀ k, L n (st i) k = k (st (i + 1))) ∨ (¬ P i ∧ Ev fun n => ∀ k, L n (st i) k = some (no i)))
    (hf : Ev fun n => ∀ k, L n (st len) k = some yes) :
    Lp L (st 0) (fun t => (t = yes ∧ ∀ i, i < len → P i) ∨ ∃ i, i < len ∧ ¬ P i ∧ t = no i) := by
  refine Lp.range len (fun i s => s = st i ∧ ∀ j, j < i → P j) ?_ ?_ _ ⟨rfl, fun j h => absurd h (by omega)⟩
  · rintro i s hi ⟨rfl, hI⟩
    rcases hs i hi with ⟨hp, he⟩ | ⟨hp, he⟩
    · refine .inl ⟨_, ⟨rfl, fun j hj => ?_⟩, he⟩
      rcases Nat.lt_or_eq_of_le (Nat.le_of_lt_succ hj) with h3 | rfl
      · exact hI j h3
      · exact hp
    · exact .inr ⟨_, .inr ⟨i, hi, hp, rfl⟩, he⟩
  · rintro s ⟨rfl, hI⟩
    exact .inr ⟨_, .inl ⟨rfl, hI⟩, hf⟩
theorem wrap_id (z : Int) (h : -9223372036854775808 ≤ z) (h' : z < 9223372036854775808) : IntKind.wrap .i64 z = z := by
  simp only [IntKind.wrap, IntKind.signed, IntKind.bits]
  simp only [Bool.true_and, decide_eq_true_eq, Nat.reduceSub, ge_iff_le]
  split <;> omega
theorem wrap_succ {i m : Nat} (h : i < m) (hm : m ≤ maxRows) : IntKind.wrap .i64 ((i : Int) + 1) = ((i + 1 : Nat) : Int) := by
  have : maxRows = 1099511627776 := by decide
  rw [wrap_id _ (by omega) (by omega)]; omega
theorem nth_lt {α : Type} {l : List α} {i : Nat} (h : i < l.length) : nth? l (i : Int) = some l[i] := by
  simp [nth?, h]
theorem nth_int {α : Type} {l : List α} {z : Int} (h : 0 ≤ z) (h' : z < ((l.length : Nat) : Int)) : nth? l z = some (l[z.toNat]'(by omega)) := by
  have : z.toNat < l.length := by omega
  simp [nth?, h, this]
theorem wrap_pred {i m : Nat} (h : i < m) (hm : m ≤ maxRows) (h0 : 0 < i) : IntKind.wrap .i64 ((i : Int) - 1) = ((i - 1 : Nat) : Int) := by
  have : maxRows = 1099511627776 := by decide
  rw [wrap_id _ (by omega) (by omega)]; omega
theorem lt_yes {i m : Nat} (h : i < m) : ((i : Int) < (m : Int)) = True := eq_true (by omega)
theorem lt_no {m : Nat} : ((m : Int) < (m : Int)) = False := eq_false (by omega)
end Go.Bk
end
noncomputable section
namespace Go.Bk
open Go Go.AM
set_option linter.unusedVariables false
abbrev Rule := Int × List Int × Int
abbrev Aut := Int × List Int × List Rule
/-! few -/
theorem few_L1 (a b : Int) (c : List Int) (d : List Aut) (e f : Int) (rs : List Rule) (hr : rs.length ≤ maxRows) :
    Lp (fun _ => ref03_Few.L1) (a, b, c, d, e, f, rs, ((rs.length : Nat) : Int), (0 : Int)) (fun t => (t = .inl (a, b, c, d, e, f) ∧ ∀ r ∈ rs, r.2.1.length ≤ 10) ∨ t = .inr (.inr false)) := by
  refine Lp.range rs.length (fun i s => s = (a, b, c, d, e, f, rs, ((rs.length : Nat) : Int), (i : Int)) ∧ ∀ j (h : j < rs.length), j < i → rs[j].2.1.length ≤ 10) ?_ ?_ _ ⟨rfl, by intro j h h0; omega⟩
  · rintro i s hi ⟨rfl, hI⟩
    by_cases h : (10 : Int) < ((rs[i].2.1.length : Nat) : Int)
    · exact .inr ⟨_, .inr rfl, .all fun n k => by simp only [decide_true, cond_true, Option.bind_some, ref03_Few.L1, lt_yes hi, nth_lt hi, h]⟩
    · refine .inl ⟨_, ⟨rfl, fun j hj h2 => ?_⟩, .all fun n k => by simp only [decide_true, decide_false, cond_true, cond_false, Option.bind_some, ref03_Few.L1, lt_yes hi, nth_lt hi, h, wrap_succ hi hr]⟩
      rcases Nat.lt_or_eq_of_le (Nat.le_of_lt_succ h2) with h3 | rfl
      · exact hI j hj h3
      · omega
  · rintro s ⟨rfl, hI⟩
    refine .inr ⟨_, .inl ⟨rfl, fun r hr' => ?_⟩, .all fun n k => by simp only [decide_false, cond_false, Option.bind_some, lt_no, ref03_Few.L1]⟩
    obtain ⟨j, hj, rfl⟩ := List.getElem_of_mem hr'
    exact hI j hj hj
theorem few_L2 (al : List Int) (bs : List Aut) (hb : bs.length ≤ maxRows) (hr : ∀ b ∈ bs, b.2.2.length ≤ maxRows) :
    Lp (ref03_Few.L2) ((6 : Int), (30 : Int), al, bs, ((bs.length : Nat) : Int), (0 : Int)) (fun t => (t = .inl al ∧ ∀ b ∈ bs, b.2.1.length ≤ 30 ∧ b.2.2.length ≤ 30 ∧ (b.1 ≤ 6 ∨ 300 < b.1) ∧ ∀ r ∈ b.2.2, r.2.1.length ≤ 10) ∨ t = .inr false) := by
  refine Lp.range bs.length (fun i s => s = ((6 : Int), (30 : Int), al, bs, ((bs.length : Nat) : Int), (i : Int)) ∧ ∀ j (h : j < bs.length), j < i → (bs[j].2.1.length ≤ 30 ∧ bs[j].2.2.length ≤ 30 ∧ (bs[j].1 ≤ 6 ∨ 300 < bs[j].1) ∧ ∀ r ∈ bs[j].2.2, r.2.1.length ≤ 10)) ?_ ?_ _ ⟨rfl, by intro j h h0; omega⟩
  · rintro i s hi ⟨rfl, hI⟩
    by_cases h1 : (30 : Int) < ((bs[i].2.1.length : Nat) : Int)
    · exact .inr ⟨_, .inr rfl, .all fun n k => by simp only [decide_true, cond_true, Option.bind_some, ref03_Few.L2, lt_yes hi, nth_lt hi, h1]⟩
    by_cases h2 : (30 : Int) < ((bs[i].2.2.length : Nat) : Int)
    · exact .inr ⟨_, .inr rfl, .all fun n k => by simp only [decide_true, decide_false, cond_true, cond_false, Option.bind_some, ref03_Few.L2, lt_yes hi, nth_lt hi, h1, h2]⟩
    by_cases h3 : (6 : Int) < bs[i].1 ∧ bs[i].1 ≤ 300
    · exact .inr ⟨_, .inr rfl, .all fun n k => by simp only [decide_true, decide_false, cond_true, cond_false, Option.bind_some, ref03_Few.L2, lt_yes hi, nth_lt hi, h1, h2, h3.1, h3.2]⟩
    have hx : ∀ n k, ref03_Few.L2 n ((6 : Int), (30 : Int), al, bs, ((bs.length : Nat) : Int), (i : Int)) k = ((loopN (ref03_Few.L1) n ((6 : Int), (30 : Int), al, bs, ((bs.length : Nat) : Int), (i : Int), bs[i].2.2, ((List.length bs[i].2.2 : Nat) : Int), (0 : Int))).bind fun q => match q with
      | Sum.inl x8 => (k (x8.1, x8.2.1, x8.2.2.1, x8.2.2.2.1, x8.2.2.2.2.1, IntKind.wrap .i64 (x8.2.2.2.2.2 + (1 : Int))))
      | Sum.inr r => some r) := by
      intro n k
      by_cases h4 : (6 : Int) < bs[i].1
      · have h5 : ¬ bs[i].1 ≤ 300 := fun h => h3 ⟨h4, h⟩
        simp only [decide_true, decide_false, cond_true, cond_false, Option.bind_some, ref03_Few.L2, lt_yes hi, nth_lt hi, h1, h2, h4, h5] <;> rfl
      · simp only [decide_true, decide_false, cond_true, cond_false, Option.bind_some, ref03_Few.L2, lt_yes hi, nth_lt hi, h1, h2, h4] <;> rfl
    obtain ⟨t, ht, he⟩ := (few_L1 6 30 al bs ((bs.length : Nat) : Int) (i : Int) bs[i].2.2 (hr _ (List.getElem_mem hi))).ev
    rcases ht with ⟨rfl, ht⟩ | rfl
    · refine .inl ⟨_, ⟨rfl, fun j hj h2' => ?_⟩, he.mono fun n hn k => by rw [hx, hn]; simp only [Option.bind_some, wrap_succ hi hb]⟩
      rcases Nat.lt_or_eq_of_le (Nat.le_of_lt_succ h2') with h3' | rfl
      · exact hI j hj h3'
      · exact ⟨by omega, by omega, by omega, ht⟩
    · exact .inr ⟨_, .inr rfl, he.mono fun n hn k => by rw [hx, hn]; simp only [Option.bind_some]⟩
  · rintro s ⟨rfl, hI⟩
    refine .inr ⟨_, .inl ⟨rfl, fun r hr' => ?_⟩, .all fun n k => by simp only [decide_false, cond_false, Option.bind_some, lt_no, ref03_Few.L2]⟩
    obtain ⟨j, hj, rfl⟩ := List.getElem_of_mem hr'
    exact hI j hj hj
def FewOk (al : List Int) (b : Aut) : Prop := al.length ≤ 40 ∧ b.2.1.length ≤ 30 ∧ b.2.2.length ≤ 30 ∧ (b.1 ≤ 6 ∨ 300 < b.1) ∧ ∀ r ∈ b.2.2, r.2.1.length ≤ 10
theorem sp_ref03_Few (al : List Int) (bs : List Aut) (hb : bs.length ≤ maxRows) (hr : ∀ b ∈ bs, b.2.2.length ≤ maxRows) :
    Sp ref03_Few.P (al, (6 : Int), (30 : Int), bs) (fun r => r = true → ∀ b ∈ bs, FewOk al b) := by
  obtain ⟨t, ht, he⟩ := (few_L2 al bs hb hr).ev
  rcases ht with ⟨rfl, ht⟩ | rfl
  · refine ⟨_, fun h b hb => ⟨?_, ht b hb⟩, he.mono fun n hn => by simp only [ref03_Few.P, hn, Option.bind_some]; rfl⟩
    have := of_decide_eq_true h
    omega
  · exact ⟨false, fun h => (by cases h), he.mono fun n hn => by simp only [ref03_Few.P, hn, Option.bind_some]⟩
end Go.Bk
end
noncomputable section
namespace Go.Bk
open Go Go.AM
set_option linter.unusedVariables false
/-! trees -/
theorem rt_ind {P : RT Int → Prop} (h : ∀ a ks, (∀ k ∈ ks, P k) → P (.mk a ks)) (t : RT Int) : P t := by
  match t with
  | .mk a ks => exact h a ks (fun k hk => rt_ind h k)
termination_by SizeOf.sizeOf t
decreasing_by
  have := List.sizeOf_lt_of_mem hk
  simp only [RT.mk.sizeOf_spec]
  omega
mutual
def nds : RT Int → Nat
  | .mk _ ks => ndss ks + 1
def ndss : List (RT Int) → Nat
  | [] => 0
  | k :: ks => nds k + ndss ks
end
theorem nds_pos : ∀ t, 1 ≤ nds t
  | .mk _ ks => by simp only [nds]; omega
theorem ndss_mem {k : RT Int} : ∀ {ks : List (RT Int)}, k ∈ ks → nds k ≤ ndss ks
  | a :: ks, h => by
    simp only [ndss]
    rcases List.mem_cons.mp h with rfl | h
    · omega
    · have := ndss_mem h; omega
theorem ndss_len : ∀ ks : List (RT Int), ks.length ≤ ndss ks
  | [] => by simp [ndss]
  | k :: ks => by
    have := ndss_len ks
    have := nds_pos k
    simp only [ndss, List.length_cons]; omega
theorem maxRows_eq : maxRows = 1099511627776 := by decide
/-! count -/
theorem sp_count {F : Nat → Int × List (RT Int) × Int → Option Int} (hF : ∀ n x, F (n + 1) x = ref01_count.P (F n) n x) (t : RT Int) :
    nds t ≤ maxRows → ∀ m : Int, 0 ≤ m → m ≤ 1000 → Sp F (t.a, t.kids, m) (fun r => 1 ≤ r ∧ r ≤ m + 1) := by
  induction t using rt_ind with
  | h a ks ih =>
  intro hn m h0 h1
  have hk : ks.length ≤ maxRows := by have := ndss_len ks; simp only [nds] at hn; omega
  have hl : Lp (fun n => ref01_count.L1 (F n)) (m, (1 : Int), ks, ((ks.length : Nat) : Int), (0 : Int)) (fun r => 1 ≤ r ∧ r ≤ m + 1) := by
    refine Lp.range ks.length (fun i s => ∃ c : Int, 1 ≤ c ∧ c ≤ m + 1 ∧ s = (m, c, ks, ((ks.length : Nat) : Int), (i : Int))) ?_ ?_ _ ⟨1, by omega, by omega, rfl⟩
    · rintro i s hi ⟨c, hc, hc', rfl⟩
      by_cases h : c ≤ m
      · obtain ⟨r, ⟨hr, hr'⟩, he⟩ := ih ks[i] (List.getElem_mem hi) (by have := ndss_mem (List.getElem_mem hi); simp only [nds] at hn; omega) (m - c) (by omega) (by omega)
        refine .inl ⟨_, ⟨c + r, by omega, by omega, rfl⟩, he.mono fun n hn k => ?_⟩
        simp only [decide_true, cond_true, Option.bind_some, ref01_count.L1, lt_yes hi, nth_lt hi, h, wrap_id (m - c) (by omega) (by omega), hn, wrap_id (c + r) (by omega) (by omega), wrap_succ hi hk]
      · refine .inl ⟨_, ⟨c, hc, hc', rfl⟩, .all fun n k => ?_⟩
        simp only [decide_true, decide_false, cond_true, cond_false, Option.bind_some, ref01_count.L1, lt_yes hi, nth_lt hi, h, wrap_succ hi hk]
    · rintro s ⟨c, hc, hc', rfl⟩
      exact .inr ⟨_, ⟨hc, hc'⟩, .all fun n k => by simp only [decide_false, cond_false, lt_no, ref01_count.L1]⟩
  obtain ⟨r, hr, he⟩ := hl.ev
  exact Sp.step (F := F) (G := fun n => ref01_count.P (F n) n) hF ⟨r, hr, he.mono fun n hn => by simp only [ref01_count.P, RT.kids, hn, Option.bind_some]⟩
theorem sp_ref01_Few {F : Nat → Int × List (RT Int) × Int → Option Int} {s : Int} {ks : List (RT Int)} {m : Int} {Q : Int → Prop} (h : Sp F (s, ks, m) Q) :
    Sp (fun n => ref01_Few.P (F n) n) (s, ks, m) (fun _ => True) := by
  obtain ⟨r, hr, he⟩ := h
  exact ⟨_, trivial, he.mono fun n hn => by simp only [ref01_Few.P, hn, Option.bind_some]; rfl⟩
theorem sp_law05_few {F : Nat → Int × List (RT Int) × Int → Option Bool} {G : Nat → List Int × Int × Int × List Aut → Option Bool} {al : List Int} {s : Int} {ks : List (RT Int)} {bs : List Aut} {R : Bool → Prop}
    (h1 : Sp F (s, ks, (400 : Int)) R) (h2 : Sp G (al, (6 : Int), (30 : Int), bs) (fun r => r = true → ∀ b ∈ bs, FewOk al b)) :
    Sp (fun n => law05_few.P (F n) (G n) n) (al, s, ks, bs) (fun r => r = true → ∀ b ∈ bs, FewOk al b) := by
  obtain ⟨r1, hr1, he1⟩ := h1
  obtain ⟨r2, hr2, he2⟩ := h2
  cases r2
  · exact ⟨false, fun h => (by cases h), he2.mono fun n hn => by simp only [law05_few.P, hn, Option.bind_some, cond_false]⟩
  · exact ⟨r1, fun _ => hr2 rfl, (he1.and he2).mono fun n hn => by simp only [law05_few.P, hn.1, hn.2, Option.bind_some, cond_true]⟩
/-! alphabets -/
def LetOk (x : Int) : Prop := 0 ≤ x ∧ x ≤ 3
def AlOk (al : List Int) : Prop := al.length ≤ 12 ∧ ∀ i (h : i < al.length), LetOk al[i]
theorem sp_tree_ValidAlphabet_1 (x : Int) : Sp (fun n => tree_ValidAlphabet_1.P n) x (fun r => r = true ↔ ¬ LetOk x) := by
  by_cases h : x < 0
  · exact ⟨true, by simp only [LetOk]; simp; omega, .all fun n => by simp only [decide_true, cond_true, Option.bind_some, tree_ValidAlphabet_1.P, h]⟩
  · by_cases h' : 3 < x
    · exact ⟨true, by simp only [LetOk]; simp; omega, .all fun n => by simp only [decide_true, decide_false, cond_false, Option.bind_some, tree_ValidAlphabet_1.P, h, h']⟩
    · exact ⟨false, by simp only [LetOk]; simp; omega, .all fun n => by simp only [decide_false, cond_false, Option.bind_some, tree_ValidAlphabet_1.P, h, h']⟩
theorem sp_IndexFunc {F : Nat → Int → Option Bool} (hF : ∀ x, Sp F x (fun r => r = true ↔ ¬ LetOk x)) (al : List Int) (hl : al.length ≤ maxRows) :
    Sp (fun n => slices_IndexFunc_int_int_of_tree_ValidAlphabet_1.P (F n) n) al (fun r => 0 ≤ r ↔ ∃ i, ∃ h : i < al.length, ¬ LetOk al[i]) := by
  have := Lp.search (L := fun n => slices_IndexFunc_int_int_of_tree_ValidAlphabet_1.L1 (F n)) al.length (fun i => (al, ((al.length : Nat) : Int), (i : Int))) (fun i => ∀ h : i < al.length, LetOk al[i]) (fun i => .inr (i : Int)) (.inl ()) ?_ ?_
  · obtain ⟨t, ht, he⟩ := this.ev
    rcases ht with ⟨rfl, ht⟩ | ⟨i, hi, hn, rfl⟩
    · refine ⟨-1, ⟨fun h => absurd h (by omega), ?_⟩, he.mono fun n hn => ?_⟩
      · rintro ⟨i, hi, h⟩; exact absurd (ht i hi hi) h
      · show (loopN _ n (al, ((al.length : Nat) : Int), (((0 : Nat) : Nat) : Int))).bind _ = _
        rw [hn]; rfl
    · refine ⟨(i : Int), ⟨fun _ => ⟨i, hi, fun h => hn fun _ => h⟩, fun _ => by omega⟩, he.mono fun n hn => ?_⟩
      show (loopN _ n (al, ((al.length : Nat) : Int), (((0 : Nat) : Nat) : Int))).bind _ = _
      rw [hn]; rfl
  · intro i hi
    obtain ⟨r, hr, he⟩ := hF al[i]
    cases r
    · exact .inl ⟨fun _ => Classical.byContradiction fun h => (by have := hr.mpr h; cases this), he.mono fun n hn k => by simp only [decide_true, cond_true, cond_false, Option.bind_some, slices_IndexFunc_int_int_of_tree_ValidAlphabet_1.L1, lt_yes hi, nth_lt hi, hn, wrap_succ hi hl]⟩
    · exact .inr ⟨fun h => hr.mp rfl (h hi), he.mono fun n hn k => by simp only [decide_true, cond_true, Option.bind_some, slices_IndexFunc_int_int_of_tree_ValidAlphabet_1.L1, lt_yes hi, nth_lt hi, hn]⟩
  · exact .all fun n k => by simp only [decide_false, cond_false, Option.bind_some, lt_no, slices_IndexFunc_int_int_of_tree_ValidAlphabet_1.L1]
theorem sp_ContainsFunc {F : Nat → List Int → Option Int} {al : List Int} {P : Prop} (h : Sp F al (fun r => 0 ≤ r ↔ P)) :
    Sp (fun n => slices_ContainsFunc_int_int_of_tree_ValidAlphabet_1.P (F n) n) al (fun r => r = true ↔ P) := by
  obtain ⟨r, hr, he⟩ := h
  exact ⟨decide (0 ≤ r), decide_eq_true_iff.trans hr, he.mono fun n hn => by simp only [slices_ContainsFunc_int_int_of_tree_ValidAlphabet_1.P, hn, Option.bind_some]⟩
theorem sp_tree_ValidAlphabet {F : Nat → List Int → Option Bool} {al : List Int} (h : Sp F al (fun r => r = true ↔ ∃ i, ∃ h : i < al.length, ¬ LetOk al[i])) :
    Sp (fun n => tree_ValidAlphabet.P (F n) n) al (fun r => r = true ↔ AlOk al) := by
  obtain ⟨r, hr, he⟩ := h
  by_cases hl : ((al.length : Nat) : Int) ≤ 12
  · refine ⟨!r, ?_, he.mono fun n hn => by simp only [decide_true, cond_true, Option.bind_some, tree_ValidAlphabet.P, hl, hn]⟩
    cases r
    · simp only [Bool.not_false, true_iff]
      refine ⟨by omega, fun i hi => Classical.byContradiction fun h => ?_⟩
      have := hr.mpr ⟨i, hi, h⟩; cases this
    · simp only [Bool.not_true]
      refine ⟨fun h => (by cases h), fun h => ?_⟩
      obtain ⟨i, hi, h'⟩ := hr.mp rfl
      exact absurd (h.2 i hi) h'
  · exact ⟨false, ⟨fun h => (by cases h), fun h => absurd h.1 (by omega)⟩, .all fun n => by simp only [decide_false, cond_false, Option.bind_some, tree_ValidAlphabet.P, hl]⟩
theorem sp_ref01_ValidAlphabet (al : List Int) : Sp ref01_ValidAlphabet.P al (fun r => r = true ↔ AlOk al) := by
  by_cases hl : (12 : Int) < ((al.length : Nat) : Int)
  · exact ⟨false, ⟨fun h => (by cases h), fun h => absurd h.1 (by omega)⟩, .all fun n => by simp only [decide_true, cond_true, ref01_ValidAlphabet.P, hl]⟩
  have hb : al.length ≤ maxRows := by have := maxRows_eq; omega
  have := Lp.search (L := fun _ => ref01_ValidAlphabet.L1) al.length (fun i => (al, ((al.length : Nat) : Int), (i : Int))) (fun i => ∀ h : i < al.length, LetOk al[i]) (fun i => .inr false) (.inl ()) ?_ ?_
  · obtain ⟨t, ht, he⟩ := this.ev
    rcases ht with ⟨rfl, ht⟩ | ⟨i, hi, hn, rfl⟩
    · refine ⟨true, ⟨fun _ => ⟨by omega, fun i hi => ht i hi hi⟩, fun _ => rfl⟩, he.mono fun n hn => ?_⟩
      simp only [decide_false, cond_false, ref01_ValidAlphabet.P, hl]
      exact congrArg (Option.bind · _) hn
    · refine ⟨false, ⟨fun h => (by cases h), fun h => absurd (fun _ => h.2 i hi) hn⟩, he.mono fun n hn => ?_⟩
      simp only [decide_false, cond_false, ref01_ValidAlphabet.P, hl]
      exact congrArg (Option.bind · _) hn
  · intro i hi
    by_cases h1 : al[i] < 0
    · exact .inr ⟨fun h => absurd (h hi).1 (by omega), .all fun n k => by simp only [decide_true, cond_true, Option.bind_some, ref01_ValidAlphabet.L1, lt_yes hi, nth_lt hi, h1]⟩
    by_cases h2 : 3 < al[i]
    · exact .inr ⟨fun h => absurd (h hi).2 (by omega), .all fun n k => by simp only [decide_true, decide_false, cond_true, cond_false, Option.bind_some, ref01_ValidAlphabet.L1, lt_yes hi, nth_lt hi, h1, h2]⟩
    · exact .inl ⟨fun _ => ⟨by omega, by omega⟩, .all fun n k => by simp only [decide_true, decide_false, cond_true, cond_false, Option.bind_some, ref01_ValidAlphabet.L1, lt_yes hi, nth_lt hi, h1, h2, wrap_succ hi hb]⟩
  · exact .all fun n k => by simp only [decide_false, cond_false, Option.bind_some, lt_no, ref01_ValidAlphabet.L1]
end Go.Bk
end
noncomputable section
namespace Go.Bk
open Go Go.AM
set_option linter.unusedVariables false
/-! automata: Valid -/
def StOk (S f : Int) : Prop := 0 ≤ f ∧ f < S
def FinAt (S : Int) (l : List Int) (i : Nat) : Prop := ∀ h : i < l.length, StOk S l[i] ∧ (0 < i → l[i - 1] < l[i])
def FromAt (S : Int) (l : List Int) (i : Nat) : Prop := ∀ h : i < l.length, StOk S l[i]
def RuleOk (al : List Int) (S : Int) (r : Rule) : Prop := 0 ≤ r.1 ∧ r.1 < ((al.length : Nat) : Int) ∧ (∀ h : r.1.toNat < al.length, ((r.2.1.length : Nat) : Int) = al[r.1.toNat]) ∧ StOk S r.2.2 ∧ ∀ i, i < r.2.1.length → FromAt S r.2.1 i
def RuleAt (al : List Int) (S : Int) (l : List Rule) (i : Nat) : Prop := ∀ h : i < l.length, RuleOk al S l[i]
def ValidA (al : List Int) (a : Aut) : Prop := AlOk al ∧ 0 ≤ a.1 ∧ a.1 ≤ 300 ∧ a.2.2.length ≤ 20000 ∧ (∀ i, i < a.2.1.length → FinAt a.1 a.2.1 i) ∧ ∀ i, i < a.2.2.length → RuleAt al a.1 a.2.2 i
theorem sp_auto_Valid_1 (x S : Int) (f : List Int) (rs : List Rule) : Sp (fun n => auto_Valid_1.P n) (x, S, f, rs) (fun r => r = true ↔ StOk S x) := by
  by_cases h : 0 ≤ x
  · exact ⟨decide (x < S), decide_eq_true_iff.trans ⟨fun h' => ⟨h, h'⟩, fun h' => h'.2⟩, .all fun n => by simp only [decide_true, cond_true, Option.bind_some, auto_Valid_1.P, h]⟩
  · exact ⟨false, ⟨fun h => (by cases h), fun h' => absurd h'.1 h⟩, .all fun n => by simp only [decide_false, cond_false, Option.bind_some, auto_Valid_1.P, h]⟩
section
variable {F : Nat → Int × Int × List Int × List Rule → Option Bool} (hF : ∀ x S f rs, Sp F (x, S, f, rs) (fun r => r = true ↔ StOk S x))
include hF
theorem auto_Valid_L1 (al : List Int) (S : Int) (fin : List Int) (rs : List Rule) (hl : fin.length ≤ maxRows) :
    Lp (fun n => auto_Valid.L1 (F n)) (al, S, fin, rs, fin, ((fin.length : Nat) : Int), (0 : Int)) (fun t => (t = .inl (al, S, fin, rs) ∧ ∀ i, i < fin.length → FinAt S fin i) ∨ ∃ i, i < fin.length ∧ ¬ FinAt S fin i ∧ t = .inr false) := by
  refine Lp.search fin.length (fun i => (al, S, fin, rs, fin, ((fin.length : Nat) : Int), (i : Int))) (FinAt S fin) (fun _ => Sum.inr false) (Sum.inl (al, S, fin, rs)) ?_ ?_
  · intro i hi
    obtain ⟨r, hr, he⟩ := hF fin[i] S fin rs
    cases r
    · exact .inr ⟨fun h => (by have := hr.mpr (h hi).1; cases this), he.mono fun n hn k => by simp only [decide_true, cond_true, Option.bind_some, Bool.not_false, auto_Valid.L1, lt_yes hi, nth_lt hi, hn]⟩
    · have hs := hr.mp rfl
      by_cases h0 : 0 < i
      · have h0' : (0 : Int) < (i : Int) := by omega
        have hp : i - 1 < fin.length := by omega
        by_cases h1 : fin[i] ≤ fin[i - 1]
        · exact .inr ⟨fun h => by have := (h hi).2 h0; omega, he.mono fun n hn k => by simp only [decide_true, cond_true, cond_false, Option.bind_some, Bool.not_true, auto_Valid.L1, lt_yes hi, nth_lt hi, hn, h0', wrap_pred hi hl h0, nth_lt hp, h1]⟩
        · exact .inl ⟨fun _ => ⟨hs, fun _ => by omega⟩, he.mono fun n hn k => by simp only [decide_true, decide_false, cond_true, cond_false, Option.bind_some, Bool.not_true, auto_Valid.L1, lt_yes hi, nth_lt hi, hn, h0', wrap_pred hi hl h0, nth_lt hp, h1, wrap_succ hi hl]⟩
      · have h0' : ¬ (0 : Int) < (i : Int) := by omega
        exact .inl ⟨fun _ => ⟨hs, fun h => absurd h h0⟩, he.mono fun n hn k => by simp only [decide_true, decide_false, cond_true, cond_false, Option.bind_some, Bool.not_true, auto_Valid.L1, lt_yes hi, nth_lt hi, hn, h0', wrap_succ hi hl]⟩
  · exact .all fun n k => by simp only [decide_false, cond_false, Option.bind_some, lt_no, auto_Valid.L1]
theorem auto_Valid_L2 (al : List Int) (S : Int) (fin : List Int) (rs rs' : List Rule) (a b : Int) (l : List Int) (hl : l.length ≤ maxRows) :
    Lp (fun n => auto_Valid.L2 (F n)) (al, S, fin, rs, rs', a, b, l, ((l.length : Nat) : Int), (0 : Int)) (fun t => (t = .inl (al, S, fin, rs, rs', a, b) ∧ ∀ i, i < l.length → FromAt S l i) ∨ ∃ i, i < l.length ∧ ¬ FromAt S l i ∧ t = .inr (.inr false)) := by
  refine Lp.search l.length (fun i => (al, S, fin, rs, rs', a, b, l, ((l.length : Nat) : Int), (i : Int))) (FromAt S l) (fun _ => Sum.inr (Sum.inr false)) (Sum.inl (al, S, fin, rs, rs', a, b)) ?_ ?_
  · intro i hi
    obtain ⟨r, hr, he⟩ := hF l[i] S fin rs
    cases r
    · exact .inr ⟨fun h => (by have := hr.mpr (h hi); cases this), he.mono fun n hn k => by simp only [decide_true, cond_true, Option.bind_some, Bool.not_false, auto_Valid.L2, lt_yes hi, nth_lt hi, hn]⟩
    · exact .inl ⟨fun _ => hr.mp rfl, he.mono fun n hn k => by simp only [decide_true, cond_true, cond_false, Option.bind_some, Bool.not_true, auto_Valid.L2, lt_yes hi, nth_lt hi, hn, wrap_succ hi hl]⟩
  · exact .all fun n k => by simp only [decide_false, cond_false, Option.bind_some, lt_no, auto_Valid.L2]
theorem auto_Valid_L3 (al : List Int) (S : Int) (fin : List Int) (rs : List Rule) (hl : rs.length ≤ maxRows) (hr : ∀ r ∈ rs, r.2.1.length ≤ maxRows) :
    Lp (fun n => auto_Valid.L3 (F n) n) (al, S, fin, rs, rs, ((rs.length : Nat) : Int), (0 : Int)) (fun t => (t = .inl () ∧ ∀ i, i < rs.length → RuleAt al S rs i) ∨ ∃ i, i < rs.length ∧ ¬ RuleAt al S rs i ∧ t = .inr false) := by
  refine Lp.search rs.length (fun i => (al, S, fin, rs, rs, ((rs.length : Nat) : Int), (i : Int))) (RuleAt al S rs) (fun _ => Sum.inr false) (Sum.inl ()) ?_ ?_
  · intro i hi
    by_cases h1 : rs[i].1 < 0
    · exact .inr ⟨fun h => absurd (h hi).1 (by omega), .all fun n k => by simp only [decide_true, cond_true, Option.bind_some, auto_Valid.L3, lt_yes hi, nth_lt hi, h1]⟩
    by_cases h2 : ((al.length : Nat) : Int) ≤ rs[i].1
    · exact .inr ⟨fun h => absurd (h hi).2.1 (by omega), .all fun n k => by simp only [decide_true, decide_false, cond_true, cond_false, Option.bind_some, auto_Valid.L3, lt_yes hi, nth_lt hi, h1, h2]⟩
    have hx := nth_int (l := al) (z := rs[i].1) (by omega) (by omega)
    by_cases h3 : ((rs[i].2.1.length : Nat) : Int) = al[rs[i].1.toNat]'(by omega)
    · obtain ⟨r, hr1, he⟩ := hF rs[i].2.2 S fin rs
      cases r
      · exact .inr ⟨fun h => (by have := hr1.mpr (h hi).2.2.2.1; cases this), he.mono fun n hn k => by simp only [decide_true, decide_false, cond_true, cond_false, Option.bind_some, Bool.not_true, Bool.not_false, auto_Valid.L3, lt_yes hi, nth_lt hi, h1, h2, hx, h3, hn]⟩
      · obtain ⟨t, ht, he2⟩ := (auto_Valid_L2 hF al S fin rs rs ((rs.length : Nat) : Int) (i : Int) rs[i].2.1 (hr _ (List.getElem_mem hi))).ev
        rcases ht with ⟨rfl, ht⟩ | ⟨j, hj, hn, rfl⟩
        · exact .inl ⟨fun _ => ⟨by omega, by omega, fun _ => h3, hr1.mp rfl, ht⟩, (he.and he2).mono fun n hn k => by rw [h3] at hn; simp only [decide_true, decide_false, cond_true, cond_false, Option.bind_some, Bool.not_true, auto_Valid.L3, lt_yes hi, nth_lt hi, h1, h2, hx, h3, hn.1, hn.2, wrap_succ hi hl]⟩
        · exact .inr ⟨fun h => hn ((h hi).2.2.2.2 j hj), (he.and he2).mono fun n hn k => by rw [h3] at hn; simp only [decide_true, decide_false, cond_true, cond_false, Option.bind_some, Bool.not_true, auto_Valid.L3, lt_yes hi, nth_lt hi, h1, h2, hx, h3, hn.1, hn.2]⟩
    · exact .inr ⟨fun h => h3 ((h hi).2.2.1 (by omega)), .all fun n k => by simp only [decide_true, decide_false, cond_true, cond_false, Option.bind_some, Bool.not_false, auto_Valid.L3, lt_yes hi, nth_lt hi, h1, h2, hx, h3]⟩
  · exact .all fun n k => by simp only [decide_false, cond_false, Option.bind_some, lt_no, auto_Valid.L3]
theorem sp_auto_Valid {G : Nat → List Int → Option Bool} (hG : ∀ al, al.length ≤ maxRows → Sp G al (fun r => r = true ↔ AlOk al)) (al : List Int) (S : Int) (fin : List Int) (rs : List Rule) (h0 : al.length ≤ maxRows) (h1 : fin.length ≤ maxRows) (h2 : rs.length ≤ maxRows) (h3 : ∀ r ∈ rs, r.2.1.length ≤ maxRows) :
    Sp (fun n => auto_Valid.P (F n) (G n) n) (al, S, fin, rs) (fun r => r = true ↔ ValidA al (S, fin, rs)) := by
  obtain ⟨r, hr, he⟩ := hG al h0
  cases r
  · exact ⟨false, ⟨fun h => (by cases h), fun h => hr.mpr h.1⟩, he.mono fun n hn => by simp only [cond_true, Option.bind_some, Bool.not_false, auto_Valid.P, hn]⟩
  have hal := hr.mp rfl
  by_cases h4 : S < 0
  · exact ⟨false, ⟨fun h => (by cases h), fun h => absurd h.2.1 (by simp only; omega)⟩, he.mono fun n hn => by simp only [decide_true, cond_true, cond_false, Option.bind_some, Bool.not_true, auto_Valid.P, hn, h4]⟩
  by_cases h5 : 300 < S
  · exact ⟨false, ⟨fun h => (by cases h), fun h => absurd h.2.2.1 (by simp only; omega)⟩, he.mono fun n hn => by simp only [decide_true, decide_false, cond_true, cond_false, Option.bind_some, Bool.not_true, auto_Valid.P, hn, h4, h5]⟩
  by_cases h6 : 20000 < ((rs.length : Nat) : Int)
  · exact ⟨false, ⟨fun h => (by cases h), fun h => absurd h.2.2.2.1 (by simp only; omega)⟩, he.mono fun n hn => by simp only [decide_true, decide_false, cond_true, cond_false, Option.bind_some, Bool.not_true, auto_Valid.P, hn, h4, h5, h6]⟩
  obtain ⟨t1, ht1, he1⟩ := (auto_Valid_L1 hF al S fin rs h1).ev
  rcases ht1 with ⟨rfl, ht1⟩ | ⟨i, hi, hno, rfl⟩
  · obtain ⟨t2, ht2, he2⟩ := (auto_Valid_L3 hF al S fin rs h2 h3).ev
    rcases ht2 with ⟨rfl, ht2⟩ | ⟨i, hi, hno, rfl⟩
    · exact ⟨true, ⟨fun _ => ⟨hal, by simp only; omega, by simp only; omega, by simp only; omega, ht1, ht2⟩, fun _ => rfl⟩, (he.and (he1.and he2)).mono fun n hn => by simp only [decide_false, cond_false, Option.bind_some, Bool.not_true, auto_Valid.P, hn.1, h4, h5, h6, hn.2.1, hn.2.2]⟩
    · exact ⟨false, ⟨fun h => (by cases h), fun h => absurd (h.2.2.2.2.2 i hi) hno⟩, (he.and (he1.and he2)).mono fun n hn => by simp only [decide_false, cond_false, Option.bind_some, Bool.not_true, auto_Valid.P, hn.1, h4, h5, h6, hn.2.1, hn.2.2]⟩
  · exact ⟨false, ⟨fun h => (by cases h), fun h => absurd (h.2.2.2.2.1 i hi) hno⟩, (he.and he1).mono fun n hn => by simp only [decide_false, cond_false, Option.bind_some, Bool.not_true, auto_Valid.P, hn.1, h4, h5, h6, hn.2]⟩
end
/-! ref03.Valid -/
theorem ref03_Valid_L1 (al : List Int) (S : Int) (fin : List Int) (rs : List Rule) (hl : fin.length ≤ maxRows) :
    Lp (fun _ => ref03_Valid.L1) (al, S, fin, rs, fin, ((fin.length : Nat) : Int), (0 : Int)) (fun t => (t = .inl (al, S, fin, rs) ∧ ∀ i, i < fin.length → FinAt S fin i) ∨ ∃ i, i < fin.length ∧ ¬ FinAt S fin i ∧ t = .inr false) := by
  refine Lp.search fin.length (fun i => (al, S, fin, rs, fin, ((fin.length : Nat) : Int), (i : Int))) (FinAt S fin) (fun _ => Sum.inr false) (Sum.inl (al, S, fin, rs)) ?_ ?_
  · intro i hi
    by_cases h1 : fin[i] < 0
    · exact .inr ⟨fun h => absurd (h hi).1.1 (by omega), .all fun n k => by simp only [decide_true, cond_true, Option.bind_some, ref03_Valid.L1, lt_yes hi, nth_lt hi, h1]⟩
    by_cases h2 : S ≤ fin[i]
    · exact .inr ⟨fun h => absurd (h hi).1.2 (by omega), .all fun n k => by simp only [decide_true, decide_false, cond_true, cond_false, Option.bind_some, ref03_Valid.L1, lt_yes hi, nth_lt hi, h1, h2]⟩
    by_cases h0 : 0 < i
    · have h0' : (0 : Int) < (i : Int) := by omega
      have hp : i - 1 < fin.length := by omega
      by_cases h3 : fin[i] ≤ fin[i - 1]
      · exact .inr ⟨fun h => by have := (h hi).2 h0; omega, .all fun n k => by simp only [decide_true, decide_false, cond_true, cond_false, Option.bind_some, ref03_Valid.L1, lt_yes hi, nth_lt hi, h1, h2, h0', wrap_pred hi hl h0, nth_lt hp, h3]⟩
      · exact .inl ⟨fun _ => ⟨⟨by omega, by omega⟩, fun _ => by omega⟩, .all fun n k => by simp only [decide_true, decide_false, cond_true, cond_false, Option.bind_some, ref03_Valid.L1, lt_yes hi, nth_lt hi, h1, h2, h0', wrap_pred hi hl h0, nth_lt hp, h3, wrap_succ hi hl]⟩
    · have h0' : ¬ (0 : Int) < (i : Int) := by omega
      exact .inl ⟨fun _ => ⟨⟨by omega, by omega⟩, fun h => absurd h h0⟩, .all fun n k => by simp only [decide_true, decide_false, cond_true, cond_false, Option.bind_some, ref03_Valid.L1, lt_yes hi, nth_lt hi, h1, h2, h0', wrap_succ hi hl]⟩
  · exact .all fun n k => by simp only [decide_false, cond_false, Option.bind_some, lt_no, ref03_Valid.L1]
theorem ref03_Valid_L2 (al : List Int) (S : Int) (fin : List Int) (rs rs' : List Rule) (a b : Int) (l : List Int) (hl : l.length ≤ maxRows) :
    Lp (fun _ => ref03_Valid.L2) (al, S, fin, rs, rs', a, b, l, ((l.length : Nat) : Int), (0 : Int)) (fun t => (t = .inl (al, S, fin, rs, rs', a, b) ∧ ∀ i, i < l.length → FromAt S l i) ∨ ∃ i, i < l.length ∧ ¬ FromAt S l i ∧ t = .inr (.inr false)) := by
  refine Lp.search l.length (fun i => (al, S, fin, rs, rs', a, b, l, ((l.length : Nat) : Int), (i : Int))) (FromAt S l) (fun _ => Sum.inr (Sum.inr false)) (Sum.inl (al, S, fin, rs, rs', a, b)) ?_ ?_
  · intro i hi
    by_cases h1 : l[i] < 0
    · exact .inr ⟨fun h => absurd (h hi).1 (by omega), .all fun n k => by simp only [decide_true, cond_true, Option.bind_some, ref03_Valid.L2, lt_yes hi, nth_lt hi, h1]⟩
    by_cases h2 : S ≤ l[i]
    · exact .inr ⟨fun h => absurd (h hi).2 (by omega), .all fun n k => by simp only [decide_true, decide_false, cond_true, cond_false, Option.bind_some, ref03_Valid.L2, lt_yes hi, nth_lt hi, h1, h2]⟩
    · exact .inl ⟨fun _ => ⟨by omega, by omega⟩, .all fun n k => by simp only [decide_true, decide_false, cond_true, cond_false, Option.bind_some, ref03_Valid.L2, lt_yes hi, nth_lt hi, h1, h2, wrap_succ hi hl]⟩
  · exact .all fun n k => by simp only [decide_false, cond_false, Option.bind_some, lt_no, ref03_Valid.L2]
theorem ref03_Valid_L3 (al : List Int) (S : Int) (fin : List Int) (rs : List Rule) (hl : rs.length ≤ maxRows) (hr : ∀ r ∈ rs, r.2.1.length ≤ maxRows) :
    Lp ref03_Valid.L3 (al, S, fin, rs, rs, ((rs.length : Nat) : Int), (0 : Int)) (fun t => (t = .inl () ∧ ∀ i, i < rs.length → RuleAt al S rs i) ∨ ∃ i, i < rs.length ∧ ¬ RuleAt al S rs i ∧ t = .inr false) := by
  refine Lp.search rs.length (fun i => (al, S, fin, rs, rs, ((rs.length : Nat) : Int), (i : Int))) (RuleAt al S rs) (fun _ => Sum.inr false) (Sum.inl ()) ?_ ?_
  · intro i hi
    by_cases h1 : rs[i].1 < 0
    · exact .inr ⟨fun h => absurd (h hi).1 (by omega), .all fun n k => by simp only [decide_true, cond_true, Option.bind_some, ref03_Valid.L3, lt_yes hi, nth_lt hi, h1]⟩
    by_cases h2 : ((al.length : Nat) : Int) ≤ rs[i].1
    · exact .inr ⟨fun h => absurd (h hi).2.1 (by omega), .all fun n k => by simp only [decide_true, decide_false, cond_true, cond_false, Option.bind_some, ref03_Valid.L3, lt_yes hi, nth_lt hi, h1, h2]⟩
    have hx := nth_int (l := al) (z := rs[i].1) (by omega) (by omega)
    by_cases h3 : ((rs[i].2.1.length : Nat) : Int) = al[rs[i].1.toNat]'(by omega)
    · by_cases h4 : rs[i].2.2 < 0
      · exact .inr ⟨fun h => absurd (h hi).2.2.2.1.1 (by omega), .all fun n k => by simp only [decide_true, decide_false, cond_true, cond_false, Option.bind_some, Bool.not_true, ref03_Valid.L3, lt_yes hi, nth_lt hi, h1, h2, hx, h3, h4]⟩
      by_cases h5 : S ≤ rs[i].2.2
      · exact .inr ⟨fun h => absurd (h hi).2.2.2.1.2 (by omega), .all fun n k => by simp only [decide_true, decide_false, cond_true, cond_false, Option.bind_some, Bool.not_true, ref03_Valid.L3, lt_yes hi, nth_lt hi, h1, h2, hx, h3, h4, h5]⟩
      obtain ⟨t, ht, he2⟩ := (ref03_Valid_L2 al S fin rs rs ((rs.length : Nat) : Int) (i : Int) rs[i].2.1 (hr _ (List.getElem_mem hi))).ev
      rcases ht with ⟨rfl, ht⟩ | ⟨j, hj, hn, rfl⟩
      · exact .inl ⟨fun _ => ⟨by omega, by omega, fun _ => h3, ⟨by omega, by omega⟩, ht⟩, he2.mono fun n hn k => by rw [h3] at hn; simp only [decide_true, decide_false, cond_true, cond_false, Option.bind_some, Bool.not_true, ref03_Valid.L3, lt_yes hi, nth_lt hi, h1, h2, hx, h3, h4, h5, hn, wrap_succ hi hl]⟩
      · exact .inr ⟨fun h => hn ((h hi).2.2.2.2 j hj), he2.mono fun n hn k => by rw [h3] at hn; simp only [decide_true, decide_false, cond_true, cond_false, Option.bind_some, Bool.not_true, ref03_Valid.L3, lt_yes hi, nth_lt hi, h1, h2, hx, h3, h4, h5, hn]⟩
    · exact .inr ⟨fun h => h3 ((h hi).2.2.1 (by omega)), .all fun n k => by simp only [decide_true, decide_false, cond_true, cond_false, Option.bind_some, Bool.not_false, ref03_Valid.L3, lt_yes hi, nth_lt hi, h1, h2, hx, h3]⟩
  · exact .all fun n k => by simp only [decide_false, cond_false, Option.bind_some, lt_no, ref03_Valid.L3]
theorem sp_ref03_Valid {G : Nat → List Int → Option Bool} (hG : ∀ al, Sp G al (fun r => r = true ↔ AlOk al)) (al : List Int) (S : Int) (fin : List Int) (rs : List Rule) (h1 : fin.length ≤ maxRows) (h2 : rs.length ≤ maxRows) (h3 : ∀ r ∈ rs, r.2.1.length ≤ maxRows) :
    Sp (fun n => ref03_Valid.P (G n) n) (al, S, fin, rs) (fun r => r = true ↔ ValidA al (S, fin, rs)) := by
  obtain ⟨r, hr, he⟩ := hG al
  cases r
  · exact ⟨false, ⟨fun h => (by cases h), fun h => hr.mpr h.1⟩, he.mono fun n hn => by simp only [cond_true, Option.bind_some, Bool.not_false, ref03_Valid.P, hn]⟩
  have hal := hr.mp rfl
  by_cases h4 : S < 0
  · exact ⟨false, ⟨fun h => (by cases h), fun h => absurd h.2.1 (by simp only; omega)⟩, he.mono fun n hn => by simp only [decide_true, cond_true, cond_false, Option.bind_some, Bool.not_true, ref03_Valid.P, hn, h4]⟩
  by_cases h5 : 300 < S
  · exact ⟨false, ⟨fun h => (by cases h), fun h => absurd h.2.2.1 (by simp only; omega)⟩, he.mono fun n hn => by simp only [decide_true, decide_false, cond_true, cond_false, Option.bind_some, Bool.not_true, ref03_Valid.P, hn, h4, h5]⟩
  by_cases h6 : 20000 < ((rs.length : Nat) : Int)
  · exact ⟨false, ⟨fun h => (by cases h), fun h => absurd h.2.2.2.1 (by simp only; omega)⟩, he.mono fun n hn => by simp only [decide_true, decide_false, cond_true, cond_false, Option.bind_some, Bool.not_true, ref03_Valid.P, hn, h4, h5, h6]⟩
  obtain ⟨t1, ht1, he1⟩ := (ref03_Valid_L1 al S fin rs h1).ev
  rcases ht1 with ⟨rfl, ht1⟩ | ⟨i, hi, hno, rfl⟩
  · obtain ⟨t2, ht2, he2⟩ := (ref03_Valid_L3 al S fin rs h2 h3).ev
    rcases ht2 with ⟨rfl, ht2⟩ | ⟨i, hi, hno, rfl⟩
    · exact ⟨true, ⟨fun _ => ⟨hal, by simp only; omega, by simp only; omega, by simp only; omega, ht1, ht2⟩, fun _ => rfl⟩, (he.and (he1.and he2)).mono fun n hn => by simp only [decide_false, cond_false, Option.bind_some, Bool.not_true, ref03_Valid.P, hn.1, h4, h5, h6, hn.2.1, hn.2.2]⟩
    · exact ⟨false, ⟨fun h => (by cases h), fun h => absurd (h.2.2.2.2.2 i hi) hno⟩, (he.and (he1.and he2)).mono fun n hn => by simp only [decide_false, cond_false, Option.bind_some, Bool.not_true, ref03_Valid.P, hn.1, h4, h5, h6, hn.2.1, hn.2.2]⟩
  · exact ⟨false, ⟨fun h => (by cases h), fun h => absurd (h.2.2.2.2.1 i hi) hno⟩, (he.and he1).mono fun n hn => by simp only [decide_false, cond_false, Option.bind_some, Bool.not_true, ref03_Valid.P, hn.1, h4, h5, h6, hn.2]⟩
end Go.Bk
end
noncomputable section
namespace Go.Bk
open Go Go.AM
set_option linter.unusedVariables false
theorem len1 {α : Type} {a : α} : List.length [a] = 1 := rfl
theorem app_one {α : Type} {l : List α} {i : Nat} (h : i < l.length) : List.append (l.take i) [l[i]] = l.take (i + 1) := by
  show l.take i ++ [l[i]] = _
  rw [List.take_add_one]; simp [h]
/-! In -/
theorem sp_In (l : List Int) (v : Int) (hl : l.length ≤ maxRows) : Sp ref03_In.P (l, v) (fun r => r = true ↔ v ∈ l) := by
  have := Lp.search (L := fun _ => ref03_In.L1) l.length (fun i => (v, l, ((l.length : Nat) : Int), (i : Int))) (fun i => ∀ h : i < l.length, l[i] ≠ v) (fun _ => Sum.inr true) (Sum.inl ()) ?_ ?_
  · obtain ⟨t, ht, he⟩ := this.ev
    rcases ht with ⟨rfl, ht⟩ | ⟨i, hi, hn, rfl⟩
    · refine ⟨false, ⟨fun h => (by cases h), fun h => ?_⟩, he.mono fun n hn => congrArg (Option.bind · _) hn⟩
      obtain ⟨j, hj, rfl⟩ := List.getElem_of_mem h
      exact absurd rfl (ht j hj hj)
    · refine ⟨true, ⟨fun _ => ?_, fun _ => rfl⟩, he.mono fun n hn => congrArg (Option.bind · _) hn⟩
      have : l[i] = v := Classical.byContradiction fun h => hn fun _ => h
      exact this ▸ List.getElem_mem hi
  · intro i hi
    by_cases h : l[i] = v
    · exact .inr ⟨fun h' => h' hi h, .all fun n k => by simp only [decide_true, cond_true, Option.bind_some, ref03_In.L1, lt_yes hi, nth_lt hi, h]⟩
    · exact .inl ⟨fun _ => h, .all fun n k => by simp only [decide_true, decide_false, cond_true, cond_false, Option.bind_some, ref03_In.L1, lt_yes hi, nth_lt hi, h, wrap_succ hi hl]⟩
  · exact .all fun n k => by simp only [decide_false, cond_false, Option.bind_some, lt_no, ref03_In.L1]
/-! Insert -/
theorem sp_Insert (l : List Int) (v : Int) (hl : l.length + 1 ≤ maxRows) : Sp ref03_Insert.P (l, v) (fun r => (∀ y, y ∈ r ↔ y = v ∨ y ∈ l) ∧ r.length ≤ l.length + 1) := by
  have hL : Lp (fun _ => ref03_Insert.L1) (l, v, (0 : Int)) (fun t => ∃ i : Nat, i ≤ l.length ∧ t = (l, v, (i : Int))) := by
    refine Lp.range l.length (fun i s => s = (l, v, (i : Int))) ?_ ?_ _ rfl
    · rintro i s hi rfl
      by_cases h : l[i] < v
      · exact .inl ⟨_, rfl, .all fun n k => by simp only [decide_true, cond_true, Option.bind_some, ref03_Insert.L1, lt_yes hi, nth_lt hi, h, wrap_succ hi (m := l.length) (by omega)]⟩
      · exact .inr ⟨_, ⟨i, by omega, rfl⟩, .all fun n k => by simp only [decide_true, decide_false, cond_true, cond_false, Option.bind_some, ref03_Insert.L1, lt_yes hi, nth_lt hi, h]⟩
    · rintro s rfl
      exact .inr ⟨_, ⟨_, Nat.le_refl _, rfl⟩, .all fun n k => by simp only [decide_false, cond_false, Option.bind_some, lt_no, ref03_Insert.L1]⟩
  obtain ⟨t, ⟨i, hi, rfl⟩, he⟩ := hL.ev
  have h1 : ((0 : Int) ≤ (i : Int)) = True := eq_true (by omega)
  have h2 : ((i : Int) ≤ ((l.length : Nat) : Int)) = True := eq_true (by omega)
  have e1 : min i l.length ≤ maxRows := by omega
  have e2 : min i l.length + 1 ≤ maxRows := by omega
  have e3 : min i l.length + 1 + (l.length - i) ≤ maxRows := by omega
  have hm : ∀ y, y ∈ l.take i ++ v :: l.drop i ↔ y = v ∨ y ∈ l := by
    intro y
    have : y ∈ l ↔ y ∈ l.take i ∨ y ∈ l.drop i := by rw [← List.mem_append, List.take_append_drop]
    rw [this]; simp only [List.mem_append, List.mem_cons]
    constructor
    · rintro (h | h | h) <;> simp [h]
    · rintro (h | h | h) <;> simp [h]
  have hll : (l.take i ++ v :: l.drop i).length ≤ l.length + 1 := by
    simp only [List.length_append, List.length_take, List.length_drop, List.length_cons]; omega
  by_cases hlt : i < l.length
  · by_cases hv : l[i] = v
    · refine ⟨l, ⟨fun y => ⟨.inr, ?_⟩, by omega⟩, he.mono fun n hn => by simp only [decide_true, cond_true, Option.bind_some, ref03_Insert.P, hn, lt_yes hlt, nth_lt hlt, hv]⟩
      rintro (rfl | h)
      · exact hv ▸ List.getElem_mem hlt
      · exact h
    · refine ⟨_, ⟨hm, hll⟩, he.mono fun n hn => ?_⟩
      simp only [decide_true, decide_false, cond_true, cond_false, Option.bind_some, Bool.and_true, Bool.true_and, ref03_Insert.P, hn, lt_yes hlt, nth_lt hlt, hv, h1, h2]
      simp [Int.toNat_natCast, List.take_of_length_le]
      simp only [decide_true, cond_true, e1, e2, e3]
  · have hlt' : ((i : Int) < ((l.length : Nat) : Int)) = False := eq_false (by omega)
    refine ⟨_, ⟨hm, hll⟩, he.mono fun n hn => ?_⟩
    simp only [decide_true, decide_false, cond_false, Option.bind_some, Bool.and_true, Bool.true_and, ref03_Insert.P, hn, hlt', h1, h2]
    simp [Int.toNat_natCast, List.take_of_length_le]
    simp only [decide_true, cond_true, e1, e2, e3]
/-! Meet -/
theorem sp_Meet {F : Nat → List Int × Int → Option Bool} (hF : ∀ l v, l.length ≤ maxRows → Sp F (l, v) (fun r => r = true ↔ v ∈ l)) (l1 l2 : List Int) (h1 : l1.length ≤ maxRows) (h2 : l2.length ≤ maxRows) :
    Sp (fun n => ref03_Meet.P (F n) n) (l1, l2) (fun r => r = true ↔ ∃ q, q ∈ l1 ∧ q ∈ l2) := by
  have := Lp.search (L := fun n => ref03_Meet.L1 (F n)) l1.length (fun i => (l2, l1, ((l1.length : Nat) : Int), (i : Int))) (fun i => ∀ h : i < l1.length, ¬ l1[i] ∈ l2) (fun _ => Sum.inr true) (Sum.inl ()) ?_ ?_
  · obtain ⟨t, ht, he⟩ := this.ev
    rcases ht with ⟨rfl, ht⟩ | ⟨i, hi, hn, rfl⟩
    · refine ⟨false, ⟨fun h => (by cases h), fun h => ?_⟩, he.mono fun n hn => congrArg (Option.bind · _) hn⟩
      obtain ⟨q, hq, hq2⟩ := h
      obtain ⟨j, hj, rfl⟩ := List.getElem_of_mem hq
      exact absurd hq2 (ht j hj hj)
    · refine ⟨true, ⟨fun _ => ?_, fun _ => rfl⟩, he.mono fun n hn => congrArg (Option.bind · _) hn⟩
      exact ⟨l1[i], List.getElem_mem hi, Classical.byContradiction fun h => hn fun _ => h⟩
  · intro i hi
    obtain ⟨r, hr, he⟩ := hF l2 l1[i] h2
    cases r
    · exact .inl ⟨fun _ h => (by have := hr.mpr h; cases this), he.mono fun n hn k => by simp only [decide_true, cond_true, cond_false, Option.bind_some, ref03_Meet.L1, lt_yes hi, nth_lt hi, hn, wrap_succ hi h1]⟩
    · exact .inr ⟨fun h' => h' hi (hr.mp rfl), he.mono fun n hn k => by simp only [decide_true, cond_true, Option.bind_some, ref03_Meet.L1, lt_yes hi, nth_lt hi, hn]⟩
  · exact .all fun n k => by simp only [decide_false, cond_false, Option.bind_some, lt_no, ref03_Meet.L1]
/-! Copy -/
theorem sp_Copy {F : Nat → List Int → Option (List Int)} (hF : ∀ l : List Int, l.length ≤ maxRows → Sp F l (fun r => r = l)) (S : Int) (fin : List Int) (rs : List Rule) (h1 : fin.length ≤ maxRows) (h2 : rs.length ≤ maxRows) (h3 : ∀ r ∈ rs, r.2.1.length ≤ maxRows) :
    Sp (fun n => auto_Copy.P (F n) n) (S, fin, rs) (fun r => r = (S, fin, rs)) := by
  have hL : Lp (fun n => auto_Copy.L1 (F n)) ((0 : Int), ([] : List Int), ([] : List Rule), S, fin, ([] : List Rule), rs, ((rs.length : Nat) : Int), (0 : Int)) (fun t => t = ((0 : Int), ([] : List Int), ([] : List Rule), S, fin, rs)) := by
    refine Lp.range rs.length (fun i s => s = ((0 : Int), ([] : List Int), ([] : List Rule), S, fin, rs.take i, rs, ((rs.length : Nat) : Int), (i : Int))) ?_ ?_ _ rfl
    · rintro i s hi rfl
      obtain ⟨r, rfl, he⟩ := hF rs[i].2.1 (h3 _ (List.getElem_mem hi))
      refine .inl ⟨_, rfl, he.mono fun n hn k => ?_⟩
      have e : (rs.take i).length + 1 ≤ maxRows := by rw [List.length_take]; omega
      simp only [decide_true, cond_true, Option.bind_some, auto_Copy.L1, lt_yes hi, nth_lt hi, hn, len1, e, wrap_succ hi h2]
      rw [← app_one hi]
    · rintro s rfl
      exact .inr ⟨_, rfl, .all fun n k => by simp only [decide_false, cond_false, lt_no, auto_Copy.L1, List.take_length]⟩
  obtain ⟨r, rfl, he⟩ := hF fin h1
  obtain ⟨t, rfl, he2⟩ := hL.ev
  exact ⟨_, rfl, (he.and he2).mono fun n hn => by simp only [Option.bind_some, auto_Copy.P, hn.1, hn.2]⟩
/-! Final -/
theorem sp_Final (S : Int) (fin : List Int) (rs : List Rule) (h0 : 0 ≤ S) (hS : S ≤ 300) (h1 : fin.length ≤ maxRows) (hf : ∀ q ∈ fin, StOk S q) :
    Sp auto_Final.P (S, fin, rs) (fun r => ∀ q : Int, StOk S q → q < ((r.length : Nat) : Int) ∧ at? r q.toNat = some (decide (q ∈ fin))) := by
  have hL : Lp (fun _ => auto_Final.L1) (List.replicate S.toNat false, fin, ((fin.length : Nat) : Int), (0 : Int)) (fun r => r.length = S.toNat ∧ ∀ q : Nat, q < S.toNat → r[q]? = some (decide ((q : Int) ∈ fin))) := by
    refine Lp.range fin.length (fun i s => ∃ r : List Bool, s = (r, fin, ((fin.length : Nat) : Int), (i : Int)) ∧ r.length = S.toNat ∧ ∀ q : Nat, q < S.toNat → r[q]? = some (decide ((q : Int) ∈ fin.take i))) ?_ ?_ _ ⟨_, rfl, List.length_replicate, fun q hq => by simp [hq]⟩
    · rintro i s hi ⟨r, rfl, hl, hr⟩
      have hs := hf _ (List.getElem_mem hi)
      have a1 : ((0 : Int) ≤ fin[i]) = True := eq_true hs.1
      have a2 : (fin[i] < ((r.length : Nat) : Int)) = True := eq_true (by have := hs.2; have := hs.1; omega)
      have a3 : at? r fin[i].toNat = some (r[fin[i].toNat]'(by have := hs.2; have := hs.1; omega)) := List.getElem?_eq_getElem _
      refine .inl ⟨_, ⟨r.set fin[i].toNat true, rfl, by rw [List.length_set]; exact hl, fun q hq => ?_⟩, .all fun n k => ?_⟩
      · rw [List.getElem?_set]
        have e : (q : Int) ∈ fin.take (i + 1) ↔ (q : Int) ∈ fin.take i ∨ (q : Int) = fin[i] := by
          rw [show fin.take (i + 1) = fin.take i ++ [fin[i]] from (app_one hi).symm]; simp only [List.mem_append, List.mem_singleton]
        by_cases hq' : fin[i].toNat = q
        · have : (q : Int) = fin[i] := by have := hs.1; omega
          rw [if_pos hq', if_pos (by omega)]
          exact congrArg some (decide_eq_true (e.mpr (.inr this))).symm
        · have : ¬ (q : Int) = fin[i] := by omega
          rw [if_neg hq', hr q hq]
          congr 1
          exact decide_eq_decide.mpr ⟨fun h => e.mpr (.inl h), fun h => (e.mp h).resolve_right this⟩
      · simp only [decide_true, cond_true, Option.bind_some, Bool.and_true, auto_Final.L1, lt_yes hi, nth_lt hi, a1, a2, a3, wrap_succ hi h1]
    · rintro s ⟨r, rfl, hl, hr⟩
      exact .inr ⟨r, ⟨hl, fun q hq => by rw [hr q hq, List.take_length]⟩, .all fun n k => by simp only [decide_false, cond_false, lt_no, auto_Final.L1]⟩
  obtain ⟨r, ⟨hr1, hr2⟩, he⟩ := hL.ev
  have a1 : ((0 : Int) ≤ S) = True := eq_true h0
  have a2 : (S ≤ S) = True := eq_true (Int.le_refl _)
  have a3 : (S ≤ ((maxRows : Nat) : Int)) = True := eq_true (by have := maxRows_eq; omega)
  refine ⟨r, fun q hq => ⟨by have := hq.1; have := hq.2; omega, ?_⟩, he.mono fun n hn => by simp only [decide_true, cond_true, Option.bind_some, Bool.and_true, auto_Final.P, a1, a2, a3, hn]⟩
  have := hr2 q.toNat (by have := hq.1; have := hq.2; omega)
  rw [Int.toNat_of_nonneg hq.1] at this
  exact this
/-! Repeat -/
theorem mul_small (n : Nat) (k : Int) (h0 : 0 ≤ k) (h3 : k ≤ 3) : math_bits_Mul64.P n ((1 : Int), k) = some ((0 : Int), k) := by
  obtain rfl | rfl | rfl | rfl : k = 0 ∨ k = 1 ∨ k = 2 ∨ k = 3 := by omega
  all_goals kernel_rfl
theorem sp_Mul64 (k : Int) (h0 : 0 ≤ k) (h3 : k ≤ 3) : Sp math_bits_Mul64.P ((1 : Int), k) (fun r => r = ((0 : Int), k)) := ⟨_, rfl, .all fun n => mul_small n k h0 h3⟩
theorem sp_Mul {F : Nat → Int × Int → Option (Int × Int)} {a : Int × Int} {k : Int} (h : Sp F a (fun r => r = ((0 : Int), k))) : Sp (fun n => math_bits_Mul.P (F n) n) a (fun r => r = ((0 : Int), k)) := by
  obtain ⟨r, rfl, he⟩ := h
  exact ⟨_, rfl, he.mono fun n hn => by simp only [math_bits_Mul.P, hn, Option.bind_some]⟩
theorem repeat_small {F : Int × Int → Option (Int × Int)} (v k : Int) (h0 : 0 ≤ k) (h3 : k ≤ 3) (hF : F ((1 : Int), k) = some ((0 : Int), k)) (n : Nat) : slices_Repeat_int_int.P F (n + 8) ([v], k) = some (List.replicate k.toNat v) := by
  obtain rfl | rfl | rfl | rfl : k = 0 ∨ k = 1 ∨ k = 2 ∨ k = 3 := by omega
  all_goals (
    simp only [slices_Repeat_int_int.P, Int.reduceLT, Int.lt_irrefl, decide_false, cond_false, Option.bind_some, len1]
    rw [show IntKind.wrap .u64 ((1 : Nat) : Int) = 1 from rfl]
    first
      | rw [show IntKind.wrap .u64 0 = 0 from rfl, hF]
      | rw [show IntKind.wrap .u64 2 = 2 from rfl, hF]
      | rw [show IntKind.wrap .u64 3 = 3 from rfl, hF]
      | rw [show IntKind.wrap .u64 1 = 1 from rfl, hF]
    kernel_rfl)
theorem sp_Repeat {F : Nat → Int × Int → Option (Int × Int)} (hF : ∀ k : Int, 0 ≤ k → k ≤ 3 → Sp F ((1 : Int), k) (fun r => r = ((0 : Int), k))) (v k : Int) (h0 : 0 ≤ k) (h3 : k ≤ 3) :
    Sp (fun n => slices_Repeat_int_int.P (F n) n) ([v], k) (fun r => r = List.replicate k.toNat v) := by
  obtain ⟨r, rfl, N, hN⟩ := hF k h0 h3
  refine ⟨_, rfl, N + 8, fun n hn => ?_⟩
  obtain ⟨m, rfl⟩ : ∃ m, n = m + 8 := ⟨n - 8, by omega⟩
  exact repeat_small v k h0 h3 (hN (m + 8) (by omega)) m
end Go.Bk
end
noncomputable section
namespace Go.Bk
open Go Go.AM
set_option linter.unusedVariables false
theorem rt_eta (t : RT Int) : RT.mk t.a t.kids = t := by cases t; rfl
/-! shapes -/
inductive Shp (al : List Int) : RT Int → Prop
  | mk (a : Int) (ks : List (RT Int)) (h0 : 0 ≤ a) (h : al[a.toNat]? = some ((ks.length : Nat) : Int)) (hk : ∀ k, k ∈ ks → Shp al k) : Shp al (.mk a ks)
theorem Shp.nonneg {al : List Int} {a : Int} {ks : List (RT Int)} (h : Shp al (.mk a ks)) : 0 ≤ a := by cases h; assumption
theorem Shp.ar {al : List Int} {a : Int} {ks : List (RT Int)} (h : Shp al (.mk a ks)) : al[a.toNat]? = some ((ks.length : Nat) : Int) := by cases h; assumption
theorem Shp.kid {al : List Int} {a : Int} {ks : List (RT Int)} (h : Shp al (.mk a ks)) : ∀ k, k ∈ ks → Shp al k := by cases h; assumption
theorem nds_kid {a : Int} {ks : List (RT Int)} {k : RT Int} (h : k ∈ ks) : nds k ≤ nds (.mk a ks) := by
  have := ndss_mem h; simp only [nds]; omega
theorem nds_len {a : Int} {ks : List (RT Int)} : ks.length ≤ nds (.mk a ks) := by
  have := ndss_len ks; simp only [nds]; omega
theorem sp_shaped {F : Nat → List Int × Int × List (RT Int) → Option Bool} (hF : ∀ n x, F (n + 1) x = ref01_shaped.P (F n) n x) (al : List Int) (t : RT Int) :
    nds t ≤ maxRows → Sp F (al, t.a, t.kids) (fun r => r = true ↔ Shp al t) := by
  induction t using rt_ind with
  | h a ks ih =>
  intro hn
  have hk : ks.length ≤ maxRows := Nat.le_trans nds_len hn
  refine Sp.step (F := F) (G := fun n => ref01_shaped.P (F n) n) hF ?_
  simp only [RT.a, RT.kids]
  by_cases h1 : a < 0
  · exact ⟨false, ⟨fun h => (by cases h), fun h => absurd h.nonneg (by omega)⟩, .all fun n => by simp only [decide_true, cond_true, Option.bind_some, ref01_shaped.P, h1]⟩
  by_cases h2 : ((al.length : Nat) : Int) ≤ a
  · exact ⟨false, ⟨fun h => (by cases h), fun h => absurd h.ar (by rw [List.getElem?_eq_none (by omega)]; simp)⟩, .all fun n => by simp only [decide_true, decide_false, cond_true, cond_false, Option.bind_some, ref01_shaped.P, h1, h2]⟩
  have ha : a.toNat < al.length := by omega
  have hx := nth_int (l := al) (z := a) (by omega) (by omega)
  by_cases h3 : ((ks.length : Nat) : Int) = al[a.toNat]
  · have hL := Lp.search (L := fun n => ref01_shaped.L1 (F n)) ks.length (fun i => (al, ks, ((ks.length : Nat) : Int), (i : Int))) (fun i => ∀ h : i < ks.length, Shp al ks[i]) (fun _ => Sum.inr false) (Sum.inl ()) ?_ ?_
    · obtain ⟨t, ht, he⟩ := hL.ev
      have hx' : nth? al a = some ((ks.length : Nat) : Int) := by rw [hx, h3]
      have hh : ∀ n, ref01_shaped.P (F n) n (al, a, ks) = (loopN (ref01_shaped.L1 (F n)) n (al, ks, ((ks.length : Nat) : Int), (0 : Int))).bind fun q => match q with
          | Sum.inl _ => (some true)
          | Sum.inr r => some r := by
        intro n
        simp only [decide_true, decide_false, cond_false, Option.bind_some, Bool.not_true, ref01_shaped.P, h1, h2, hx'] <;> rfl
      rcases ht with ⟨rfl, ht⟩ | ⟨i, hi, hn', rfl⟩
      · refine ⟨true, ⟨fun _ => .mk _ _ (by omega) (by rw [List.getElem?_eq_getElem ha, h3]) fun k hk => ?_, fun _ => rfl⟩, he.mono fun n hn => ?_⟩
        · obtain ⟨j, hj, rfl⟩ := List.getElem_of_mem hk
          exact ht j hj hj
        · exact (hh n).trans (congrArg (Option.bind · _) hn)
      · refine ⟨false, ⟨fun h => (by cases h), fun h => absurd (fun _ => h.kid _ (List.getElem_mem hi)) hn'⟩, he.mono fun n hn => ?_⟩
        exact (hh n).trans (congrArg (Option.bind · _) hn)
    · intro i hi
      obtain ⟨r, hr, he⟩ := ih ks[i] (List.getElem_mem hi) (Nat.le_trans (nds_kid (List.getElem_mem hi)) hn)
      cases r
      · exact .inr ⟨fun h => (by have := hr.mpr (h hi); cases this), he.mono fun n hn k => by simp only [decide_true, cond_true, Option.bind_some, Bool.not_false, ref01_shaped.L1, lt_yes hi, nth_lt hi, hn]⟩
      · exact .inl ⟨fun _ => hr.mp rfl, he.mono fun n hn k => by simp only [decide_true, cond_true, cond_false, Option.bind_some, Bool.not_true, ref01_shaped.L1, lt_yes hi, nth_lt hi, hn, wrap_succ hi hk]⟩
    · exact .all fun n k => by simp only [decide_false, cond_false, Option.bind_some, lt_no, ref01_shaped.L1]
  · refine ⟨false, ⟨fun h => (by cases h), fun h => absurd h.ar ?_⟩, .all fun n => by simp only [decide_false, cond_true, cond_false, Option.bind_some, Bool.not_false, ref01_shaped.P, h1, h2, hx, h3]⟩
    rw [List.getElem?_eq_getElem ha]
    intro h; exact h3 (Option.some.inj h).symm
theorem sp_ref01_Valid {F : Nat → Int × List (RT Int) × Int → Option Bool} {G : Nat → List Int → Option Bool} {K : Nat → List Int × Int × List (RT Int) → Option Bool} {al : List Int} {t : RT Int} {R : Bool → Prop}
    (h1 : Sp F (t.a, t.kids, (300 : Int)) R) (h2 : Sp G al (fun r => r = true ↔ AlOk al)) (h3 : Sp K (al, t.a, t.kids) (fun r => r = true ↔ Shp al t)) :
    Sp (fun n => ref01_Valid.P (F n) (G n) (K n) n) (al, t.a, t.kids) (fun r => r = true → Shp al t) := by
  obtain ⟨r1, hr1, he1⟩ := h1
  obtain ⟨r2, hr2, he2⟩ := h2
  obtain ⟨r3, hr3, he3⟩ := h3
  cases r2
  · exact ⟨false, fun h => (by cases h), he2.mono fun n hn => by simp only [cond_false, Option.bind_some, ref01_Valid.P, hn]⟩
  cases r1
  · exact ⟨false, fun h => (by cases h), (he1.and he2).mono fun n hn => by simp only [cond_true, cond_false, Option.bind_some, ref01_Valid.P, hn.1, hn.2]⟩
  exact ⟨r3, hr3.mp, (he1.and (he2.and he3)).mono fun n hn => by simp only [cond_true, Option.bind_some, ref01_Valid.P, hn.1, hn.2.1, hn.2.2]⟩
/-! runs of automata -/
inductive Reach (rs : List Rule) : RT Int → Int → Prop
  | mk (r : Rule) (a : Int) (ks : List (RT Int)) (hr : r ∈ rs) (ha : r.1 = a) (hl : r.2.1.length = ks.length)
      (hk : ∀ (i : Nat) (k : RT Int) (f : Int), ks[i]? = some k → r.2.1[i]? = some f → Reach rs k f) : Reach rs (.mk a ks) r.2.2
theorem reach_iff {rs : List Rule} {a : Int} {ks : List (RT Int)} {q : Int} : Reach rs (.mk a ks) q ↔ ∃ r ∈ rs, r.1 = a ∧ r.2.2 = q ∧ r.2.1.length = ks.length ∧ ∀ (i : Nat) (k : RT Int) (f : Int), ks[i]? = some k → r.2.1[i]? = some f → Reach rs k f := by
  constructor
  · intro h
    cases h with
    | mk r _ _ hr ha hl hk => exact ⟨r, hr, ha, rfl, hl, hk⟩
  · rintro ⟨r, hr, ha, rfl, hl, hk⟩
    exact .mk r a ks hr ha hl hk
inductive Sub : RT Int → RT Int → Prop
  | refl (t) : Sub t t
  | kid (u k : RT Int) (a : Int) (ks : List (RT Int)) (hk : k ∈ ks) (h : Sub u k) : Sub u (.mk a ks)
theorem sub_iff {u : RT Int} {a : Int} {ks : List (RT Int)} : Sub u (.mk a ks) ↔ u = .mk a ks ∨ ∃ k ∈ ks, Sub u k := by
  constructor
  · intro h
    cases h with
    | refl => exact .inl rfl
    | kid k _ _ hk h => exact .inr ⟨k, hk, h⟩
  · rintro (rfl | ⟨k, hk, h⟩)
    · exact .refl _
    · exact .kid _ _ _ _ hk h
theorem Shp.sub {al : List Int} {u t : RT Int} (h : Sub u t) (hs : Shp al t) : Shp al u := by
  induction h with
  | refl => exact hs
  | kid k a ks hk h ih => exact ih (hs.kid k hk)
theorem nds_sub {u t : RT Int} (h : Sub u t) : nds u ≤ nds t := by
  induction h with
  | refl => omega
  | kid k a ks hk h ih => exact Nat.le_trans ih (nds_kid hk)
/-- Each rule has the arity of its letter. -/
def Ar (al : List Int) (rs : List Rule) : Prop := ∀ r ∈ rs, 0 ≤ r.1 ∧ al[r.1.toNat]? = some ((r.2.1.length : Nat) : Int)
def Fit (s : Int) (qs : List (List Int)) (r : Rule) : Prop := r.1 = s ∧ r.2.1.length = qs.length ∧ ∀ (i : Nat) (l : List Int) (f : Int), qs[i]? = some l → r.2.1[i]? = some f → f ∈ l
theorem sp_Step {F : Nat → List Int × Int → Option Bool} {G : Nat → List Int × Int → Option (List Int)}
    (hF : ∀ l v, l.length ≤ maxRows → Sp F (l, v) (fun r => r = true ↔ v ∈ l))
    (hG : ∀ (l : List Int) v, l.length + 1 ≤ maxRows → Sp G (l, v) (fun r => (∀ y, y ∈ r ↔ y = v ∨ y ∈ l) ∧ r.length ≤ l.length + 1))
    (S : Int) (fin : List Int) (rs : List Rule) (s : Int) (qs : List (List Int)) (h1 : rs.length + 1 ≤ maxRows) (h2 : qs.length ≤ maxRows) (h3 : ∀ l ∈ qs, l.length ≤ maxRows)
    (har : ∀ r ∈ rs, r.1 = s → r.2.1.length = qs.length) :
    Sp (fun n => ref03_Step.P (F n) (G n) n) (S, fin, rs, s, qs) (fun l => (∀ q, q ∈ l ↔ ∃ r ∈ rs, Fit s qs r ∧ r.2.2 = q) ∧ l.length ≤ rs.length) := by
  have inner : ∀ (acc : List Int) (i : Nat) (r : Rule), r ∈ rs → Lp (fun n => ref03_Step.L1 (F n)) (s, qs, acc, r.1, r.2.1, r.2.2, decide (r.1 = s), (0 : Int), rs, ((rs.length : Nat) : Int), (i : Int))
      (fun t => ∃ b : Bool, t = (s, qs, acc, r.1, r.2.1, r.2.2, b, rs, ((rs.length : Nat) : Int), (i : Int)) ∧ (b = true ↔ Fit s qs r)) := by
    intro acc i r hr
    refine Lp.range qs.length (fun j x => ∃ b : Bool, x = (s, qs, acc, r.1, r.2.1, r.2.2, b, (j : Int), rs, ((rs.length : Nat) : Int), (i : Int)) ∧ (b = true ↔ r.1 = s ∧ ∀ (i : Nat) (l : List Int) (f : Int), i < j → qs[i]? = some l → r.2.1[i]? = some f → f ∈ l)) ?_ ?_ _ ⟨_, rfl, ?_⟩
    · rintro j x hj ⟨b, rfl, hb⟩
      cases b
      · refine .inr ⟨_, ⟨false, rfl, ⟨fun h => (by cases h), fun h => ?_⟩⟩, .all fun n k => by simp only [cond_false, Option.bind_some, ref03_Step.L1]⟩
        exact hb.mpr ⟨h.1, fun i l f _ hl hf => h.2.2 i l f hl hf⟩
      · have hb' := hb.mp rfl
        have hl := har r hr hb'.1
        have hj' : j < r.2.1.length := by omega
        obtain ⟨v, hv, he⟩ := hF qs[j] r.2.1[j] (h3 _ (List.getElem_mem hj))
        refine .inl ⟨_, ⟨v, rfl, hv.trans ⟨fun h => ⟨hb'.1, fun i l f hi hl hf => ?_⟩, fun h => h.2 j _ _ (by omega) (List.getElem?_eq_getElem hj) (List.getElem?_eq_getElem hj')⟩⟩, he.mono fun n hn k => by simp only [decide_true, cond_true, Option.bind_some, ref03_Step.L1, lt_yes hj, nth_lt hj, nth_lt hj', hn, wrap_succ hj h2]⟩
        rcases Nat.lt_or_eq_of_le (Nat.le_of_lt_succ hi) with hi | rfl
        · exact hb'.2 i l f hi hl hf
        · rw [List.getElem?_eq_getElem hj] at hl
          rw [List.getElem?_eq_getElem hj'] at hf
          cases hl; cases hf; exact h
    · rintro x ⟨b, rfl, hb⟩
      refine .inr ⟨_, ⟨b, rfl, hb.trans ⟨fun h => ⟨h.1, har r hr h.1, fun i l f hl hf => h.2 i l f ?_ hl hf⟩, fun h => ⟨h.1, fun i l f _ hl hf => h.2.2 i l f hl hf⟩⟩⟩, .all fun n k => by cases b <;> simp only [decide_false, cond_true, cond_false, Option.bind_some, lt_no, ref03_Step.L1]⟩
      exact (List.getElem?_eq_some_iff.mp hl).1
    · rw [decide_eq_true_iff]
      exact ⟨fun h => ⟨h, fun i l f hi => absurd hi (by omega)⟩, fun h => h.1⟩
  have outer : Lp (fun n => ref03_Step.L2 (F n) n (G n)) (s, qs, ([] : List Int), rs, ((rs.length : Nat) : Int), (0 : Int)) (fun l => (∀ q, q ∈ l ↔ ∃ r ∈ rs, Fit s qs r ∧ r.2.2 = q) ∧ l.length ≤ rs.length) := by
    refine Lp.range rs.length (fun i x => ∃ acc : List Int, x = (s, qs, acc, rs, ((rs.length : Nat) : Int), (i : Int)) ∧ (∀ q, q ∈ acc ↔ ∃ r ∈ rs.take i, Fit s qs r ∧ r.2.2 = q) ∧ acc.length ≤ i) ?_ ?_ _ ⟨[], rfl, fun q => by simp, Nat.le_refl _⟩
    · rintro i x hi ⟨acc, rfl, hacc, hlen⟩
      obtain ⟨t, ⟨b, rfl, hb⟩, he⟩ := (inner acc i rs[i] (List.getElem_mem hi)).ev
      have e : rs.take (i + 1) = rs.take i ++ [rs[i]] := (app_one hi).symm
      cases b
      · refine .inl ⟨_, ⟨acc, rfl, fun q => (hacc q).trans ?_, by omega⟩, he.mono fun n hn k => by simp only [decide_true, cond_true, cond_false, Option.bind_some, ref03_Step.L2, lt_yes hi, nth_lt hi, hn, wrap_succ hi (m := rs.length) (by omega)]⟩
        rw [e]
        constructor
        · rintro ⟨r, hr, h⟩; exact ⟨r, List.mem_append_left _ hr, h⟩
        · rintro ⟨r, hr, h⟩
          rcases List.mem_append.mp hr with hr | hr
          · exact ⟨r, hr, h⟩
          · obtain rfl := List.mem_singleton.mp hr
            exact absurd (hb.mpr h.1) (by simp)
      · obtain ⟨acc', ⟨hm, hl'⟩, he'⟩ := hG acc rs[i].2.2 (by omega)
        refine .inl ⟨_, ⟨acc', rfl, fun q => (hm q).trans ?_, by omega⟩, (he.and he').mono fun n hn k => by simp only [decide_true, cond_true, Option.bind_some, ref03_Step.L2, lt_yes hi, nth_lt hi, hn.1, hn.2, wrap_succ hi (m := rs.length) (by omega)]⟩
        rw [e, hacc]
        constructor
        · rintro (rfl | ⟨r, hr, h⟩)
          · exact ⟨rs[i], List.mem_append_right _ (List.mem_singleton.mpr rfl), hb.mp rfl, rfl⟩
          · exact ⟨r, List.mem_append_left _ hr, h⟩
        · rintro ⟨r, hr, h⟩
          rcases List.mem_append.mp hr with hr | hr
          · exact .inr ⟨r, hr, h⟩
          · obtain rfl := List.mem_singleton.mp hr
            exact .inl h.2.symm
    · rintro x ⟨acc, rfl, hacc, hlen⟩
      exact .inr ⟨_, ⟨fun q => by rw [hacc, List.take_length], hlen⟩, .all fun n k => by simp only [decide_false, cond_false, lt_no, ref03_Step.L2]⟩
  obtain ⟨t, ht, he⟩ := outer.ev
  exact ⟨t, ht, he.mono fun n hn => by simp only [ref03_Step.P, hn, Option.bind_some]⟩
theorem sp_Of {F : Nat → Int × List Int × List Rule × Int × List (RT Int) → Option (List Int)} {G : Nat → Int × List Int × List Rule × Int × List (List Int) → Option (List Int)}
    (hF : ∀ n x, F (n + 1) x = ref03_Of.P (F n) (G n) n x) (al : List Int) (S : Int) (fin : List Int) (rs : List Rule) (h1 : rs.length + 1 ≤ maxRows) (har : Ar al rs)
    (hG : ∀ s (qs : List (List Int)), qs.length ≤ maxRows → (∀ l ∈ qs, l.length ≤ maxRows) → (∀ r ∈ rs, r.1 = s → r.2.1.length = qs.length) → Sp G (S, fin, rs, s, qs) (fun l => (∀ q, q ∈ l ↔ ∃ r ∈ rs, Fit s qs r ∧ r.2.2 = q) ∧ l.length ≤ rs.length))
    (t : RT Int) : nds t ≤ maxRows → Shp al t → Sp F (S, fin, rs, t.a, t.kids) (fun l => (∀ q, q ∈ l ↔ Reach rs t q) ∧ l.length ≤ rs.length) := by
  induction t using rt_ind with
  | h a ks ih =>
  intro hn hs
  have hk : ks.length ≤ maxRows := Nat.le_trans nds_len hn
  refine Sp.step (F := F) (G := fun n => ref03_Of.P (F n) (G n) n) hF ?_
  simp only [RT.a, RT.kids]
  have hL : Lp (fun n => ref03_Of.L1 (F n)) (S, fin, rs, a, ks, ([] : List (List Int)), ks, ((ks.length : Nat) : Int), (0 : Int))
      (fun x => ∃ qs : List (List Int), x = (S, fin, rs, a, ks, qs) ∧ qs.length = ks.length ∧ ∀ (j : Nat) (k : RT Int) (l : List Int), ks[j]? = some k → qs[j]? = some l → (∀ q, q ∈ l ↔ Reach rs k q) ∧ l.length ≤ rs.length) := by
    refine Lp.range ks.length (fun i x => ∃ qs : List (List Int), x = (S, fin, rs, a, ks, qs, ks, ((ks.length : Nat) : Int), (i : Int)) ∧ qs.length = i ∧ ∀ (j : Nat) (k : RT Int) (l : List Int), ks[j]? = some k → qs[j]? = some l → (∀ q, q ∈ l ↔ Reach rs k q) ∧ l.length ≤ rs.length) ?_ ?_ _ ⟨[], rfl, rfl, fun j k l _ h => by simp at h⟩
    · rintro i x hi ⟨qs, rfl, hq, hqs⟩
      obtain ⟨r, hr, he⟩ := ih ks[i] (List.getElem_mem hi) (Nat.le_trans (nds_kid (List.getElem_mem hi)) hn) (hs.kid _ (List.getElem_mem hi))
      have e : qs.length + 1 ≤ maxRows := by omega
      refine .inl ⟨_, ⟨qs ++ [r], rfl, by simp [hq], fun j k l hk hl => ?_⟩, he.mono fun n hn k => by simp only [decide_true, cond_true, Option.bind_some, ref03_Of.L1, lt_yes hi, nth_lt hi, hn, len1, e, wrap_succ hi hk]; rfl⟩
      rw [List.getElem?_append] at hl
      split at hl
      · exact hqs j k l hk hl
      · have hj : j = i := by
          have := (List.getElem?_eq_some_iff.mp hl).1
          simp at this; omega
        subst hj
        rw [List.getElem?_eq_getElem hi] at hk
        have : l = r := by simpa [hq] using hl.symm
        cases hk; rw [this]; exact hr
    · rintro x ⟨qs, rfl, hq, hqs⟩
      exact .inr ⟨_, ⟨qs, rfl, hq, hqs⟩, .all fun n k => by simp only [decide_false, cond_false, lt_no, ref03_Of.L1]⟩
  obtain ⟨x, ⟨qs, rfl, hq, hqs⟩, he⟩ := hL.ev
  have hkid : ∀ j (hj : j < ks.length), ∃ l, qs[j]? = some l := fun j hj => ⟨_, List.getElem?_eq_getElem (by omega)⟩
  obtain ⟨r, ⟨hr, hr'⟩, he2⟩ := hG a qs (by omega) (fun l hl => by
    obtain ⟨j, hj, rfl⟩ := List.getElem_of_mem hl
    have := (hqs j _ _ (List.getElem?_eq_getElem (by omega)) (List.getElem?_eq_getElem hj)).2
    omega) (fun r hr ha => by
    have h := (har r hr).2
    rw [ha, hs.ar] at h
    have := Option.some.inj h
    omega)
  refine ⟨r, ⟨fun q => ?_, hr'⟩, (he.and he2).mono fun n hn => by simp only [ref03_Of.P, hn.1, hn.2, Option.bind_some]⟩
  rw [hr, reach_iff]
  constructor
  · rintro ⟨r, hrm, ⟨ha, hl, hf⟩, rfl⟩
    refine ⟨r, hrm, ha, rfl, by omega, fun i k f hk' hf' => ?_⟩
    obtain ⟨l, hl'⟩ := hkid i (List.getElem?_eq_some_iff.mp hk').1
    exact ((hqs i k l hk' hl').1 f).mp (hf i l f hl' hf')
  · rintro ⟨r, hrm, ha, rfl, hl, hf⟩
    refine ⟨r, hrm, ⟨ha, by omega, fun i l f hl' hf' => ?_⟩, rfl⟩
    have hi : i < ks.length := by have := (List.getElem?_eq_some_iff.mp hl').1; omega
    exact ((hqs i _ l (List.getElem?_eq_getElem hi) hl').1 f).mpr (hf i _ f (List.getElem?_eq_getElem hi) hf')
def Acc (rs : List Rule) (fin : List Int) (t : RT Int) : Prop := ∃ q, Reach rs t q ∧ q ∈ fin
theorem sp_Has {F : Nat → List Int × List Int → Option Bool} {G : Nat → Int × List Int × List Rule × Int × List (RT Int) → Option (List Int)} {S : Int} {fin : List Int} {rs : List Rule} {t : RT Int}
    (h1 : rs.length ≤ maxRows) (h2 : fin.length ≤ maxRows)
    (hF : ∀ l1 l2 : List Int, l1.length ≤ maxRows → l2.length ≤ maxRows → Sp F (l1, l2) (fun r => r = true ↔ ∃ q, q ∈ l1 ∧ q ∈ l2))
    (hG : Sp G (S, fin, rs, t.a, t.kids) (fun l => (∀ q, q ∈ l ↔ Reach rs t q) ∧ l.length ≤ rs.length)) :
    Sp (fun n => ref03_Has.P (F n) (G n) n) (S, fin, rs, t.a, t.kids) (fun r => r = true ↔ Acc rs fin t) := by
  obtain ⟨l, ⟨hl, hl'⟩, he⟩ := hG
  obtain ⟨r, hr, he2⟩ := hF l fin (by omega) h2
  refine ⟨r, hr.trans ?_, (he.and he2).mono fun n hn => by simp only [ref03_Has.P, hn.1, hn.2, Option.bind_some]⟩
  simp only [hl, Acc]
theorem sp_right {F : Nat → Int × List Int × List Rule × Int × List (RT Int) → Option Bool} {al : List Int} {S : Int} {fin : List Int} {rs : List Rule} {t : RT Int} {b : Bool} {P : Prop}
    (h : Sp F (S, fin, rs, t.a, t.kids) (fun r => r = true ↔ P)) (hb : b = true ↔ P) :
    Sp (fun n => law05_right.P (F n) n) (al, S, fin, rs, t.a, t.kids, b) (fun r => r = true) := by
  obtain ⟨r, hr, he⟩ := h
  refine ⟨r == b, ?_, he.mono fun n hn => by simp only [law05_right.P, hn, Option.bind_some]⟩
  have : r = b := by cases r <;> cases b <;> simp_all
  simp [this]
end Go.Bk
end
noncomputable section
namespace Go.Bk
open Go Go.AM
set_option linter.unusedVariables false
/-! places in a tree -/
def look : RT Int → List Int → Option (RT Int)
  | t, [] => some t
  | t, i :: p => (nth? t.kids i).bind fun k => look k p
theorem look_at {a : Int} {ks : List (RT Int)} {i : Nat} (h : i < ks.length) (p : List Int) : look (.mk a ks) ((i : Int) :: p) = look ks[i] p := by
  show (nth? ks (i : Int)).bind _ = _
  rw [nth_lt h]; rfl
theorem ndss_take {ks : List (RT Int)} {i : Nat} (h : i < ks.length) : ndss (ks.take (i + 1)) = ndss (ks.take i) + nds ks[i] := by
  induction ks generalizing i with
  | nil => simp at h
  | cons k ks ih =>
    cases i with
    | zero => simp [ndss]
    | succ i =>
      simp only [List.take_succ_cons, ndss, List.getElem_cons_succ]
      rw [ih (by simpa using h)]; omega
theorem ndss_take_le (ks : List (RT Int)) (i : Nat) : ndss (ks.take i) ≤ ndss ks := by
  induction ks generalizing i with
  | nil => simp [ndss]
  | cons k ks ih =>
    cases i with
    | zero => simp [ndss]
    | succ i => simp only [List.take_succ_cons, ndss]; have := ih i; omega
def PlacesOk (t : RT Int) (l : List (List Int)) : Prop :=
  (∀ p ∈ l, (∃ u, look t p = some u ∧ Sub u t) ∧ p.length ≤ nds t) ∧ (∀ u, Sub u t → ∃ p ∈ l, look t p = some u) ∧ l.length ≤ nds t
theorem places_L1 (acc : List (List Int)) (i : Int) (ks : List (RT Int)) (c d : Int) (l : List (List Int)) (h1 : acc.length + l.length ≤ maxRows) (h2 : ∀ p ∈ l, p.length + 1 ≤ maxRows) :
    Lp (fun _ => ref01_Places.L1) (acc, i, ks, c, d, l, ((l.length : Nat) : Int), (0 : Int)) (fun t => t = (acc ++ l.map (i :: ·), ks, c, d)) := by
  refine Lp.range l.length (fun j x => x = (acc ++ (l.take j).map (i :: ·), i, ks, c, d, l, ((l.length : Nat) : Int), (j : Int))) ?_ ?_ _ (by simp)
  · rintro j x hj rfl
    have a1 : ((0 : Int) ≤ (j : Int)) = True := eq_true (by omega)
    have a3 : at? l (Int.toNat (j : Int)) = some l[j] := List.getElem?_eq_getElem hj
    have a4 : 1 + l[j].length ≤ maxRows := by have := h2 _ (List.getElem_mem hj); omega
    have a5 : (acc ++ (l.take j).map (i :: ·)).length + 1 ≤ maxRows := by simp only [List.length_append, List.length_map, List.length_take]; omega
    refine .inl ⟨_, rfl, .all fun n k => ?_⟩
    simp only [decide_true, cond_true, Option.bind_some, Bool.and_true, ref01_Places.L1, lt_yes hj, a1, a3, len1, a4, a5, wrap_succ hj (m := l.length) (by omega)]
    congr 2
    show (acc ++ (l.take j).map (i :: ·)) ++ [[i] ++ l[j]] = _
    rw [← app_one hj]
    show _ = acc ++ (l.take j ++ [l[j]]).map (i :: ·)
    simp only [List.map_append, List.append_assoc]; rfl
  · rintro x rfl
    refine .inr ⟨_, rfl, .all fun n k => ?_⟩
    simp only [decide_false, cond_false, Bool.and_false, lt_no, ref01_Places.L1, List.take_length]
theorem sp_Places {F : Nat → Int × List (RT Int) → Option (List (List Int))} (hF : ∀ n x, F (n + 1) x = ref01_Places.P (F n) n x) (t : RT Int) :
    nds t + 1 ≤ maxRows → Sp F (t.a, t.kids) (PlacesOk t) := by
  induction t using rt_ind with
  | h a ks ih =>
  intro hn
  have hk : ks.length ≤ maxRows := by have := nds_len (a := a) (ks := ks); omega
  refine Sp.step (F := F) (G := fun n => ref01_Places.P (F n) n) hF ?_
  simp only [RT.a, RT.kids]
  have hL : Lp (fun n => ref01_Places.L2 (F n) n) ([([] : List Int)], ks, ((ks.length : Nat) : Int), (0 : Int)) (PlacesOk (.mk a ks)) := by
    refine Lp.range ks.length (fun i x => ∃ acc : List (List Int), x = (acc, ks, ((ks.length : Nat) : Int), (i : Int)) ∧
      (∀ p ∈ acc, (∃ u, look (.mk a ks) p = some u ∧ Sub u (.mk a ks)) ∧ p.length ≤ nds (.mk a ks)) ∧ (∀ u, (u = .mk a ks ∨ ∃ k ∈ ks.take i, Sub u k) → ∃ p ∈ acc, look (.mk a ks) p = some u) ∧ acc.length ≤ ndss (ks.take i) + 1) ?_ ?_ _ ⟨[[]], rfl, ?_, ?_, by simp⟩
    · rintro i x hi ⟨acc, rfl, hA, hB, hC⟩
      have hm := List.getElem_mem hi
      have hsz := nds_kid (a := a) hm
      obtain ⟨r, ⟨hr1, hr2, hr3⟩, he⟩ := ih ks[i] hm (by omega)
      have ht := ndss_take hi
      have ht2 := ndss_take_le ks (i + 1)
      have hnd : nds (.mk a ks) = ndss ks + 1 := by simp only [nds]
      obtain ⟨y, rfl, he2⟩ := (places_L1 acc (i : Int) ks ((ks.length : Nat) : Int) (i : Int) r (by omega) (fun p hp => by have := (hr1 p hp).2; omega)).ev
      refine .inl ⟨_, ⟨acc ++ r.map ((i : Int) :: ·), rfl, fun p hp => ?_, fun u hu => ?_, ?_⟩, (he.and he2).mono fun n hn k => by simp only [decide_true, cond_true, Option.bind_some, ref01_Places.L2, lt_yes hi, nth_lt hi, hn.1, hn.2, wrap_succ hi hk]⟩
      · rcases List.mem_append.mp hp with hp | hp
        · exact hA p hp
        · obtain ⟨p', hp', rfl⟩ := List.mem_map.mp hp
          obtain ⟨⟨u, hu, hs⟩, hl⟩ := hr1 p' hp'
          have := ndss_mem hm
          exact ⟨⟨u, by rw [look_at hi]; exact hu, .kid _ _ _ _ hm hs⟩, by simp only [List.length_cons]; omega⟩
      · have hu' : (u = .mk a ks ∨ ∃ k ∈ ks.take i, Sub u k) ∨ Sub u ks[i] := by
          rcases hu with h | ⟨k, hk, h⟩
          · exact .inl (.inl h)
          · rw [← app_one hi] at hk
            rcases List.mem_append.mp hk with hk | hk
            · exact .inl (.inr ⟨k, hk, h⟩)
            · obtain rfl := List.mem_singleton.mp hk; exact .inr h
        rcases hu' with h | h
        · obtain ⟨p, hp, hl⟩ := hB u h
          exact ⟨p, List.mem_append_left _ hp, hl⟩
        · obtain ⟨p, hp, hl⟩ := hr2 u h
          exact ⟨(i : Int) :: p, List.mem_append_right _ (List.mem_map.mpr ⟨p, hp, rfl⟩), by rw [look_at hi]; exact hl⟩
      · simp only [List.length_append, List.length_map]; omega
    · rintro x ⟨acc, rfl, hA, hB, hC⟩
      refine .inr ⟨acc, ⟨hA, fun u hu => hB u ?_, ?_⟩, .all fun n k => by simp only [decide_false, cond_false, lt_no, ref01_Places.L2]⟩
      · rw [List.take_length]; exact sub_iff.mp hu
      · rw [List.take_length] at hC; simp only [nds]; omega
    · intro p hp
      obtain rfl := List.mem_singleton.mp hp
      exact ⟨⟨_, rfl, .refl _⟩, by simp⟩
    · intro u hu
      rcases hu with rfl | ⟨k, hk, _⟩
      · exact ⟨[], List.mem_singleton.mpr rfl, rfl⟩
      · simp at hk
  obtain ⟨r, hr, he⟩ := hL.ev
  exact ⟨r, hr, he.mono fun n hn => by simp only [ref01_Places.P, hn, Option.bind_some]⟩
theorem sp_Find (t u : RT Int) (p : List Int) (hp : p.length ≤ maxRows) (h : look t p = some u) : Sp ref01_Find.P (t.a, t.kids, p) (fun r => r = (u.a, u.kids, true)) := by
  have hL : Lp (fun _ => ref01_Find.L1) (t.a, t.kids, (0 : Int), ([] : List (RT Int)), p, ((p.length : Nat) : Int), (0 : Int)) (fun x => x = Sum.inl (u.a, u.kids, (0 : Int), ([] : List (RT Int)))) := by
    refine Lp.range p.length (fun i x => ∃ v : RT Int, x = (v.a, v.kids, (0 : Int), ([] : List (RT Int)), p, ((p.length : Nat) : Int), (i : Int)) ∧ look v (p.drop i) = some u) ?_ ?_ _ ⟨t, rfl, h⟩
    · rintro i x hi ⟨v, rfl, hv⟩
      rw [List.drop_eq_getElem_cons hi] at hv
      have hv' : (nth? v.kids p[i]).bind (fun k => look k (p.drop (i + 1))) = some u := hv
      cases hk : nth? v.kids p[i] with
      | none => rw [hk] at hv'; cases hv'
      | some k =>
        rw [hk] at hv'
        have h0 : ¬ p[i] < 0 := by
          intro h0
          simp only [nth?] at hk
          rw [decide_eq_false (by omega)] at hk; cases hk
        have h1 : ¬ ((v.kids.length : Nat) : Int) ≤ p[i] := by
          intro h1
          simp only [nth?] at hk
          rw [decide_eq_true (by omega : 0 ≤ p[i]), List.getElem?_eq_none (by omega)] at hk; cases hk
        exact .inl ⟨_, ⟨k, rfl, hv'⟩, .all fun n k' => by simp only [decide_true, decide_false, cond_true, cond_false, Option.bind_some, ref01_Find.L1, lt_yes hi, nth_lt hi, h0, h1, hk, wrap_succ hi hp]⟩
    · rintro x ⟨v, rfl, hv⟩
      rw [List.drop_length] at hv
      obtain rfl : v = u := Option.some.inj hv
      exact .inr ⟨_, rfl, .all fun n k => by simp only [decide_false, cond_false, Option.bind_some, lt_no, ref01_Find.L1]⟩
  obtain ⟨x, rfl, he⟩ := hL.ev
  exact ⟨_, rfl, he.mono fun n hn => by simp only [ref01_Find.P, hn, Option.bind_some]⟩
theorem sp_Beneath {F : Nat → Int × List (RT Int) × List Int → Option (Int × List (RT Int) × Bool)} {G : Nat → Int × List (RT Int) → Option (List (List Int))} {K : Nat → Int × List Int × List Rule × Int × List (RT Int) → Option Bool}
    {S : Int} {fin : List Int} {rs : List Rule} {s : Int} {t : RT Int} (hn : nds t + 1 ≤ maxRows)
    (hF : ∀ u p, p.length ≤ maxRows → look t p = some u → Sp F (t.a, t.kids, p) (fun r => r = (u.a, u.kids, true)))
    (hG : Sp G (t.a, t.kids) (PlacesOk t))
    (hK : ∀ u, Sub u t → Sp K (S, fin, rs, u.a, u.kids) (fun r => r = true ↔ Acc rs fin u)) :
    Sp (fun n => ref05_Beneath.P (F n) (G n) (K n) n) (S, fin, rs, s, t.a, t.kids) (fun r => r = true ↔ ∃ u, Sub u t ∧ u.a = s ∧ Acc rs fin u) := by
  obtain ⟨l, ⟨hl1, hl2, hl3⟩, he⟩ := hG
  have hL := Lp.search (L := fun n => ref05_Beneath.L1 (F n) (K n)) l.length (fun i => (s, S, fin, rs, t.a, t.kids, l, ((l.length : Nat) : Int), (i : Int))) (fun i => ∀ (h : i < l.length) u, look t l[i] = some u → ¬ (u.a = s ∧ Acc rs fin u)) (fun _ => Sum.inr true) (Sum.inl ()) ?_ ?_
  · obtain ⟨x, hx, he2⟩ := hL.ev
    rcases hx with ⟨rfl, hx⟩ | ⟨i, hi, hno, rfl⟩
    · refine ⟨false, ⟨fun h => (by cases h), ?_⟩, (he.and he2).mono fun n hn => ?_⟩
      · rintro ⟨u, hu, hs, ha⟩
        obtain ⟨p, hp, hpu⟩ := hl2 u hu
        obtain ⟨j, hj, rfl⟩ := List.getElem_of_mem hp
        exact absurd ⟨hs, ha⟩ (hx j hj hj u hpu)
      · simp only [ref05_Beneath.P, hn.1, Option.bind_some]
        exact congrArg (Option.bind · _) hn.2
    · refine ⟨true, ⟨fun _ => ?_, fun _ => rfl⟩, (he.and he2).mono fun n hn => ?_⟩
      · obtain ⟨⟨u, hu, hs⟩, _⟩ := hl1 _ (List.getElem_mem hi)
        refine ⟨u, hs, Classical.byContradiction fun h => hno fun hi u' hu' => ?_⟩
        rw [hu] at hu'; cases hu'; exact h
      · simp only [ref05_Beneath.P, hn.1, Option.bind_some]
        exact congrArg (Option.bind · _) hn.2
  · intro i hi
    obtain ⟨⟨u, hu, hs⟩, hlen⟩ := hl1 _ (List.getElem_mem hi)
    have a1 : ((0 : Int) ≤ (i : Int)) = True := eq_true (by omega)
    have a3 : at? l (Int.toNat (i : Int)) = some l[i] := List.getElem?_eq_getElem hi
    obtain ⟨r, rfl, he1⟩ := hF u l[i] (by omega) hu
    by_cases h : u.a = s
    · obtain ⟨r, hr, he2⟩ := hK u hs
      cases r
      · refine .inl ⟨fun _ u' hu' h' => ?_, (he1.and he2).mono fun n hn k => by have h2 := hn.2; rw [h] at h2; simp only [decide_true, cond_true, cond_false, Option.bind_some, Bool.and_true, ref05_Beneath.L1, lt_yes hi, a1, a3, hn.1, h2, h, wrap_succ hi (m := l.length) (by omega)]⟩
        rw [hu] at hu'; cases hu'
        have := hr.mpr h'.2; cases this
      · refine .inr ⟨fun h' => h' hi u hu ⟨h, hr.mp rfl⟩, (he1.and he2).mono fun n hn k => ?_⟩
        have h2 := hn.2
        rw [h] at h2
        simp only [decide_true, cond_true, Option.bind_some, Bool.and_true, ref05_Beneath.L1, lt_yes hi, a1, a3, hn.1, h2, h]
    · refine .inl ⟨fun _ u' hu' h' => ?_, he1.mono fun n hn k => by simp only [decide_true, decide_false, cond_true, cond_false, Option.bind_some, Bool.and_true, ref05_Beneath.L1, lt_yes hi, a1, a3, hn, h, wrap_succ hi (m := l.length) (by omega)]⟩
      rw [hu] at hu'; cases hu'
      exact h h'.1
  · exact .all fun n k => by simp only [decide_false, cond_false, Option.bind_some, Bool.and_false, lt_no, ref05_Beneath.L1]
end Go.Bk
end
noncomputable section
namespace Go.Bk
open Go Go.AM
set_option linter.unusedVariables false
/-! boolean.Under -/
theorem under_L1 {F : Nat → List Int → Option (List Int)} (hF : ∀ l : List Int, l.length ≤ maxRows → Sp F l (fun r => r = l))
    (s : Int) (al : List Int) (z1 : Int) (z2 : List Int) (z3 : List Rule) (US : Int) (UF : List Int) (U0 : List Rule) (any found : Int) (fb : List Bool) (rs : List Rule) (fin : List Int) (S : Int)
    (hl : rs.length ≤ maxRows) (hU : U0.length + rs.length ≤ maxRows) (h3 : ∀ r ∈ rs, r.2.1.length ≤ maxRows) (hto : ∀ r ∈ rs, StOk S r.2.2)
    (hfb : ∀ q : Int, StOk S q → q < ((fb.length : Nat) : Int) ∧ at? fb q.toNat = some (decide (q ∈ fin))) :
    Lp (fun n => boolean_Under.L1 (F n)) (s, al, z1, z2, z3, US, UF, U0, any, found, fb, rs, ((rs.length : Nat) : Int), (0 : Int))
      (fun t => ∃ U : List Rule, t = (al, z1, z2, z3, US, UF, U, any, found) ∧ (∀ r, r ∈ U ↔ r ∈ U0 ∨ ∃ r0 ∈ rs, r0.1 = s ∧ r0.2.2 ∈ fin ∧ r = (s, r0.2.1, found)) ∧ U.length ≤ U0.length + rs.length) := by
  refine Lp.range rs.length (fun i x => ∃ U : List Rule, x = (s, al, z1, z2, z3, US, UF, U, any, found, fb, rs, ((rs.length : Nat) : Int), (i : Int)) ∧ (∀ r, r ∈ U ↔ r ∈ U0 ∨ ∃ r0 ∈ rs.take i, r0.1 = s ∧ r0.2.2 ∈ fin ∧ r = (s, r0.2.1, found)) ∧ U.length ≤ U0.length + i) ?_ ?_ _ ⟨U0, rfl, fun r => by simp, by omega⟩
  · rintro i x hi ⟨U, rfl, hm, hlen⟩
    have hmem := List.getElem_mem hi
    have e : rs.take (i + 1) = rs.take i ++ [rs[i]] := (app_one hi).symm
    have split : ∀ r : Rule, (∃ r0 ∈ rs.take (i + 1), r0.1 = s ∧ r0.2.2 ∈ fin ∧ r = (s, r0.2.1, found)) ↔ (∃ r0 ∈ rs.take i, r0.1 = s ∧ r0.2.2 ∈ fin ∧ r = (s, r0.2.1, found)) ∨ (rs[i].1 = s ∧ rs[i].2.2 ∈ fin ∧ r = (s, rs[i].2.1, found)) := by
      intro r
      rw [e]
      constructor
      · rintro ⟨r0, h0, h⟩
        rcases List.mem_append.mp h0 with h0 | h0
        · exact .inl ⟨r0, h0, h⟩
        · obtain rfl := List.mem_singleton.mp h0; exact .inr h
      · rintro (⟨r0, h0, h⟩ | h)
        · exact ⟨r0, List.mem_append_left _ h0, h⟩
        · exact ⟨_, List.mem_append_right _ (List.mem_singleton.mpr rfl), h⟩
    by_cases h : rs[i].1 = s
    · have hs := hto _ hmem
      obtain ⟨hb1, hb2⟩ := hfb _ hs
      have a1 : ((0 : Int) ≤ rs[i].2.2) = True := eq_true hs.1
      by_cases hf : rs[i].2.2 ∈ fin
      · rw [decide_eq_true hf] at hb2
        obtain ⟨r, rfl, he⟩ := hF rs[i].2.1 (h3 _ hmem)
        have e1 : U.length + 1 ≤ maxRows := by omega
        refine .inl ⟨_, ⟨U ++ [(s, rs[i].2.1, found)], rfl, fun r => ?_, by simp only [List.length_append, len1]; omega⟩, he.mono fun n hn k => by simp only [decide_true, cond_true, Option.bind_some, Bool.and_true, boolean_Under.L1, lt_yes hi, nth_lt hi, h, a1, hb1, hb2, hn, len1, e1, wrap_succ hi hl]; rfl⟩
        rw [split, List.mem_append, hm, List.mem_singleton]
        constructor
        · rintro ((h1 | h1) | rfl)
          · exact .inl h1
          · exact .inr (.inl h1)
          · exact .inr (.inr ⟨h, hf, rfl⟩)
        · rintro (h1 | h1 | ⟨_, _, rfl⟩)
          · exact .inl (.inl h1)
          · exact .inl (.inr h1)
          · exact .inr rfl
      · rw [decide_eq_false hf] at hb2
        refine .inl ⟨_, ⟨U, rfl, fun r => ?_, by omega⟩, .all fun n k => by simp only [decide_true, cond_true, cond_false, Option.bind_some, Bool.and_true, boolean_Under.L1, lt_yes hi, nth_lt hi, h, a1, hb1, hb2, wrap_succ hi hl]⟩
        rw [split, hm]
        constructor
        · rintro (h1 | h1)
          · exact .inl h1
          · exact .inr (.inl h1)
        · rintro (h1 | h1 | ⟨_, h2, _⟩)
          · exact .inl h1
          · exact .inr h1
          · exact absurd h2 hf
    · refine .inl ⟨_, ⟨U, rfl, fun r => ?_, by omega⟩, .all fun n k => by simp only [decide_true, decide_false, cond_true, cond_false, Option.bind_some, boolean_Under.L1, lt_yes hi, nth_lt hi, h, wrap_succ hi hl]⟩
      rw [split, hm]
      constructor
      · rintro (h1 | h1)
        · exact .inl h1
        · exact .inr (.inl h1)
      · rintro (h1 | h1 | ⟨h2, _, _⟩)
        · exact .inl h1
        · exact .inr h1
        · exact absurd h2 h
  · rintro x ⟨U, rfl, hm, hlen⟩
    exact .inr ⟨_, ⟨U, rfl, by rw [List.take_length] at hm; exact hm, hlen⟩, .all fun n k => by simp only [decide_false, cond_false, lt_no, boolean_Under.L1]⟩
theorem under_L2 {F : Nat → List Int × Int → Option (List Int)} (hF : ∀ v k : Int, 0 ≤ k → k ≤ 3 → Sp F ([v], k) (fun r => r = List.replicate k.toNat v))
    (z1 : Int) (z2 : List Int) (z3 : List Rule) (US : Int) (UF : List Int) (U0 : List Rule) (any found k ar : Int) (al : List Int) (len i : Int) (h0 : 0 ≤ ar) (h3 : ar ≤ 3) (hU : U0.length + 3 ≤ maxRows) :
    Lp (fun n => boolean_Under.L2 (F n)) (z1, z2, z3, US, UF, U0, any, found, k, ar, al, len, i, ar, (0 : Int))
      (fun t => ∃ U : List Rule, t = (z1, z2, z3, US, UF, U, any, found, al, len, i) ∧ (∀ r, r ∈ U ↔ r ∈ U0 ∨ ∃ j : Nat, j < ar.toNat ∧ r = (k, (List.replicate ar.toNat any).set j found, found)) ∧ U.length ≤ U0.length + 3) := by
  obtain ⟨c, rfl⟩ : ∃ c : Nat, ar = (c : Int) := ⟨ar.toNat, by omega⟩
  rw [Int.toNat_natCast]
  refine Lp.range c (fun j x => ∃ U : List Rule, x = (z1, z2, z3, US, UF, U, any, found, k, (c : Int), al, len, i, (c : Int), (j : Int)) ∧ (∀ r, r ∈ U ↔ r ∈ U0 ∨ ∃ j' : Nat, j' < j ∧ r = (k, (List.replicate c any).set j' found, found)) ∧ U.length ≤ U0.length + j) ?_ ?_ _ ⟨U0, rfl, fun r => by simp, by omega⟩
  · rintro j x hj ⟨U, rfl, hm, hlen⟩
    obtain ⟨r, rfl, he⟩ := hF any (c : Int) h0 h3
    rw [Int.toNat_natCast] at he
    have a1 : ((0 : Int) ≤ (j : Int)) = True := eq_true (by omega)
    have a2 : at? (List.replicate c any) j = some any := by simp [at?, hj]
    have e1 : U.length + 1 ≤ maxRows := by omega
    refine .inl ⟨_, ⟨U ++ [(k, (List.replicate c any).set j found, found)], rfl, fun r => ?_, by simp only [List.length_append, len1]; omega⟩, he.mono fun n hn k' => by simp only [decide_true, cond_true, Option.bind_some, Bool.true_and, boolean_Under.L2, lt_yes hj, hn, a1, List.length_replicate, Int.toNat_natCast, a2, len1, e1, wrap_succ hj (m := c) (by omega)]; rfl⟩
    rw [List.mem_append, hm, List.mem_singleton]
    constructor
    · rintro ((h1 | ⟨j', hj', h1⟩) | rfl)
      · exact .inl h1
      · exact .inr ⟨j', by omega, h1⟩
      · exact .inr ⟨j, by omega, rfl⟩
    · rintro (h1 | ⟨j', hj', h1⟩)
      · exact .inl (.inl h1)
      · rcases Nat.lt_or_eq_of_le (Nat.le_of_lt_succ hj') with h2 | rfl
        · exact .inl (.inr ⟨j', h2, h1⟩)
        · exact .inr h1
  · rintro x ⟨U, rfl, hm, hlen⟩
    exact .inr ⟨_, ⟨U, rfl, hm, by omega⟩, .all fun n k' => by simp only [decide_false, cond_false, lt_no, boolean_Under.L2]⟩
def KeepAt (any found : Int) (al : List Int) (k : Nat) (r : Rule) : Prop :=
  ∃ ar : Int, al[k]? = some ar ∧ (r = ((k : Int), List.replicate ar.toNat any, any) ∨ ∃ j : Nat, j < ar.toNat ∧ r = ((k : Int), (List.replicate ar.toNat any).set j found, found))
theorem under_L3 {F : Nat → List Int × Int → Option (List Int)} (hF : ∀ v k : Int, 0 ≤ k → k ≤ 3 → Sp F ([v], k) (fun r => r = List.replicate k.toNat v))
    (z1 : Int) (z2 : List Int) (z3 : List Rule) (US : Int) (UF : List Int) (U0 : List Rule) (any found : Int) (al : List Int) (hal : AlOk al) (hU : U0.length + 4 * al.length + 4 ≤ maxRows) :
    Lp (fun n => boolean_Under.L3 (F n) n) (z1, z2, z3, US, UF, U0, any, found, al, ((al.length : Nat) : Int), (0 : Int))
      (fun t => ∃ U : List Rule, t = (z1, z2, z3, US, UF, U, found) ∧ (∀ r, r ∈ U ↔ r ∈ U0 ∨ ∃ k : Nat, KeepAt any found al k r) ∧ U.length ≤ U0.length + 4 * al.length) := by
  refine Lp.range al.length (fun i x => ∃ U : List Rule, x = (z1, z2, z3, US, UF, U, any, found, al, ((al.length : Nat) : Int), (i : Int)) ∧ (∀ r, r ∈ U ↔ r ∈ U0 ∨ ∃ k : Nat, k < i ∧ KeepAt any found al k r) ∧ U.length ≤ U0.length + 4 * i) ?_ ?_ _ ⟨U0, rfl, fun r => by simp, by omega⟩
  · rintro i x hi ⟨U, rfl, hm, hlen⟩
    have hl := hal.2 i hi
    obtain ⟨r, rfl, he⟩ := hF any al[i] hl.1 hl.2
    obtain ⟨t, ⟨U', rfl, hm', hlen'⟩, he2⟩ := (under_L2 hF z1 z2 z3 US UF (U ++ [((i : Int), List.replicate al[i].toNat any, any)]) any found (i : Int) al[i] al ((al.length : Nat) : Int) (i : Int) hl.1 hl.2 (by simp only [List.length_append, len1]; omega)).ev
    have e1 : U.length + 1 ≤ maxRows := by omega
    refine .inl ⟨_, ⟨U', rfl, fun r => ?_, by simp only [List.length_append, len1] at hlen'; omega⟩, (he.and he2).mono fun n hn k => ?_⟩
    · rw [hm', List.mem_append, hm, List.mem_singleton]
      have hx : al[i]? = some al[i] := List.getElem?_eq_getElem hi
      constructor
      · rintro (((h | ⟨k, hk, h⟩) | h) | ⟨j, hj, h⟩)
        · exact .inl h
        · exact .inr ⟨k, by omega, h⟩
        · exact .inr ⟨i, by omega, _, hx, .inl h⟩
        · exact .inr ⟨i, by omega, _, hx, .inr ⟨j, hj, h⟩⟩
      · rintro (h | ⟨k, hk, h⟩)
        · exact .inl (.inl (.inl h))
        · rcases Nat.lt_or_eq_of_le (Nat.le_of_lt_succ hk) with h2 | rfl
          · exact .inl (.inl (.inr ⟨k, h2, h⟩))
          · obtain ⟨ar, har, h⟩ := h
            rw [hx] at har; cases har
            rcases h with h | ⟨j, hj, h⟩
            · exact .inl (.inr h)
            · exact .inr ⟨j, hj, h⟩
    · have h2 : loopN (boolean_Under.L2 (F n)) n (z1, z2, z3, US, UF, List.append U [((i : Int), List.replicate al[i].toNat any, any)], any, found, (i : Int), al[i], al, ((al.length : Nat) : Int), (i : Int), al[i], (0 : Int)) = _ := hn.2
      simp only [decide_true, cond_true, Option.bind_some, boolean_Under.L3, lt_yes hi, nth_lt hi, hn.1, len1, e1, h2, wrap_succ hi (m := al.length) (by omega)]
  · rintro x ⟨U, rfl, hm, hlen⟩
    refine .inr ⟨_, ⟨U, rfl, fun r => (hm r).trans ⟨?_, ?_⟩, hlen⟩, .all fun n k => by simp only [decide_false, cond_false, lt_no, boolean_Under.L3]⟩
    · rintro (h | ⟨k, _, h⟩)
      · exact .inl h
      · exact .inr ⟨k, h⟩
    · rintro (h | ⟨k, h⟩)
      · exact .inl h
      · have h' := h
        obtain ⟨ar, har, _⟩ := h'
        exact .inr ⟨k, (List.getElem?_eq_some_iff.mp har).1, h⟩
/-- The rules of Under's answer. -/
def UnderRules (al : List Int) (S : Int) (fin : List Int) (rs : List Rule) (s : Int) (U : List Rule) : Prop :=
  ∀ r, r ∈ U ↔ (r ∈ rs ∨ ∃ r0 ∈ rs, r0.1 = s ∧ r0.2.2 ∈ fin ∧ r = (s, r0.2.1, S + 1)) ∨ ∃ k : Nat, KeepAt S (S + 1) al k r
theorem ValidA.rule {al : List Int} {a : Aut} (h : ValidA al a) {r : Rule} (hr : r ∈ a.2.2) : RuleOk al a.1 r := by
  obtain ⟨i, hi, rfl⟩ := List.getElem_of_mem hr
  exact h.2.2.2.2.2 i hi hi
theorem ValidA.final {al : List Int} {a : Aut} (h : ValidA al a) {q : Int} (hq : q ∈ a.2.1) : StOk a.1 q := by
  obtain ⟨i, hi, rfl⟩ := List.getElem_of_mem hq
  exact (h.2.2.2.2.1 i hi hi).1
theorem sp_boolean_Under {FC : Nat → Int × List Int × List Rule → Option (Int × List Int × List Rule)} {FF : Nat → Int × List Int × List Rule → Option (List Bool)} {FV : Nat → List Int × Int × List Int × List Rule → Option Bool} {FL : Nat → List Int → Option (List Int)} {FR : Nat → List Int × Int → Option (List Int)}
    {al : List Int} {S : Int} {fin : List Int} {rs : List Rule} {s : Int} (hfew : FewOk al (S, fin, rs))
    (hC : Sp FC (S, fin, rs) (fun r => r = (S, fin, rs)))
    (hFF : ValidA al (S, fin, rs) → Sp FF (S, fin, rs) (fun r => ∀ q : Int, StOk S q → q < ((r.length : Nat) : Int) ∧ at? r q.toNat = some (decide (q ∈ fin))))
    (hV : Sp FV (al, S, fin, rs) (fun r => r = true ↔ ValidA al (S, fin, rs)))
    (hL : ∀ l : List Int, l.length ≤ maxRows → Sp FL l (fun r => r = l))
    (hR : ∀ v k : Int, 0 ≤ k → k ≤ 3 → Sp FR ([v], k) (fun r => r = List.replicate k.toNat v)) :
    Sp (fun n => boolean_Under.P (FC n) (FF n) (FV n) (FL n) (FR n) n) (al, S, fin, rs, s) (fun r => (¬ ValidA al (S, fin, rs) → r.2.2.2 = 1) ∧ (ValidA al (S, fin, rs) → (s < 0 ∨ ((al.length : Nat) : Int) ≤ s) → r.2.2.2 = 6) ∧
      (ValidA al (S, fin, rs) → 0 ≤ s → s < ((al.length : Nat) : Int) → ∃ U : List Rule, r = (S + 2, [S + 1], U, 0) ∧ UnderRules al S fin rs s U ∧ U.length ≤ 200)) := by
  obtain ⟨v, hv, he⟩ := hV
  have hmr := maxRows_eq
  cases v
  · exact ⟨_, ⟨fun _ => rfl, fun h => absurd (hv.mpr h) (by simp), fun h => absurd (hv.mpr h) (by simp)⟩, he.mono fun n hn => by simp only [cond_true, Option.bind_some, Bool.not_false, boolean_Under.P, hn]; rfl⟩
  have hva := hv.mp rfl
  by_cases h1 : s < 0
  · exact ⟨_, ⟨fun h => absurd hva h, fun _ _ => rfl, fun _ h => absurd h (by omega)⟩, he.mono fun n hn => by simp only [decide_true, cond_true, cond_false, Option.bind_some, Bool.not_true, boolean_Under.P, hn, h1]; rfl⟩
  by_cases h2 : ((al.length : Nat) : Int) ≤ s
  · exact ⟨_, ⟨fun h => absurd hva h, fun _ _ => rfl, fun _ _ h => absurd h (by omega)⟩, he.mono fun n hn => by simp only [decide_true, decide_false, cond_true, cond_false, Option.bind_some, Bool.not_true, boolean_Under.P, hn, h1, h2]; rfl⟩
  obtain ⟨hf1, hf2, hf3, hf4, hf5⟩ := hfew
  simp only at hf2 hf3 hf4 hf5
  have hS0 : 0 ≤ S := hva.2.1
  have hS : S ≤ 6 := by have : S ≤ 300 := hva.2.2.1; omega
  have hal := hva.1.1
  obtain ⟨_, rfl, heC⟩ := hC
  obtain ⟨fb, hfb, heF⟩ := hFF hva
  obtain ⟨_, ⟨U1, rfl, hU1, hU1l⟩, heL1⟩ := (under_L1 hL s al 0 [] [] (S + 2) fin rs S (S + 1) fb rs fin S (by omega) (by omega) (fun r hr => by have := hf5 r hr; omega) (fun r hr => (hva.rule hr).2.2.2.1) hfb).ev
  obtain ⟨_, ⟨U, rfl, hU, hUl⟩, heL3⟩ := (under_L3 hR 0 [] [] (S + 2) fin U1 S (S + 1) al hva.1 (by omega)).ev
  have w1 : IntKind.wrap .i64 (S + 2) = S + 2 := wrap_id _ (by omega) (by omega)
  have w2 : IntKind.wrap .i64 (S + 1) = S + 1 := wrap_id _ (by omega) (by omega)
  have c1 : ¬ (300 : Int) < S + 2 := by omega
  have c2 : ¬ (20000 : Int) < ((U.length : Nat) : Int) := by omega
  refine ⟨_, ⟨fun h => absurd hva h, fun _ h => absurd h (by omega), fun _ _ _ => ⟨U, rfl, fun r => by rw [hU, hU1], by omega⟩⟩, (he.and (heC.and (heF.and (heL1.and heL3)))).mono fun n hn => ?_⟩
  simp only [decide_false, cond_false, Option.bind_some, Bool.not_true, boolean_Under.P, hn.1, h1, h2, hn.2.1, hn.2.2.1, w1, w2, hn.2.2.2.1, hn.2.2.2.2, c1, c2]
end Go.Bk
end
noncomputable section
namespace Go.Bk
open Go Go.AM
set_option linter.unusedVariables false
theorem sp_law05_valid {FV : Nat → List Int × Int × List Int × List Rule → Option Bool} {al : List Int} {bs : List Aut} (hb : bs.length ≤ maxRows) (hV : ∀ b ∈ bs, Sp FV (al, b) (fun r => r = true ↔ ValidA al b)) :
    Sp (fun n => law05_valid.P (FV n) n) (al, bs) (fun r => r = true ↔ ∀ b ∈ bs, ValidA al b) := by
  have hL := Lp.search (L := fun n => law05_valid.L1 (FV n)) bs.length (fun i => (al, bs, ((bs.length : Nat) : Int), (i : Int))) (fun i => ∀ h : i < bs.length, ValidA al bs[i]) (fun _ => Sum.inr false) (Sum.inl ()) ?_ ?_
  · obtain ⟨t, ht, he⟩ := hL.ev
    rcases ht with ⟨rfl, ht⟩ | ⟨i, hi, hn, rfl⟩
    · refine ⟨true, ⟨fun _ b hb => ?_, fun _ => rfl⟩, he.mono fun n hn => congrArg (Option.bind · _) hn⟩
      obtain ⟨j, hj, rfl⟩ := List.getElem_of_mem hb
      exact ht j hj hj
    · exact ⟨false, ⟨fun h => (by cases h), fun h => absurd (fun _ => h _ (List.getElem_mem hi)) hn⟩, he.mono fun n hn => congrArg (Option.bind · _) hn⟩
  · intro i hi
    obtain ⟨r, hr, he⟩ := hV bs[i] (List.getElem_mem hi)
    cases r
    · exact .inr ⟨fun h => (by have := hr.mpr (h hi); cases this), he.mono fun n hn k => by simp only [decide_true, cond_true, Option.bind_some, Bool.not_false, law05_valid.L1, lt_yes hi, nth_lt hi, hn]⟩
    · exact .inl ⟨fun _ => hr.mp rfl, he.mono fun n hn k => by simp only [decide_true, cond_true, cond_false, Option.bind_some, Bool.not_true, law05_valid.L1, lt_yes hi, nth_lt hi, hn, wrap_succ hi hb]⟩
  · exact .all fun n k => by simp only [decide_false, cond_false, Option.bind_some, lt_no, law05_valid.L1]
/-! What Under's answer accepts -/
section
variable {al : List Int} {S : Int} {fin : List Int} {rs : List Rule} {s : Int} {U : List Rule}
theorem UnderRules.old (hU : UnderRules al S fin rs s U) {r : Rule} (h : r ∈ rs) : r ∈ U := (hU r).mpr (.inl (.inl h))
theorem RuleOk.from {r : Rule} (h : RuleOk al S r) {i : Nat} {f : Int} (hf : r.2.1[i]? = some f) : StOk S f := by
  obtain ⟨hi, rfl⟩ := List.getElem?_eq_some_iff.mp hf
  exact h.2.2.2.2 i hi hi
theorem RuleOk.ar {r : Rule} (h : RuleOk al S r) : 0 ≤ r.1 ∧ al[r.1.toNat]? = some ((r.2.1.length : Nat) : Int) := by
  refine ⟨h.1, ?_⟩
  have : r.1.toNat < al.length := by have := h.1; have := h.2.1; omega
  rw [List.getElem?_eq_getElem this, h.2.2.1 this]
theorem ValidA.ar {a : Aut} (h : ValidA al a) : Ar al a.2.2 := fun r hr => (h.rule hr).ar
theorem UnderRules.reach_old (hU : UnderRules al S fin rs s U) (hv : ValidA al (S, fin, rs)) (t : RT Int) : ∀ q, q ≠ S → q ≠ S + 1 → (Reach U t q ↔ Reach rs t q) := by
  induction t using rt_ind with
  | h a ks ih =>
  intro q h1 h2
  have kid : ∀ r ∈ rs, ∀ (i : Nat) (k : RT Int) (f : Int), ks[i]? = some k → r.2.1[i]? = some f → (Reach U k f ↔ Reach rs k f) := by
    intro r hr i k f hk hf
    have hs := (hv.rule hr).from hf
    exact ih k (List.mem_of_getElem? hk) f (by have := hs.2; simp only at this; omega) (by have := hs.2; simp only at this; omega)
  rw [reach_iff, reach_iff]
  constructor
  · rintro ⟨r, hr, ha, hq, hl, hk⟩
    have hr' : r ∈ rs := by
      rcases (hU r).mp hr with (h | ⟨r0, _, _, _, rfl⟩) | ⟨k, ar, _, rfl | ⟨j, _, rfl⟩⟩
      · exact h
      · exact absurd hq (fun h => h2 h.symm)
      · exact absurd hq (fun h => h1 h.symm)
      · exact absurd hq (fun h => h2 h.symm)
    exact ⟨r, hr', ha, hq, hl, fun i k f hk' hf => (kid r hr' i k f hk' hf).mp (hk i k f hk' hf)⟩
  · rintro ⟨r, hr, ha, hq, hl, hk⟩
    exact ⟨r, hU.old hr, ha, hq, hl, fun i k f hk' hf => (kid r hr i k f hk' hf).mpr (hk i k f hk' hf)⟩
theorem UnderRules.reach_any (hU : UnderRules al S fin rs s U) (t : RT Int) : Shp al t → Reach U t S := by
  induction t using rt_ind with
  | h a ks ih =>
  intro hs
  have h0 := hs.nonneg
  rw [reach_iff]
  refine ⟨(a, List.replicate ks.length S, S), (hU _).mpr (.inr ⟨a.toNat, _, hs.ar, .inl ?_⟩), rfl, rfl, List.length_replicate, fun i k f hk hf => ?_⟩
  · rw [Int.toNat_of_nonneg h0, Int.toNat_natCast]
  · have hm := List.mem_of_getElem? hk
    have : f = S := by have := List.mem_of_getElem? hf; exact List.eq_of_mem_replicate this
    rw [this]; exact ih k hm (hs.kid k hm)
theorem UnderRules.reach_found (hU : UnderRules al S fin rs s U) (hv : ValidA al (S, fin, rs)) (t : RT Int) : Shp al t → (Reach U t (S + 1) ↔ ∃ u, Sub u t ∧ u.a = s ∧ Acc rs fin u) := by
  induction t using rt_ind with
  | h a ks ih =>
  intro hs
  have h0 := hs.nonneg
  have kid : ∀ r ∈ rs, ∀ (i : Nat) (k : RT Int) (f : Int), ks[i]? = some k → r.2.1[i]? = some f → (Reach U k f ↔ Reach rs k f) := by
    intro r hr i k f hk hf
    have hs := (hv.rule hr).from hf
    exact hU.reach_old hv k f (by have := hs.2; simp only at this; omega) (by have := hs.2; simp only at this; omega)
  constructor
  · intro h
    obtain ⟨r, hr, ha, hq, hl, hk⟩ := reach_iff.mp h
    rcases (hU r).mp hr with (h | ⟨r0, h0, h1, h2, rfl⟩) | ⟨k, ar, har, rfl | ⟨j, hj, rfl⟩⟩
    · have := (hv.rule h).2.2.2.1.2; simp only at this; omega
    · refine ⟨_, .refl _, ha.symm, r0.2.2, reach_iff.mpr ⟨r0, h0, h1.trans ha, rfl, hl, fun i k f hk' hf => (kid r0 h0 i k f hk' hf).mp (hk i k f hk' hf)⟩, h2⟩
    · simp only at hq; omega
    · have hlen : ks.length = ar.toNat := by simp only [List.length_set, List.length_replicate] at hl; omega
      have hjk : j < ks.length := by omega
      have hx := hk j ks[j] (S + 1) (List.getElem?_eq_getElem hjk) (by simp only [List.getElem?_set, List.length_replicate]; simp [hj])
      have hm := List.getElem_mem hjk
      obtain ⟨u, hu, h⟩ := (ih ks[j] hm (hs.kid _ hm)).mp hx
      exact ⟨u, .kid _ _ _ _ hm hu, h⟩
  · rintro ⟨u, hu, hus, hacc⟩
    rcases sub_iff.mp hu with rfl | ⟨k, hk, hu⟩
    · obtain ⟨q, hq, hf⟩ := hacc
      obtain ⟨r, hr, ha, hq', hl, hk⟩ := reach_iff.mp hq
      refine reach_iff.mpr ⟨(s, r.2.1, S + 1), (hU _).mpr (.inl (.inr ⟨r, hr, ha.trans hus, by rw [hq']; exact hf, rfl⟩)), hus.symm, rfl, hl, fun i k f hk' hf => (kid r hr i k f hk' hf).mpr (hk i k f hk' hf)⟩
    · have hx := (ih k hk (hs.kid k hk)).mpr ⟨u, hu, hus, hacc⟩
      obtain ⟨j, hj, rfl⟩ := List.getElem_of_mem hk
      refine reach_iff.mpr ⟨(a, (List.replicate ks.length S).set j (S + 1), S + 1), (hU _).mpr (.inr ⟨a.toNat, _, hs.ar, .inr ⟨j, by rw [Int.toNat_natCast]; exact hj, ?_⟩⟩), rfl, rfl, by simp, fun i k f hk' hf => ?_⟩
      · rw [Int.toNat_of_nonneg h0, Int.toNat_natCast]
      · have hm := List.mem_of_getElem? hk'
        simp only [List.getElem?_set, List.length_replicate] at hf
        split at hf
        · rename_i hji
          subst hji
          rw [List.getElem?_eq_getElem hj] at hk'
          cases hf; cases hk'; exact hx
        · have : f = S := List.eq_of_mem_replicate (List.mem_of_getElem? hf)
          rw [this]; exact hU.reach_any k (hs.kid k hm)
theorem UnderRules.valid (hU : UnderRules al S fin rs s U) (hv : ValidA al (S, fin, rs)) (hS : S ≤ 6) (hs0 : 0 ≤ s) (hs : s < ((al.length : Nat) : Int)) (hl : U.length ≤ 200) : ValidA al (S + 2, [S + 1], U) := by
  have h0 : 0 ≤ S := hv.2.1
  refine ⟨hv.1, by simp only; omega, by simp only; omega, by simp only; omega, fun i hi h => ?_, fun i hi h => ?_⟩
  · obtain rfl : i = 0 := by simp only [len1] at hi; omega
    refine ⟨⟨?_, ?_⟩, fun h => absurd h (by omega)⟩ <;> simp only [List.getElem_cons_zero] <;> omega
  · have up : ∀ f, StOk S f → StOk (S + 2) f := fun f h => ⟨h.1, by have := h.2; omega⟩
    rcases (hU U[i]).mp (List.getElem_mem hi) with (h | ⟨r0, h0', h1, h2, h⟩) | ⟨k, ar, har, h | ⟨j, hj, h⟩⟩
    · have hr := hv.rule h
      exact ⟨hr.1, hr.2.1, hr.2.2.1, up _ hr.2.2.2.1, fun i hi h => up _ (hr.2.2.2.2 i hi h)⟩
    · have hr := hv.rule h0'
      simp only at h ⊢
      rw [h]
      rw [← h1]
      exact ⟨hr.1, hr.2.1, hr.2.2.1, ⟨by simp only; omega, by simp only; omega⟩, fun i hi h => up _ (hr.2.2.2.2 i hi h)⟩
    all_goals
      obtain ⟨hk, hk'⟩ := List.getElem?_eq_some_iff.mp har
      have hlet := hv.1.2 k hk
      have e : ((ar.toNat : Nat) : Int) = al[k] := by rw [hk'] at hlet ⊢; have := hlet.1; omega
      simp only at h ⊢
      rw [h]
    · refine ⟨by simp only; omega, by simp only; omega, fun _ => ?_, ⟨h0, by simp only; omega⟩, fun i hi h => ?_⟩
      · simp only [List.length_replicate, Int.toNat_natCast]; exact e
      · have := List.eq_of_mem_replicate (List.getElem_mem h)
        simp only at this ⊢
        rw [this]; exact ⟨h0, by omega⟩
    · refine ⟨by simp only; omega, by simp only; omega, fun _ => ?_, ⟨by simp only; omega, by simp only; omega⟩, fun i hi h => ?_⟩
      · simp only [List.length_set, List.length_replicate, Int.toNat_natCast]; exact e
      · have := List.mem_or_eq_of_mem_set (List.getElem_mem h)
        simp only at this ⊢
        rcases this with h | h
        · rw [List.eq_of_mem_replicate h]; exact ⟨h0, by omega⟩
        · rw [h]; exact ⟨by omega, by omega⟩
theorem acc_one {rs : List Rule} {q : Int} {t : RT Int} : Acc rs [q] t ↔ Reach rs t q := by
  constructor
  · rintro ⟨q', h, hq⟩
    obtain rfl := List.mem_singleton.mp hq; exact h
  · exact fun h => ⟨q, h, List.mem_singleton.mpr rfl⟩
theorem sp_BooleanUnder {FU : Nat → List Int × Int × List Int × List Rule × Int → Option (Int × List Int × List Rule × Int)} {FA : Nat → Unit → Option Bool} {FW : Nat → List Int × Int × List (RT Int) × List Aut → Option Bool} {FR : Nat → List Int × Int × List Int × List Rule × Int × List (RT Int) × Bool → Option Bool} {FV : Nat → List Int × List Aut → Option Bool} {FT : Nat → List Int × Int × List (RT Int) → Option Bool} {FB : Nat → Int × List Int × List Rule × Int × Int × List (RT Int) → Option Bool}
    {t : RT Int}
    (hA : Sp FA () (fun r => r = true))
    (hW : Sp FW (al, t.a, t.kids, [(S, fin, rs)]) (fun r => r = true → ∀ b ∈ [((S, fin, rs) : Aut)], FewOk al b))
    (hUn : FewOk al (S, fin, rs) → Sp FU (al, S, fin, rs, s) (fun r => (¬ ValidA al (S, fin, rs) → r.2.2.2 = 1) ∧ (ValidA al (S, fin, rs) → (s < 0 ∨ ((al.length : Nat) : Int) ≤ s) → r.2.2.2 = 6) ∧
      (ValidA al (S, fin, rs) → 0 ≤ s → s < ((al.length : Nat) : Int) → ∃ U : List Rule, r = (S + 2, [S + 1], U, 0) ∧ UnderRules al S fin rs s U ∧ U.length ≤ 200)))
    (hV : ∀ b : Aut, FewOk al (S, fin, rs) → b.2.1.length ≤ 100 → b.2.2.length ≤ 200 → (∀ r ∈ b.2.2, r.2.1.length ≤ 10) → Sp FV (al, [b]) (fun r => r = true ↔ ∀ b' ∈ [b], ValidA al b'))
    (hT : Sp FT (al, t.a, t.kids) (fun r => r = true → Shp al t))
    (hB : FewOk al (S, fin, rs) → ValidA al (S, fin, rs) → Shp al t → Sp FB (S, fin, rs, s, t.a, t.kids) (fun r => r = true ↔ ∃ u, Sub u t ∧ u.a = s ∧ Acc rs fin u))
    (hR : ∀ (b : Aut) (w : Bool), b.2.1.length ≤ 100 → b.2.2.length ≤ 200 → ValidA al b → Shp al t → (w = true ↔ Acc b.2.2 b.2.1 t) → Sp FR (al, b.1, b.2.1, b.2.2, t.a, t.kids, w) (fun r => r = true)) :
    Sp (fun n => law05_BooleanUnder.P (FU n) (FA n) (FW n) (FR n) (FV n) (FT n) (FB n) n) (al, S, fin, rs, s, t.a, t.kids) (fun r => r = true) := by
  obtain ⟨_, rfl, heA⟩ := hA
  obtain ⟨w, hw, heW⟩ := hW
  cases w
  · exact ⟨_, rfl, (heA.and heW).mono fun n hn => by simp only [cond_true, Option.bind_some, Bool.not_false, law05_BooleanUnder.P, hn.1, hn.2]⟩
  have hfew := hw rfl _ (List.mem_singleton.mpr rfl)
  obtain ⟨u, ⟨hu1, hu2, hu3⟩, heU⟩ := hUn hfew
  have hf2 : fin.length ≤ 30 := hfew.2.1
  have hf3 : rs.length ≤ 30 := hfew.2.2.1
  have hf4 : S ≤ 6 ∨ 300 < S := hfew.2.2.2.1
  obtain ⟨v, hv, heV⟩ := hV (S, fin, rs) hfew (by simp only; omega) (by simp only; omega) hfew.2.2.2.2
  have hv' : v = true ↔ ValidA al (S, fin, rs) := hv.trans ⟨fun h => h _ (List.mem_singleton.mpr rfl), fun h b hb => List.mem_singleton.mp hb ▸ h⟩
  cases v
  · have h1 := hu1 (fun h => by have := hv'.mpr h; cases this)
    exact ⟨_, rfl, (heA.and (heW.and (heU.and heV))).mono fun n hn => by simp only [decide_true, cond_true, cond_false, Option.bind_some, Bool.not_true, Bool.not_false, law05_BooleanUnder.P, hn.1, hn.2.1, hn.2.2.1, hn.2.2.2, h1]⟩
  have hva := hv'.mp rfl
  by_cases h1 : s < 0
  · have h6 := hu2 hva (.inl h1)
    exact ⟨_, rfl, (heA.and (heW.and (heU.and heV))).mono fun n hn => by simp only [decide_true, cond_true, cond_false, Option.bind_some, Bool.not_true, law05_BooleanUnder.P, hn.1, hn.2.1, hn.2.2.1, hn.2.2.2, h1, h6]⟩
  by_cases h2 : ((al.length : Nat) : Int) ≤ s
  · have h6 := hu2 hva (.inr h2)
    exact ⟨_, rfl, (heA.and (heW.and (heU.and heV))).mono fun n hn => by simp only [decide_true, decide_false, cond_true, cond_false, Option.bind_some, Bool.not_true, law05_BooleanUnder.P, hn.1, hn.2.1, hn.2.2.1, hn.2.2.2, h1, h2, h6]⟩
  obtain ⟨U, rfl, hU, hUl⟩ := hu3 hva (by omega) (by omega)
  have hS : S ≤ 6 := by have : S ≤ 300 := hva.2.2.1; omega
  have hvu := hU.valid hva hS (by omega) (by omega) hUl
  have hfrom : ∀ r ∈ U, r.2.1.length ≤ 10 := by
    intro r hr
    have h := (hvu.rule hr).ar
    obtain ⟨hk, hk'⟩ := List.getElem?_eq_some_iff.mp h.2
    have := (hva.1.2 _ hk).2
    omega
  obtain ⟨v2, hv2, heV2⟩ := hV (S + 2, [S + 1], U) hfew (by simp only [len1]; omega) hUl hfrom
  obtain rfl := hv2.mpr fun b hb => List.mem_singleton.mp hb ▸ hvu
  obtain ⟨y, hy, heT⟩ := hT
  cases y
  · exact ⟨_, rfl, (heA.and (heW.and (heU.and (heV.and (heV2.and heT))))).mono fun n hn => by simp only [decide_true, decide_false, cond_true, cond_false, Option.bind_some, Bool.not_true, Bool.not_false, law05_BooleanUnder.P, hn.1, hn.2.1, hn.2.2.1, hn.2.2.2.1, hn.2.2.2.2.1, hn.2.2.2.2.2, h1, h2]⟩
  have hsh := hy rfl
  obtain ⟨b, hb, heB⟩ := hB hfew hva hsh
  have hbr : b = true ↔ Acc U [S + 1] t := by rw [hb, acc_one]; exact (hU.reach_found hva t hsh).symm
  obtain ⟨_, rfl, heR⟩ := hR (S + 2, [S + 1], U) b (by simp only [len1]; omega) hUl hvu hsh hbr
  exact ⟨_, rfl, (heA.and (heW.and (heU.and (heV.and (heV2.and (heT.and (heB.and heR))))))).mono fun n hn => by simp only [decide_true, decide_false, cond_true, cond_false, Option.bind_some, Bool.not_true, law05_BooleanUnder.P, hn.1, hn.2.1, hn.2.2.1, hn.2.2.2.1, hn.2.2.2.2.1, hn.2.2.2.2.2.1, hn.2.2.2.2.2.2.1, hn.2.2.2.2.2.2.2, h1, h2]⟩
end
end Go.Bk
end
noncomputable section
namespace Go.Bk
open Go Go.AM
set_option linter.unusedVariables false
/-! BooleanFull -/
def rule0 (q : Int) : Rule := (0, [], q)
theorem sp_many (s m : Int) (h0 : 0 ≤ m) (hm : m ≤ 20000) : Sp law05_many.P (s, m) (fun r => r = (s, [], List.replicate m.toNat (rule0 0))) := by
  obtain ⟨c, rfl⟩ : ∃ c : Nat, m = (c : Int) := ⟨m.toNat, by omega⟩
  have hr := maxRows_eq
  have hL : Lp (fun _ => law05_many.L1) ((0 : Int), ([] : List Int), ([] : List Rule), s, ([] : List Int), ([] : List Rule), (c : Int), (0 : Int)) (fun t => t = ((0 : Int), ([] : List Int), ([] : List Rule), s, ([] : List Int), List.replicate c (rule0 0))) := by
    refine Lp.range c (fun i x => x = ((0 : Int), ([] : List Int), ([] : List Rule), s, ([] : List Int), List.replicate i (rule0 0), (c : Int), (i : Int))) ?_ ?_ _ rfl
    · rintro i x hi rfl
      have e : (List.replicate i (rule0 0)).length + 1 ≤ maxRows := by rw [List.length_replicate]; omega
      refine .inl ⟨_, rfl, .all fun n k => ?_⟩
      simp only [decide_true, cond_true, law05_many.L1, lt_yes hi, len1, e, wrap_succ hi (m := c) (by omega)]
      congr 6
      exact congrArg (fun l => (l, (c : Int), ((i + 1 : Nat) : Int))) List.replicate_succ'.symm
    · rintro x rfl
      exact .inr ⟨_, rfl, .all fun n k => by simp only [decide_false, cond_false, lt_no, law05_many.L1]⟩
  obtain ⟨t, rfl, he⟩ := hL.ev
  rw [Int.toNat_natCast]
  exact ⟨_, rfl, he.mono fun n hn => by simp only [law05_many.P, hn, Option.bind_some]⟩
theorem alOk_al : AlOk [0, 2] := ⟨by decide, fun i hi => by
  match i, hi with
  | 0, _ => exact (by decide : (0 : Int) ≤ 0 ∧ (0 : Int) ≤ 3)
  | 1, _ => exact (by decide : (0 : Int) ≤ 2 ∧ (2 : Int) ≤ 3)⟩
theorem valid_zero {S : Int} (h1 : 1 ≤ S) (h3 : S ≤ 300) {U : List Rule} (hl : U.length ≤ 20000) (hU : ∀ r ∈ U, ∃ q, r = rule0 q ∧ StOk S q) : ValidA [0, 2] (S, [], U) := by
  refine ⟨alOk_al, by simp only; omega, by simp only; omega, hl, fun i hi => absurd hi (by simp), fun i hi h => ?_⟩
  obtain ⟨q, hq, hs⟩ := hU _ (List.getElem_mem h)
  simp only at hq ⊢
  rw [hq]
  exact ⟨(by decide : (0 : Int) ≤ 0), (by decide : (0 : Int) < 2), fun _ => rfl, hs, fun i hi => absurd hi (by simp [rule0])⟩
theorem sp_Union_zero {FC : Nat → Int × List Int × List Rule → Option (Int × List Int × List Rule)} {FV : Nat → List Int × Int × List Int × List Rule → Option Bool} {s t : Int} {a b : Nat}
    (hs : 1 ≤ s) (ht : 1 ≤ t) (hs' : s ≤ 300) (ht' : t ≤ 300) (ha : a ≤ 20000) (hb : b ≤ 20000)
    (hC : ∀ (S : Int) (l : List Rule), l.length ≤ 20000 → (∀ r ∈ l, r.2.1.length ≤ maxRows) → Sp FC (S, [], l) (fun r => r = (S, [], l)))
    (hV : ∀ (S : Int) (l : List Rule), l.length ≤ 20000 → (∀ r ∈ l, r.2.1.length ≤ maxRows) → Sp FV ([0, 2], S, [], l) (fun r => r = true ↔ ValidA [0, 2] (S, [], l))) :
    Sp (fun n => boolean_Union.P (FC n) (FV n) n) ([0, 2], s, [], List.replicate a (rule0 0), t, [], List.replicate b (rule0 0))
      (fun r => (s + t > 300 ∨ a + b > 20000 → r.2.2.2 = 3) ∧ (s + t ≤ 300 → a + b ≤ 20000 → r = (s + t, [], List.replicate a (rule0 0) ++ List.replicate b (rule0 s), 0))) := by
  have hr := maxRows_eq
  have zl : ∀ c (r : Rule), r ∈ List.replicate c (rule0 0) → r.2.1.length ≤ maxRows := fun c r h => by rw [List.eq_of_mem_replicate h]; simp [rule0]
  have zv : ∀ S : Int, 1 ≤ S → S ≤ 300 → ∀ c ≤ 20000, ValidA [0, 2] (S, [], List.replicate c (rule0 0)) := fun S h1 h3 c hc => valid_zero h1 h3 (by rw [List.length_replicate]; exact hc) fun r h => ⟨0, List.eq_of_mem_replicate h, by omega, by omega⟩
  obtain ⟨v1, hv1, he1⟩ := hV s (List.replicate a (rule0 0)) (by rw [List.length_replicate]; exact ha) (zl a)
  obtain rfl := hv1.mpr (zv s hs hs' a ha)
  obtain ⟨v2, hv2, he2⟩ := hV t (List.replicate b (rule0 0)) (by rw [List.length_replicate]; exact hb) (zl b)
  obtain rfl := hv2.mpr (zv t ht ht' b hb)
  have w1 : IntKind.wrap .i64 (s + t) = s + t := wrap_id _ (by omega) (by omega)
  have w2 : IntKind.wrap .i64 (((a : Nat) : Int) + ((b : Nat) : Int)) = (a : Int) + (b : Int) := wrap_id _ (by omega) (by omega)
  by_cases h1 : (300 : Int) < s + t
  · exact ⟨_, ⟨fun _ => rfl, fun h => absurd h (by omega)⟩, (he1.and he2).mono fun n hn => by simp only [decide_true, cond_true, cond_false, Option.bind_some, Bool.not_true, boolean_Union.P, hn.1, hn.2, w1, h1]; rfl⟩
  by_cases h2 : (20000 : Int) < (a : Int) + (b : Int)
  · exact ⟨_, ⟨fun _ => rfl, fun _ h => absurd h (by omega)⟩, (he1.and he2).mono fun n hn => by simp only [decide_true, decide_false, cond_true, cond_false, Option.bind_some, Bool.not_true, boolean_Union.P, hn.1, hn.2, w1, h1, List.length_replicate, w2, h2]; rfl⟩
  obtain ⟨_, rfl, he3⟩ := hC s (List.replicate a (rule0 0)) (by rw [List.length_replicate]; exact ha) (zl a)
  obtain ⟨_, rfl, he4⟩ := hC t (List.replicate b (rule0 0)) (by rw [List.length_replicate]; exact hb) (zl b)
  have hL1 : Lp (fun _ => boolean_Union.L1) (s, ([] : List Int), List.replicate a (rule0 0), (0 : Int), ([] : List Int), ([] : List Rule), s + t, ([] : List Int), List.replicate a (rule0 0), t, ([] : List Int), List.replicate b (rule0 0), ((([] : List Int).length : Nat) : Int), (0 : Int))
      (fun x => x = (s, ([] : List Int), List.replicate a (rule0 0), (0 : Int), ([] : List Int), ([] : List Rule), s + t, ([] : List Int), List.replicate a (rule0 0), t, ([] : List Int), List.replicate b (rule0 0))) :=
    Lp.range 0 (fun i x => i = 0 ∧ x = (s, ([] : List Int), List.replicate a (rule0 0), (0 : Int), ([] : List Int), ([] : List Rule), s + t, ([] : List Int), List.replicate a (rule0 0), t, ([] : List Int), List.replicate b (rule0 0), ((([] : List Int).length : Nat) : Int), (0 : Int))) (fun i x hi => absurd hi (by omega)) (by
      rintro x ⟨_, rfl⟩
      exact .inr ⟨_, rfl, .all fun n k => by simp only [decide_false, cond_false, Bool.and_false, boolean_Union.L1, List.length_nil, Int.natCast_zero, Int.lt_irrefl]⟩) _ ⟨rfl, rfl⟩
  have hL2 : ∀ (U : List Rule) (i : Int), Lp (fun _ => boolean_Union.L2) (s, ([] : List Int), List.replicate a (rule0 0), (0 : Int), ([] : List Int), ([] : List Rule), s + t, ([] : List Int), U, t, ([] : List Int), List.replicate b (rule0 0), (0 : Int), ([] : List Int), (0 : Int), (b : Int), i, ((([] : List Int).length : Nat) : Int), (0 : Int))
      (fun x => x = (s, ([] : List Int), List.replicate a (rule0 0), (0 : Int), ([] : List Int), ([] : List Rule), s + t, ([] : List Int), U, t, ([] : List Int), List.replicate b (rule0 0), (0 : Int), ([] : List Int), (0 : Int), (b : Int), i)) := fun U i =>
    Lp.range 0 (fun j x => j = 0 ∧ x = (s, ([] : List Int), List.replicate a (rule0 0), (0 : Int), ([] : List Int), ([] : List Rule), s + t, ([] : List Int), U, t, ([] : List Int), List.replicate b (rule0 0), (0 : Int), ([] : List Int), (0 : Int), (b : Int), i, ((([] : List Int).length : Nat) : Int), (0 : Int))) (fun i x hi => absurd hi (by omega)) (by
      rintro x ⟨_, rfl⟩
      exact .inr ⟨_, rfl, .all fun n k => by simp only [decide_false, cond_false, boolean_Union.L2, List.length_nil, Int.natCast_zero, Int.lt_irrefl]⟩) _ ⟨rfl, rfl⟩
  have hL3 : Lp boolean_Union.L3 (s, ([] : List Int), List.replicate a (rule0 0), (0 : Int), ([] : List Int), ([] : List Rule), s + t, ([] : List Int), List.replicate a (rule0 0), t, ([] : List Int), List.replicate b (rule0 0), (b : Int), (0 : Int))
      (fun x => x = ((0 : Int), ([] : List Int), ([] : List Rule), s + t, ([] : List Int), List.replicate a (rule0 0) ++ List.replicate b (rule0 s))) := by
    refine Lp.range b (fun i x => x = (s, ([] : List Int), List.replicate a (rule0 0), (0 : Int), ([] : List Int), ([] : List Rule), s + t, ([] : List Int), List.replicate a (rule0 0) ++ List.replicate i (rule0 s), t, ([] : List Int), List.replicate b (rule0 0), (b : Int), (i : Int))) ?_ ?_ _ (by simp)
    · rintro i x hi rfl
      obtain ⟨_, rfl, he⟩ := (hL2 (List.replicate a (rule0 0) ++ List.replicate i (rule0 s)) (i : Int)).ev
      have a1 : ((0 : Int) ≤ (i : Int)) = True := eq_true (by omega)
      have a3 : at? (List.replicate b (rule0 0)) (Int.toNat (i : Int)) = some ((0 : Int), ([] : List Int), (0 : Int)) := by
        simp [at?, hi, rule0]
      have e : (List.replicate a (rule0 0) ++ List.replicate i (rule0 s)).length + 1 ≤ maxRows := by rw [List.length_append, List.length_replicate, List.length_replicate]; omega
      have w3 : IntKind.wrap .i64 (0 + s) = s := by rw [Int.zero_add]; exact wrap_id _ (by omega) (by omega)
      refine .inl ⟨_, rfl, he.mono fun n hn k => ?_⟩
      simp only [decide_true, cond_true, Option.bind_some, Bool.and_true, boolean_Union.L3, lt_yes hi, a1, List.length_replicate, a3, hn, len1, e, w3, wrap_succ hi (m := b) (by omega)]
      congr 9
      refine congrArg (fun l => (l, t, ([] : List Int), List.replicate b (rule0 0), (b : Int), ((i + 1 : Nat) : Int))) ?_
      rw [List.replicate_succ', ← List.append_assoc]; rfl
    · rintro x rfl
      exact .inr ⟨_, rfl, .all fun n k => by simp only [decide_false, cond_false, lt_no, boolean_Union.L3]⟩
  obtain ⟨_, rfl, he5⟩ := hL1.ev
  obtain ⟨_, rfl, he6⟩ := hL3.ev
  refine ⟨_, ⟨fun h => absurd h (by omega), fun _ _ => rfl⟩, (he1.and (he2.and (he3.and (he4.and (he5.and he6))))).mono fun n hn => ?_⟩
  simp only [decide_false, cond_false, Option.bind_some, Bool.not_true, boolean_Union.P, hn.1, hn.2.1, w1, h1, List.length_replicate, w2, h2, hn.2.2.1, hn.2.2.2.1, hn.2.2.2.2.1, hn.2.2.2.2.2]
theorem sp_BooleanFull {FU : Nat → List Int × Int × List Int × List Rule × Int × List Int × List Rule → Option (Int × List Int × List Rule × Int)} {FA : Nat → Unit → Option Bool} {FM : Nat → Int × Int → Option (Int × List Int × List Rule)} {FV : Nat → List Int × List Aut → Option Bool} (s t m n : Int)
    (hA : Sp FA () (fun r => r = true))
    (hM : ∀ s m : Int, 0 ≤ m → m ≤ 20000 → Sp FM (s, m) (fun r => r = (s, [], List.replicate m.toNat (rule0 0))))
    (hU : ∀ (s t : Int) (a b : Nat), 1 ≤ s → 1 ≤ t → s ≤ 300 → t ≤ 300 → a ≤ 20000 → b ≤ 20000 → Sp FU ([0, 2], s, [], List.replicate a (rule0 0), t, [], List.replicate b (rule0 0))
      (fun r => (s + t > 300 ∨ a + b > 20000 → r.2.2.2 = 3) ∧ (s + t ≤ 300 → a + b ≤ 20000 → r = (s + t, [], List.replicate a (rule0 0) ++ List.replicate b (rule0 s), 0))))
    (hV : ∀ (S : Int) (l : List Rule), l.length ≤ 20000 → (∀ r ∈ l, r.2.1.length ≤ maxRows) → Sp FV ([0, 2], [(S, [], l)]) (fun r => r = true ↔ ∀ b' ∈ [((S, [], l) : Aut)], ValidA [0, 2] b')) :
    Sp (fun k => law05_BooleanFull.P (FU k) (FA k) (FM k) (FV k) k) (s, t, m, n) (fun r => r = true) := by
  obtain ⟨_, rfl, heA⟩ := hA
  by_cases h1 : s < 1
  · exact ⟨_, rfl, heA.mono fun k hk => by simp only [decide_true, cond_true, Option.bind_some, law05_BooleanFull.P, h1, hk]⟩
  by_cases h2 : 300 < s
  · exact ⟨_, rfl, heA.mono fun k hk => by simp only [decide_true, decide_false, cond_true, cond_false, Option.bind_some, law05_BooleanFull.P, h1, h2, hk]⟩
  by_cases h3 : t < 1
  · exact ⟨_, rfl, heA.mono fun k hk => by simp only [decide_true, decide_false, cond_true, cond_false, Option.bind_some, law05_BooleanFull.P, h1, h2, h3, hk]⟩
  by_cases h4 : 300 < t
  · exact ⟨_, rfl, heA.mono fun k hk => by simp only [decide_true, decide_false, cond_true, cond_false, Option.bind_some, law05_BooleanFull.P, h1, h2, h3, h4, hk]⟩
  by_cases h5 : m < 0
  · exact ⟨_, rfl, heA.mono fun k hk => by simp only [decide_true, decide_false, cond_true, cond_false, Option.bind_some, law05_BooleanFull.P, h1, h2, h3, h4, h5, hk]⟩
  by_cases h6 : 20000 < m
  · exact ⟨_, rfl, heA.mono fun k hk => by simp only [decide_true, decide_false, cond_true, cond_false, Option.bind_some, law05_BooleanFull.P, h1, h2, h3, h4, h5, h6, hk]⟩
  by_cases h7 : n < 0
  · exact ⟨_, rfl, heA.mono fun k hk => by simp only [decide_true, decide_false, cond_true, cond_false, Option.bind_some, law05_BooleanFull.P, h1, h2, h3, h4, h5, h6, h7, hk]⟩
  by_cases h8 : 20000 < n
  · exact ⟨_, rfl, heA.mono fun k hk => by simp only [decide_true, decide_false, cond_true, cond_false, Option.bind_some, law05_BooleanFull.P, h1, h2, h3, h4, h5, h6, h7, h8, hk]⟩
  obtain ⟨_, rfl, he1⟩ := hM s m (by omega) (by omega)
  obtain ⟨_, rfl, he2⟩ := hM t n (by omega) (by omega)
  obtain ⟨u, ⟨hu1, hu2⟩, he3⟩ := hU s t m.toNat n.toNat (by omega) (by omega) (by omega) (by omega) (by omega) (by omega)
  have w1 : IntKind.wrap .i64 (s + t) = s + t := wrap_id _ (by omega) (by omega)
  have w2 : IntKind.wrap .i64 (m + n) = m + n := wrap_id _ (by omega) (by omega)
  by_cases h9 : 300 < s + t
  · have hu := hu1 (.inl (by omega))
    exact ⟨_, rfl, (heA.and (he1.and (he2.and he3))).mono fun k hk => by simp only [decide_true, decide_false, cond_true, cond_false, Option.bind_some, law05_BooleanFull.P, h1, h2, h3, h4, h5, h6, h7, h8, hk.1, hk.2.1, hk.2.2.1, hk.2.2.2, w1, h9, hu]⟩
  by_cases h10 : 20000 < m + n
  · have hu := hu1 (.inr (by omega))
    exact ⟨_, rfl, (heA.and (he1.and (he2.and he3))).mono fun k hk => by simp only [decide_true, decide_false, cond_true, cond_false, Option.bind_some, law05_BooleanFull.P, h1, h2, h3, h4, h5, h6, h7, h8, hk.1, hk.2.1, hk.2.2.1, hk.2.2.2, w1, w2, h9, h10, hu]⟩
  obtain rfl := hu2 (by omega) (by omega)
  have hmem : ∀ r ∈ List.replicate m.toNat (rule0 0) ++ List.replicate n.toNat (rule0 s), ∃ q, r = rule0 q ∧ StOk (s + t) q := by
    intro r hr
    rcases List.mem_append.mp hr with hr | hr
    · exact ⟨0, List.eq_of_mem_replicate hr, by omega, by omega⟩
    · exact ⟨s, List.eq_of_mem_replicate hr, by omega, by omega⟩
  have hlen : (List.replicate m.toNat (rule0 0) ++ List.replicate n.toNat (rule0 s)).length ≤ 20000 := by
    rw [List.length_append, List.length_replicate, List.length_replicate]; omega
  obtain ⟨v, hv, he4⟩ := hV (s + t) _ hlen (fun r hr => by obtain ⟨q, rfl, _⟩ := hmem r hr; simp [rule0])
  obtain rfl := hv.mpr fun b hb => List.mem_singleton.mp hb ▸ valid_zero (by omega) (by omega) hlen hmem
  exact ⟨_, rfl, (heA.and (he1.and (he2.and (he3.and he4)))).mono fun k hk => by simp only [decide_true, decide_false, cond_true, cond_false, Option.bind_some, law05_BooleanFull.P, h1, h2, h3, h4, h5, h6, h7, h8, hk.1, hk.2.1, hk.2.2.1, hk.2.2.2.1, hk.2.2.2.2, w1, w2, h9, h10]⟩
end Go.Bk
end
noncomputable section
namespace Go.Bk
open Go Go.AM
set_option linter.unusedVariables false
/-! weights bound lengths -/
theorem sumW_mem {α : Type} {f : α → Nat} : ∀ {l : List α} {x : α}, x ∈ l → f x ≤ sumW f l
  | a :: l, x, h => by
    simp only [sumW]
    rcases List.mem_cons.mp h with rfl | h
    · omega
    · have := sumW_mem (f := f) h; omega
theorem sumW_len {α : Type} {f : α → Nat} (h : ∀ x, 1 ≤ f x) : ∀ l : List α, l.length ≤ sumW f l
  | [] => by simp [sumW]
  | a :: l => by
    have := sumW_len h l
    have := h a
    simp only [sumW, List.length_cons]; omega
mutual
theorem nds_wt (f : Int → Nat) : ∀ t : RT Int, nds t ≤ RT.wt f t
  | .mk a ks => by
    have := ndss_wts f ks
    simp only [nds, RT.wt]; omega
theorem ndss_wts (f : Int → Nat) : ∀ ks : List (RT Int), ndss ks ≤ RT.wts f ks
  | [] => by simp [ndss, RT.wts]
  | k :: ks => by
    have := nds_wt f k
    have := ndss_wts f ks
    simp only [ndss, RT.wts]; omega
end
theorem len_wt (l : List Int) : l.length + 1 ≤ wt (.sl [.int .i64]) l := by
  have := sumW_len (f := wtA [.int .i64]) (fun x => Nat.le_refl _) l
  exact Nat.succ_le_succ this
theorem rules_wt (l : List Rule) : l.length + 1 ≤ wt (.sl [.int .i64, .sl [.int .i64], .int .i64]) l ∧ ∀ r ∈ l, r.2.1.length ≤ wt (.sl [.int .i64, .sl [.int .i64], .int .i64]) l := by
  have h1 : ∀ r : Rule, 1 ≤ wtA [.int .i64, .sl [.int .i64], .int .i64] r := fun r => by
    show 1 ≤ 1 + _
    omega
  have := sumW_len (f := wtA [.int .i64, .sl [.int .i64], .int .i64]) h1 l
  refine ⟨Nat.succ_le_succ this, fun r hr => ?_⟩
  have h2 := sumW_mem (f := wtA [.int .i64, .sl [.int .i64], .int .i64]) hr
  have h3 : r.2.1.length + 1 ≤ wtA [.int .i64, .sl [.int .i64], .int .i64] r := by
    have := len_wt r.2.1
    show _ ≤ 1 + (wt (.sl [.int .i64]) r.2.1 + 1)
    omega
  exact Nat.le_trans (Nat.le_trans (Nat.le_succ _) h3) (Nat.le_trans h2 (Nat.le_succ _))
theorem kids_wt (s : Int) (ks : List (RT Int)) : nds (.mk s ks) ≤ wt (.rsl [.int .i64]) ks := by
  have := ndss_wts (wtA [.int .i64]) ks
  exact Nat.succ_le_succ this
end Go.Bk
end
