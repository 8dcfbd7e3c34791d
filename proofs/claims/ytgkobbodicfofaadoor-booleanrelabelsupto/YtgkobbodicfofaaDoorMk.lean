import Derived.Test.YtgkobbodicfofaaDoorMa
section
namespace Go.Bk
open Go Go.AM
abbrev LI : Type := List Int
abbrev LL : Type := List (List Int)
abbrev LR : Type := List (Int × List Int × Int)
abbrev Ru : Type := Int × List Int × Int
abbrev A0 : Type := LR × Int × Int × Int
abbrev A1 : Type := Int × LI × Int × Int × LI × Int
abbrev A2 : Type := LI × Int × LI × LR
abbrev A3 : Type := Int × LI × LR
abbrev A4 : Type := LR × Int × Int
abbrev A5 : Type := LR × Int × Int × Int × Int
abbrev A6 : Type := Int × LI × LR × Int × LI × LR
abbrev A7 : Type := LI × Int × (List (RT Int))
abbrev A8 : Type := Int × LI × LR × Int × (List (RT Int))
abbrev A9 : Type := LI × Int × LI × LR × Int × LI × LR
abbrev A10 : Type := LI × Int × LI × LR × Int × LI × LR × LI × Int × LI × LR × Int × Int
abbrev A11 : Type := Int × Int
abbrev A12 : Type := Int × (List (RT Int)) × Int
abbrev A13 : Type := LI × Int × LI × LR × Int × LI × LR × Int × LL × LI × LI × Int × LI × Int × Int
abbrev A14 : Type := Int × LI × LR × Int × LL
abbrev A15 : Type := LI × Int × Int × Int × LL × Int × Int × LI × Int × Int × LL × Int × Int
abbrev A16 : Type := LI × Int × LI × LR × LR × Int × Int
abbrev A17 : Type := Int × LI × LR × Int × LI × LR × LL × Int × LI × LR × LI × Int × Int
abbrev A18 : Type := LI × Int
abbrev A19 : Type := LI × LI
abbrev A20 : Type := LI × (List (Int × LI × LR))
abbrev A21 : Type := (List Bool) × Int × LI × LR × Int × LI × LR × LI × Int × LI × LR
abbrev A22 : Type := LI × Int × Int × Int × LL × LI × Int × Int
abbrev A23 : Type := Int × LI × LR × (List Bool) × (List Bool) × Bool × LR × Int × Int
abbrev A24 : Type := Int × LI × LR × Int × LI × LR × Int × LI × LR × LI × Int × Int
abbrev A25 : Type := LI × Int × LI × LR × Int × LI × LR × Int × LL × LI × LI × Int × Int × LI × LI × Int × Int × LL × Int × Int × LI × Int × Int
abbrev A26 : Type := LI × Int × (List (RT Int)) × (List (Int × LI × LR))
abbrev A27 : Type := LI × Int × LL × LI × Int × Int
abbrev A28 : Type := Int × LI × LR × Int × LI × LR × Int × LI × LR × Int × LI × Bool × LI × Int × Int × LL × Int × Int × LR × Int × Int
abbrev A29 : Type := Int × LL × Int × LI
abbrev A30 : Type := LI × Int × LI × LR × Int × LI × LR × LI × Int × LI × LR
abbrev A31 : Type := (List Bool) × Int × LI × LR × LI × Int × LI × LR × Int × LI × Int × Bool × LI × LR × Int × Int × LI × Int × Int
abbrev A32 : Type := LI × Int × LI × LR × Int × LI × LR × Int × LL × LI × LI × Int × Int × LI × LI × Int × Int × LL × Int × Int
abbrev A33 : Type := LI × Int × LI × LR × LR × Int × Int × LI × Int × Int
abbrev A34 : Type := Int × LI × LR × (List Bool) × (List Bool) × Bool × Int × LI × Int × Bool × LR × Int × Int × LI × Int × Int
abbrev A35 : Type := LI × Int × LI × LR × Int × LI × LR × Int × LL × LI × LI × Int × Int × LI × Int × Int × LL × Int × Int
abbrev A36 : Type := LI × Int × LI × LR × Int × LI × LR × LI × Int × LI × LR × Int × LI × Int × Int × Int × LI × Int × Int
abbrev A37 : Type := LI × LI × LI × Int × LI × LR × Int × (List (RT Int))
abbrev A38 : Type := Int × Int × LI × (List (Int × LI × LR)) × Int × Int
abbrev A39 : Type := Int × LI × LR × Int × LI × LR × Int × LI × LR × Int × LI × Bool × LI × Int × Int × LL × Int × Int
abbrev A40 : Type := LR × Int × Int × Int × Int × Int
abbrev A41 : Type := LI × Int × Int × (List (Int × LI × LR))
abbrev A42 : Type := (List Bool) × Int × LI × LR × LI × Int × LI × LR × Int × LI × Int × Bool × LI × LR × Int × Int
abbrev A43 : Type := LI × Int × LI × LR × LL × Int × LI × Int × Int
abbrev A44 : Type := Int × LI × LR × (List Bool) × Bool × Int × LI × Int × Bool × LR × Int × Int × LI × Int × Int
abbrev A45 : Type := Int × LI × LR × (List Bool) × (List Bool) × Bool
abbrev A46 : Type := Int × LI × LR × Int × LI × LR × LL × Int × LI × LR × Int × LI × Int × Int × LL × Int × Int
abbrev A47 : Type := Int × LI × LR × LR × Int × Int
abbrev A48 : Type := (List Bool) × Int × LI × LR × Int × LI × LR × LI × Int × LI × LR × (List Bool) × Int × Int
abbrev A49 : Type := LI × Int × Int × Int × LL × Int × Int × LI × LI × Int × Int × LL × Int × Int × Int × Int
abbrev A50 : Type := Int × LI × LR × (List Bool) × (List Bool) × Bool × Int × LI × Int × Bool × LR × Int × Int
abbrev A51 : Type := Int × LI × LR × (List Bool) × (List Bool) × Bool × Bool × LR × Int × Int × LI × Int × Int
abbrev A52 : Type := Int × LI × LR × Int × LI × LR × Int × LI × LR × Int × LI × Int × Int × LL × Int × Int
abbrev A53 : Type := Int × LI × LR × LI × Int × LI × LR × Int × LI × Int × LR × Int × Int × LI × Int × Int
abbrev A54 : Type := LI × Int × LI × LR × Int × LI × LR × LI × Int × LI × LR × Int × LI × Int × Int × Int
abbrev A55 : Type := (List Bool) × Int × LI × LR × Int × LI × LR × LI × Int × LI × LR × LI × Int × Int
abbrev A56 : Type := Int × Int × LI × LR
abbrev A57 : Type := LI × LI × Int × Int
abbrev A58 : Type := LI × (List (Int × LI × LR)) × Int × Int
abbrev A59 : Type := LL × LI
abbrev A60 : Type := LI × Int × (List (RT Int)) × Int × (List (RT Int)) × (List (RT Int)) × Int × Int
abbrev A61 : Type := LI × Int × LI × LR × Int × LL × LI × LI × LI × Int × Int × Int × Int × Int
abbrev A62 : Type := Int × LI × LR × (List Bool) × Bool × Int × LI × Int × Bool × LR × Int × Int
abbrev A63 : Type := LI × Int × LI × LR × Int × LI × LR × LL × Int × LI × LR × LL × Int × Int
abbrev A64 : Type := LI × LI × LI × Int × Int
abbrev A65 : Type := LI × LI × LI × Int × LI × LR
abbrev A66 : Type := LI × Int × LI × LR × LI × Int × Int
abbrev A67 : Type := LI × Int × LI × LR × LL × Int × Int × LI × Int × Int × LL × Int × Int
abbrev A68 : Type := Int × LI × LR × Int × (List (RT Int)) × LL × (List (RT Int)) × Int × Int
abbrev A69 : Type := LI × Int × LI × LR × Int × LL × LI
abbrev A70 : Type := Int × LI × LR × LI × Int × LI × LR × Int × LI × Int × LR × Int × Int
abbrev A71 : Type := Int × LI × LR × Int × LI × LR × LI × LI × Int × LI × LR × Int × Int
abbrev A72 : Type := Int × Int × LI × (List (Int × LI × LR)) × Int × Int × LR × Int × Int
abbrev A73 : Type := Int × LI × LR × (List Bool) × Bool
abbrev A74 : Type := (List Bool) × Int × LI × LR × LI × Int × LI × LR × LR × Int × Int
abbrev A75 : Type := Int × LI × LR × (List Bool)
abbrev A76 : Type := Int × LI × LR × Int × LI × Int × LR × Int × Int × LR × Int × Int
abbrev A77 : Type := LI × Int × LI × LR × Int × LL × LI × LI × LI × Int × Int × Int
abbrev A78 : Type := LI × Int × LI × LR × Int × LI × LR × Int × LL × LI × Int × Int
abbrev A79 : Type := LI × Int × LI × LR × Int × LI × LR × Int × LL × LI × LI × Int
abbrev A80 : Type := Int × LL × LI × Int × LI × Int × Bool × Int × LR × Int × Int
abbrev A81 : Type := LI × LI × LI
abbrev A82 : Type := LI × Int × LI × LR × Int × LL × LI × LI × LI × Int × Int
abbrev A83 : Type := Int × LI × LR × (List Bool) × (List Bool) × LI × Int × Int
abbrev A84 : Type := LI × Int × LI × LR × Int × LI × LR × LL × Int × LI × LR
abbrev A85 : Type := LI × Int × LI × LR × Int × LI × LR × Int × LL × LI × LI
abbrev A86 : Type := LI × Int × Int
abbrev A87 : Type := Int × LL × LI × Int × LI × Int × Bool × LR × Int × Int
abbrev A88 : Type := LI × Int × LI × LR × Int × LI × LR × LR × Int × Int
abbrev A89 : Type := Int × Int × LL × Int × Int
abbrev A90 : Type := LI × Int × LI × LR × Int × LL × LI × LI × Int × Int
abbrev A91 : Type := Int × LI × LR × LI × Int × LI × LR × LR × Int × Int
abbrev A92 : Type := LI × Int × LI × LR × Int × LI × LR × Int × LL × LI
abbrev A93 : Type := Int × LI × LR × Int × LI × LR × LI × Int × LI × LR
abbrev A94 : Type := Int × LI × LR × (List Bool) × Bool × LR × Int × Int
abbrev A95 : Type := Int × Int × LL × Int × Int × Int × LL × Int × Int
abbrev A96 : Type := LR × Int × LI × Int × Int × Int × LR × Int × Int
abbrev A97 : Type := Int × (List (RT Int))
abbrev A98 : Type := Int × LI × LR × Int × LI × LR × LR × Int × Int
abbrev A99 : Type := LI × Int × LI × LR × Int × LI × LR × Int × Int
abbrev A100 : Type := Int × LL × LI
abbrev A101 : Type := LR × Int × LI × Int × Int × LR × Int × Int
abbrev A102 : Type := Int × LI × Int
abbrev A103 : Type := Int × (List (RT Int)) × Int × (List (RT Int))
abbrev A104 : Type := Int × LI × LR × Int × (List (RT Int)) × LL
abbrev A105 : Type := Int × LI × Int × Int
abbrev A106 : Type := LI × Int × LI × LR × Int × LL × LI × LI
abbrev A107 : Type := Int × LI × LR × Int × LI × LR × LI × LI
abbrev A108 : Type := Int × LI × LR × (List Bool) × (List Bool)
abbrev A109 : Type := Int × Int × (List (RT Int)) × Int × Int
abbrev A110 : Type := Int × LI × LR × LL × Int
abbrev A111 : Type := Int × LR × Int
abbrev A112 : Type := Int × LI × LR × LL × Int × LI × LR
abbrev A113 : Type := LR × Int × Int × Int × Bool × Bool
abbrev A114 : Type := Int × LL × Int × LI × Int × Int
abbrev A115 : Type := Int × LL × LI × LR × Int × Int
abbrev A116 : Type := LI × (List (RT Int)) × Int × Int
abbrev A117 : Type := Int × Int × LR × Int
abbrev A118 : Type := Int × LI × LR × Bool
abbrev A119 : Type := Int × Bool × LR
abbrev A120 : Type := LI × Int × LI × LR × LL × Int
abbrev A121 : Type := Int × LI × LR × Int
abbrev A122 : Type := Int × Int × LR
abbrev A123 : Type := Bool × LR
abbrev A124 : Type := Int × Int × LI × Int × Int
abbrev A125 : Type := LL × LL × LI × Int × Int
abbrev A126 : Type := LR × Int
abbrev A127 : Type := LI × Int × LI × LR × LL
abbrev A128 : Type := LL × Bool
abbrev A129 : Type := Int × Int × Int × Int
end Go.Bk
end
noncomputable section
namespace Go.Bk
open Go Go.AM
set_option maxRecDepth 100000
set_option linter.unusedVariables false
def ref03_Few.L1 (x5 : A72) (rec6 : (A72) → Option (Sum (A38) (Sum LI Bool))) : Option (Sum (A38) (Sum LI Bool)) :=
 bif decide (x5.2.2.2.2.2.2.2.2 < x5.2.2.2.2.2.2.2.1) then
 ((nth? x5.2.2.2.2.2.2.1 x5.2.2.2.2.2.2.2.2).bind fun e7 =>
 bif decide ((10 : Int) < ((List.length e7.2.1 : Nat) : Int)) then
 (((some false).bind fun r => some (Sum.inr r)).bind fun r => some (Sum.inr r))
 else
 (rec6 (x5.1, x5.2.1, x5.2.2.1, x5.2.2.2.1, x5.2.2.2.2.1, x5.2.2.2.2.2.1, x5.2.2.2.2.2.2.1, x5.2.2.2.2.2.2.2.1, IntKind.wrap .i64 (x5.2.2.2.2.2.2.2.2 + (1 : Int)))))
 else
 (some (Sum.inl (x5.1, x5.2.1, x5.2.2.1, x5.2.2.2.1, x5.2.2.2.2.1, x5.2.2.2.2.2.1)))
def ref03_Few.L2 (n : Nat) (x1 : A38) (rec2 : (A38) → Option (Sum LI Bool)) : Option (Sum LI Bool) :=
 bif decide (x1.2.2.2.2.2 < x1.2.2.2.2.1) then
 ((nth? x1.2.2.2.1 x1.2.2.2.2.2).bind fun e3 =>
 (bif decide (x1.2.1 < ((List.length e3.2.1 : Nat) : Int)) then
 (some (x1.1, x1.2.1, x1.2.2.1, e3.1, e3.2.1, e3.2.2, x1.2.2.2.1, x1.2.2.2.2.1, x1.2.2.2.2.2, true))
 else
 (bif decide (x1.2.1 < ((List.length e3.2.2 : Nat) : Int)) then
 (some (x1.1, x1.2.1, x1.2.2.1, e3.1, e3.2.1, e3.2.2, x1.2.2.2.1, x1.2.2.2.2.1, x1.2.2.2.2.2, true))
 else
 (bif decide (x1.1 < e3.1) then
 (some (x1.1, x1.2.1, x1.2.2.1, e3.1, e3.2.1, e3.2.2, x1.2.2.2.1, x1.2.2.2.2.1, x1.2.2.2.2.2, decide (e3.1 ≤ (300 : Int))))
 else
 (some (x1.1, x1.2.1, x1.2.2.1, e3.1, e3.2.1, e3.2.2, x1.2.2.2.1, x1.2.2.2.2.1, x1.2.2.2.2.2, false))))).bind fun x4 =>
 bif x4.2.2.2.2.2.2.2.2.2 then
 ((some false).bind fun r => some (Sum.inr r))
 else
 ((loopN (ref03_Few.L1) n (x4.1, x4.2.1, x4.2.2.1, x4.2.2.2.2.2.2.1, x4.2.2.2.2.2.2.2.1, x4.2.2.2.2.2.2.2.2.1, x4.2.2.2.2.2.1, ((List.length x4.2.2.2.2.2.1 : Nat) : Int), (0 : Int))).bind fun q => match q with
 | Sum.inl x8 => (rec2 (x8.1, x8.2.1, x8.2.2.1, x8.2.2.2.1, x8.2.2.2.2.1, IntKind.wrap .i64 (x8.2.2.2.2.2 + (1 : Int))))
 | Sum.inr r => some r))
 else
 (some (Sum.inl x1.2.2.1))
def ref03_Few.P (n : Nat) (x : A41) : Option Bool :=
 (loopN (ref03_Few.L2 n) n (x.2.1, x.2.2.1, x.1, x.2.2.2, ((List.length x.2.2.2 : Nat) : Int), (0 : Int))).bind fun q => match q with
 | Sum.inl x9 => (some (decide (((List.length x9 : Nat) : Int) ≤ (40 : Int))))
 | Sum.inr r => some r
def ref01_count.L1 (f_ref01_count : (A12) → Option Int) (x1 : A109) (rec2 : (A109) → Option Int) : Option Int :=
 bif decide (x1.2.2.2.2 < x1.2.2.2.1) then
 ((nth? x1.2.2.1 x1.2.2.2.2).bind fun e3 =>
 (bif decide (x1.2.1 ≤ x1.1) then
 ((f_ref01_count (RT.a e3, RT.kids e3, IntKind.wrap .i64 (x1.1 - x1.2.1))).bind fun r4 =>
 some (x1.1, IntKind.wrap .i64 (x1.2.1 + r4), x1.2.2.1, x1.2.2.2.1, x1.2.2.2.2))
 else
 (some (x1.1, x1.2.1, x1.2.2.1, x1.2.2.2.1, x1.2.2.2.2))).bind fun x5 =>
 rec2 (x5.1, x5.2.1, x5.2.2.1, x5.2.2.2.1, IntKind.wrap .i64 (x5.2.2.2.2 + (1 : Int))))
 else
 (some x1.2.1)
def ref01_count.P (f_ref01_count : (A12) → Option Int) (n : Nat) (x : A12) : Option Int :=
 (loopN (ref01_count.L1 f_ref01_count) n (x.2.2, (1 : Int), x.2.1, ((List.length x.2.1 : Nat) : Int), (0 : Int))).bind fun x6 =>
 some x6
def ref01_Few.P (f_ref01_count : (A12) → Option Int) (n : Nat) (x : A12) : Option Bool :=
 (f_ref01_count (x.1, x.2.1, x.2.2)).bind fun r1 =>
 some (decide (r1 ≤ x.2.2))
def law05_few.P (f_ref01_Few : (A12) → Option Bool) (f_ref03_Few : (A41) → Option Bool) (n : Nat) (x : A26) : Option Bool :=
 ((f_ref03_Few (x.1, (6 : Int), (30 : Int), x.2.2.2)).bind fun r1 =>
 bif r1 then
 ((f_ref01_Few (x.2.1, x.2.2.1, (400 : Int))).bind fun r2 =>
 some r2)
 else
 (some false)).bind fun x3 =>
 some x3
def tree_ValidAlphabet_1.P (n : Nat) (x : Int) : Option Bool :=
 (bif decide (x < (0 : Int)) then
 (some true)
 else
 (some (decide ((3 : Int) < x)))).bind fun x1 =>
 some x1
def slices_IndexFuncY.L1 (f_tree_ValidAlphabet_1 : Int → Option Bool) (x1 : A86) (rec2 : (A86) → Option (Sum Unit Int)) : Option (Sum Unit Int) :=
 bif decide (x1.2.2 < x1.2.1) then
 ((nth? x1.1 x1.2.2).bind fun e3 =>
 (f_tree_ValidAlphabet_1 e3).bind fun r4 =>
 bif r4 then
 ((some x1.2.2).bind fun r => some (Sum.inr r))
 else
 (rec2 (x1.1, x1.2.1, IntKind.wrap .i64 (x1.2.2 + (1 : Int)))))
 else
 (some (Sum.inl ()))
def slices_IndexFuncY.P (f_tree_ValidAlphabet_1 : Int → Option Bool) (n : Nat) (x : List Int) : Option Int :=
 (loopN (slices_IndexFuncY.L1 f_tree_ValidAlphabet_1) n (x, ((List.length x : Nat) : Int), (0 : Int))).bind fun q => match q with
 | Sum.inl x5 => (some (-1 : Int))
 | Sum.inr r => some r
def slices_ContainsFuncY.P (f_slices_IndexFuncY : List Int → Option Int) (n : Nat) (x : List Int) : Option Bool :=
 (f_slices_IndexFuncY x).bind fun r1 =>
 some (decide ((0 : Int) ≤ r1))
def tree_ValidAlphabet.P (f_slices_ContainsFuncY : List Int → Option Bool) (n : Nat) (x : List Int) : Option Bool :=
 (bif decide (((List.length x : Nat) : Int) ≤ (12 : Int)) then
 ((f_slices_ContainsFuncY x).bind fun r1 =>
 some (!r1))
 else
 (some false)).bind fun x2 =>
 some x2
def auto_Valid_1.P (n : Nat) (x : A56) : Option Bool :=
 (bif decide ((0 : Int) ≤ x.1) then
 (some (decide (x.1 < x.2.1)))
 else
 (some false)).bind fun x1 =>
 some x1
def auto_Valid.L1 (f_auto_Valid_1 : (A56) → Option Bool) (x3 : A66) (rec4 : (A66) → Option (Sum (A2) Bool)) : Option (Sum (A2) Bool) :=
 bif decide (x3.2.2.2.2.2.2 < x3.2.2.2.2.2.1) then
 ((nth? x3.2.2.2.2.1 x3.2.2.2.2.2.2).bind fun e5 =>
 ((f_auto_Valid_1 (e5, x3.2.1, x3.2.2.1, x3.2.2.2.1)).bind fun r6 =>
 bif !r6 then
 (some (x3.1, x3.2.1, x3.2.2.1, x3.2.2.2.1, x3.2.2.2.2.1, x3.2.2.2.2.2.1, x3.2.2.2.2.2.2, true))
 else
 (bif decide ((0 : Int) < x3.2.2.2.2.2.2) then
 ((nth? x3.2.2.1 (IntKind.wrap .i64 (x3.2.2.2.2.2.2 - (1 : Int)))).bind fun e7 =>
 some (x3.1, x3.2.1, x3.2.2.1, x3.2.2.2.1, x3.2.2.2.2.1, x3.2.2.2.2.2.1, x3.2.2.2.2.2.2, decide (e5 ≤ e7)))
 else
 (some (x3.1, x3.2.1, x3.2.2.1, x3.2.2.2.1, x3.2.2.2.2.1, x3.2.2.2.2.2.1, x3.2.2.2.2.2.2, false)))).bind fun x8 =>
 bif x8.2.2.2.2.2.2.2 then
 ((some false).bind fun r => some (Sum.inr r))
 else
 (rec4 (x8.1, x8.2.1, x8.2.2.1, x8.2.2.2.1, x8.2.2.2.2.1, x8.2.2.2.2.2.1, IntKind.wrap .i64 (x8.2.2.2.2.2.2.1 + (1 : Int)))))
 else
 (some (Sum.inl (x3.1, x3.2.1, x3.2.2.1, x3.2.2.2.1)))
def auto_Valid.L2 (f_auto_Valid_1 : (A56) → Option Bool) (x16 : A33) (rec17 : (A33) → Option (Sum (A16) (Sum Unit Bool))) : Option (Sum (A16) (Sum Unit Bool)) :=
 bif decide (x16.2.2.2.2.2.2.2.2.2 < x16.2.2.2.2.2.2.2.2.1) then
 ((nth? x16.2.2.2.2.2.2.2.1 x16.2.2.2.2.2.2.2.2.2).bind fun e18 =>
 (f_auto_Valid_1 (e18, x16.2.1, x16.2.2.1, x16.2.2.2.1)).bind fun r19 =>
 bif !r19 then
 (((some false).bind fun r => some (Sum.inr r)).bind fun r => some (Sum.inr r))
 else
 (rec17 (x16.1, x16.2.1, x16.2.2.1, x16.2.2.2.1, x16.2.2.2.2.1, x16.2.2.2.2.2.1, x16.2.2.2.2.2.2.1, x16.2.2.2.2.2.2.2.1, x16.2.2.2.2.2.2.2.2.1, IntKind.wrap .i64 (x16.2.2.2.2.2.2.2.2.2 + (1 : Int)))))
 else
 (some (Sum.inl (x16.1, x16.2.1, x16.2.2.1, x16.2.2.2.1, x16.2.2.2.2.1, x16.2.2.2.2.2.1, x16.2.2.2.2.2.2.1)))
def auto_Valid.L3 (f_auto_Valid_1 : (A56) → Option Bool) (n : Nat) (x10 : A16) (rec11 : (A16) → Option (Sum Unit Bool)) : Option (Sum Unit Bool) :=
 bif decide (x10.2.2.2.2.2.2 < x10.2.2.2.2.2.1) then
 ((nth? x10.2.2.2.2.1 x10.2.2.2.2.2.2).bind fun e12 =>
 (bif decide (e12.1 < (0 : Int)) then
 (some (x10.1, x10.2.1, x10.2.2.1, x10.2.2.2.1, e12.1, e12.2.1, e12.2.2, x10.2.2.2.2.1, x10.2.2.2.2.2.1, x10.2.2.2.2.2.2, true))
 else
 (bif decide (((List.length x10.1 : Nat) : Int) ≤ e12.1) then
 (some (x10.1, x10.2.1, x10.2.2.1, x10.2.2.2.1, e12.1, e12.2.1, e12.2.2, x10.2.2.2.2.1, x10.2.2.2.2.2.1, x10.2.2.2.2.2.2, true))
 else
 ((nth? x10.1 e12.1).bind fun e13 =>
 bif !decide (((List.length e12.2.1 : Nat) : Int) = e13) then
 (some (x10.1, x10.2.1, x10.2.2.1, x10.2.2.2.1, e12.1, e12.2.1, e12.2.2, x10.2.2.2.2.1, x10.2.2.2.2.2.1, x10.2.2.2.2.2.2, true))
 else
 ((f_auto_Valid_1 (e12.2.2, x10.2.1, x10.2.2.1, x10.2.2.2.1)).bind fun r14 =>
 some (x10.1, x10.2.1, x10.2.2.1, x10.2.2.2.1, e12.1, e12.2.1, e12.2.2, x10.2.2.2.2.1, x10.2.2.2.2.2.1, x10.2.2.2.2.2.2, !r14))))).bind fun x15 =>
 bif x15.2.2.2.2.2.2.2.2.2.2 then
 ((some false).bind fun r => some (Sum.inr r))
 else
 ((loopN (auto_Valid.L2 f_auto_Valid_1) n (x15.1, x15.2.1, x15.2.2.1, x15.2.2.2.1, x15.2.2.2.2.2.2.2.1, x15.2.2.2.2.2.2.2.2.1, x15.2.2.2.2.2.2.2.2.2.1, x15.2.2.2.2.2.1, ((List.length x15.2.2.2.2.2.1 : Nat) : Int), (0 : Int))).bind fun q => match q with
 | Sum.inl x20 => (rec11 (x20.1, x20.2.1, x20.2.2.1, x20.2.2.2.1, x20.2.2.2.2.1, x20.2.2.2.2.2.1, IntKind.wrap .i64 (x20.2.2.2.2.2.2 + (1 : Int))))
 | Sum.inr r => some r))
 else
 (some (Sum.inl ()))
def auto_Valid.P (f_auto_Valid_1 : (A56) → Option Bool) (f_tree_ValidAlphabet : List Int → Option Bool) (n : Nat) (x : A2) : Option Bool :=
 ((f_tree_ValidAlphabet x.1).bind fun r1 =>
 bif !r1 then
 (some (x.1, x.2.1, x.2.2.1, x.2.2.2, true))
 else
 (bif decide (x.2.1 < (0 : Int)) then
 (some (x.1, x.2.1, x.2.2.1, x.2.2.2, true))
 else
 (bif decide ((300 : Int) < x.2.1) then
 (some (x.1, x.2.1, x.2.2.1, x.2.2.2, true))
 else
 (some (x.1, x.2.1, x.2.2.1, x.2.2.2, decide ((20000 : Int) < ((List.length x.2.2.2 : Nat) : Int))))))).bind fun x2 =>
 bif x2.2.2.2.2 then
 (some false)
 else
 ((loopN (auto_Valid.L1 f_auto_Valid_1) n (x2.1, x2.2.1, x2.2.2.1, x2.2.2.2.1, x2.2.2.1, ((List.length x2.2.2.1 : Nat) : Int), (0 : Int))).bind fun q => match q with
 | Sum.inl x9 => ((loopN (auto_Valid.L3 f_auto_Valid_1 n) n (x9.1, x9.2.1, x9.2.2.1, x9.2.2.2, x9.2.2.2, ((List.length x9.2.2.2 : Nat) : Int), (0 : Int))).bind fun q => match q with
 | Sum.inl x21 => (some true)
 | Sum.inr r => some r)
 | Sum.inr r => some r)
def auto_Copy.L1 (f_slices_Clone_int_int : List Int → Option LI) (x2 : A98) (rec3 : (A98) → Option (A6)) : Option (A6) :=
 bif decide (x2.2.2.2.2.2.2.2.2 < x2.2.2.2.2.2.2.2.1) then
 ((nth? x2.2.2.2.2.2.2.1 x2.2.2.2.2.2.2.2.2).bind fun e4 =>
 (f_slices_Clone_int_int e4.2.1).bind fun r5 =>
 bif decide (List.length x2.2.2.2.2.2.1 + List.length ([(e4.1, r5, e4.2.2)] : List Ru) ≤ maxRows) then
 rec3 (x2.1, x2.2.1, x2.2.2.1, x2.2.2.2.1, x2.2.2.2.2.1, List.append x2.2.2.2.2.2.1 ([(e4.1, r5, e4.2.2)] : List Ru), x2.2.2.2.2.2.2.1, x2.2.2.2.2.2.2.2.1, IntKind.wrap .i64 (x2.2.2.2.2.2.2.2.2 + (1 : Int)))
 else none)
 else
 (some (x2.1, x2.2.1, x2.2.2.1, x2.2.2.2.1, x2.2.2.2.2.1, x2.2.2.2.2.2.1))
def auto_Copy.P (f_slices_Clone_int_int : List Int → Option LI) (n : Nat) (x : A3) : Option (A3) :=
 (f_slices_Clone_int_int x.2.1).bind fun r1 =>
 (loopN (auto_Copy.L1 f_slices_Clone_int_int) n ((0 : Int), ([] : List Int), ([] : List Ru), x.1, r1, ([] : List Ru), x.2.2, ((List.length x.2.2 : Nat) : Int), (0 : Int))).bind fun x6 =>
 some (x6.2.2.2.1, x6.2.2.2.2.1, x6.2.2.2.2.2)
def ref01_ValidAlphabet.L1 (x1 : A86) (rec2 : (A86) → Option (Sum Unit Bool)) : Option (Sum Unit Bool) :=
 bif decide (x1.2.2 < x1.2.1) then
 ((nth? x1.1 x1.2.2).bind fun e3 =>
 (bif decide (e3 < (0 : Int)) then
 (some (x1.1, x1.2.1, x1.2.2, true))
 else
 (some (x1.1, x1.2.1, x1.2.2, decide ((3 : Int) < e3)))).bind fun x4 =>
 bif x4.2.2.2 then
 ((some false).bind fun r => some (Sum.inr r))
 else
 (rec2 (x4.1, x4.2.1, IntKind.wrap .i64 (x4.2.2.1 + (1 : Int)))))
 else
 (some (Sum.inl ()))
def ref01_ValidAlphabet.P (n : Nat) (x : List Int) : Option Bool :=
 bif decide ((12 : Int) < ((List.length x : Nat) : Int)) then
 (some false)
 else
 ((loopN (ref01_ValidAlphabet.L1) n (x, ((List.length x : Nat) : Int), (0 : Int))).bind fun q => match q with
 | Sum.inl x5 => (some true)
 | Sum.inr r => some r)
def ref03_Valid.L1 (x3 : A66) (rec4 : (A66) → Option (Sum (A2) Bool)) : Option (Sum (A2) Bool) :=
 bif decide (x3.2.2.2.2.2.2 < x3.2.2.2.2.2.1) then
 ((nth? x3.2.2.2.2.1 x3.2.2.2.2.2.2).bind fun e5 =>
 (bif decide (e5 < (0 : Int)) then
 (some (x3.1, x3.2.1, x3.2.2.1, x3.2.2.2.1, x3.2.2.2.2.1, x3.2.2.2.2.2.1, x3.2.2.2.2.2.2, true))
 else
 (bif decide (x3.2.1 ≤ e5) then
 (some (x3.1, x3.2.1, x3.2.2.1, x3.2.2.2.1, x3.2.2.2.2.1, x3.2.2.2.2.2.1, x3.2.2.2.2.2.2, true))
 else
 (bif decide ((0 : Int) < x3.2.2.2.2.2.2) then
 ((nth? x3.2.2.1 (IntKind.wrap .i64 (x3.2.2.2.2.2.2 - (1 : Int)))).bind fun e6 =>
 some (x3.1, x3.2.1, x3.2.2.1, x3.2.2.2.1, x3.2.2.2.2.1, x3.2.2.2.2.2.1, x3.2.2.2.2.2.2, decide (e5 ≤ e6)))
 else
 (some (x3.1, x3.2.1, x3.2.2.1, x3.2.2.2.1, x3.2.2.2.2.1, x3.2.2.2.2.2.1, x3.2.2.2.2.2.2, false))))).bind fun x7 =>
 bif x7.2.2.2.2.2.2.2 then
 ((some false).bind fun r => some (Sum.inr r))
 else
 (rec4 (x7.1, x7.2.1, x7.2.2.1, x7.2.2.2.1, x7.2.2.2.2.1, x7.2.2.2.2.2.1, IntKind.wrap .i64 (x7.2.2.2.2.2.2.1 + (1 : Int)))))
 else
 (some (Sum.inl (x3.1, x3.2.1, x3.2.2.1, x3.2.2.2.1)))
def ref03_Valid.L2 (x14 : A33) (rec15 : (A33) → Option (Sum (A16) (Sum Unit Bool))) : Option (Sum (A16) (Sum Unit Bool)) :=
 bif decide (x14.2.2.2.2.2.2.2.2.2 < x14.2.2.2.2.2.2.2.2.1) then
 ((nth? x14.2.2.2.2.2.2.2.1 x14.2.2.2.2.2.2.2.2.2).bind fun e16 =>
 (bif decide (e16 < (0 : Int)) then
 (some (x14.1, x14.2.1, x14.2.2.1, x14.2.2.2.1, x14.2.2.2.2.1, x14.2.2.2.2.2.1, x14.2.2.2.2.2.2.1, x14.2.2.2.2.2.2.2.1, x14.2.2.2.2.2.2.2.2.1, x14.2.2.2.2.2.2.2.2.2, true))
 else
 (some (x14.1, x14.2.1, x14.2.2.1, x14.2.2.2.1, x14.2.2.2.2.1, x14.2.2.2.2.2.1, x14.2.2.2.2.2.2.1, x14.2.2.2.2.2.2.2.1, x14.2.2.2.2.2.2.2.2.1, x14.2.2.2.2.2.2.2.2.2, decide (x14.2.1 ≤ e16)))).bind fun x17 =>
 bif x17.2.2.2.2.2.2.2.2.2.2 then
 (((some false).bind fun r => some (Sum.inr r)).bind fun r => some (Sum.inr r))
 else
 (rec15 (x17.1, x17.2.1, x17.2.2.1, x17.2.2.2.1, x17.2.2.2.2.1, x17.2.2.2.2.2.1, x17.2.2.2.2.2.2.1, x17.2.2.2.2.2.2.2.1, x17.2.2.2.2.2.2.2.2.1, IntKind.wrap .i64 (x17.2.2.2.2.2.2.2.2.2.1 + (1 : Int)))))
 else
 (some (Sum.inl (x14.1, x14.2.1, x14.2.2.1, x14.2.2.2.1, x14.2.2.2.2.1, x14.2.2.2.2.2.1, x14.2.2.2.2.2.2.1)))
def ref03_Valid.L3 (n : Nat) (x9 : A16) (rec10 : (A16) → Option (Sum Unit Bool)) : Option (Sum Unit Bool) :=
 bif decide (x9.2.2.2.2.2.2 < x9.2.2.2.2.2.1) then
 ((nth? x9.2.2.2.2.1 x9.2.2.2.2.2.2).bind fun e11 =>
 (bif decide (e11.1 < (0 : Int)) then
 (some (x9.1, x9.2.1, x9.2.2.1, x9.2.2.2.1, e11.1, e11.2.1, e11.2.2, x9.2.2.2.2.1, x9.2.2.2.2.2.1, x9.2.2.2.2.2.2, true))
 else
 (bif decide (((List.length x9.1 : Nat) : Int) ≤ e11.1) then
 (some (x9.1, x9.2.1, x9.2.2.1, x9.2.2.2.1, e11.1, e11.2.1, e11.2.2, x9.2.2.2.2.1, x9.2.2.2.2.2.1, x9.2.2.2.2.2.2, true))
 else
 ((nth? x9.1 e11.1).bind fun e12 =>
 bif !decide (((List.length e11.2.1 : Nat) : Int) = e12) then
 (some (x9.1, x9.2.1, x9.2.2.1, x9.2.2.2.1, e11.1, e11.2.1, e11.2.2, x9.2.2.2.2.1, x9.2.2.2.2.2.1, x9.2.2.2.2.2.2, true))
 else
 (bif decide (e11.2.2 < (0 : Int)) then
 (some (x9.1, x9.2.1, x9.2.2.1, x9.2.2.2.1, e11.1, e11.2.1, e11.2.2, x9.2.2.2.2.1, x9.2.2.2.2.2.1, x9.2.2.2.2.2.2, true))
 else
 (some (x9.1, x9.2.1, x9.2.2.1, x9.2.2.2.1, e11.1, e11.2.1, e11.2.2, x9.2.2.2.2.1, x9.2.2.2.2.2.1, x9.2.2.2.2.2.2, decide (x9.2.1 ≤ e11.2.2))))))).bind fun x13 =>
 bif x13.2.2.2.2.2.2.2.2.2.2 then
 ((some false).bind fun r => some (Sum.inr r))
 else
 ((loopN (ref03_Valid.L2) n (x13.1, x13.2.1, x13.2.2.1, x13.2.2.2.1, x13.2.2.2.2.2.2.2.1, x13.2.2.2.2.2.2.2.2.1, x13.2.2.2.2.2.2.2.2.2.1, x13.2.2.2.2.2.1, ((List.length x13.2.2.2.2.2.1 : Nat) : Int), (0 : Int))).bind fun q => match q with
 | Sum.inl x18 => (rec10 (x18.1, x18.2.1, x18.2.2.1, x18.2.2.2.1, x18.2.2.2.2.1, x18.2.2.2.2.2.1, IntKind.wrap .i64 (x18.2.2.2.2.2.2 + (1 : Int))))
 | Sum.inr r => some r))
 else
 (some (Sum.inl ()))
def ref03_Valid.P (f_ref01_ValidAlphabet : List Int → Option Bool) (n : Nat) (x : A2) : Option Bool :=
 ((f_ref01_ValidAlphabet x.1).bind fun r1 =>
 bif !r1 then
 (some (x.1, x.2.1, x.2.2.1, x.2.2.2, true))
 else
 (bif decide (x.2.1 < (0 : Int)) then
 (some (x.1, x.2.1, x.2.2.1, x.2.2.2, true))
 else
 (bif decide ((300 : Int) < x.2.1) then
 (some (x.1, x.2.1, x.2.2.1, x.2.2.2, true))
 else
 (some (x.1, x.2.1, x.2.2.1, x.2.2.2, decide ((20000 : Int) < ((List.length x.2.2.2 : Nat) : Int))))))).bind fun x2 =>
 bif x2.2.2.2.2 then
 (some false)
 else
 ((loopN (ref03_Valid.L1) n (x2.1, x2.2.1, x2.2.2.1, x2.2.2.2.1, x2.2.2.1, ((List.length x2.2.2.1 : Nat) : Int), (0 : Int))).bind fun q => match q with
 | Sum.inl x8 => ((loopN (ref03_Valid.L3 n) n (x8.1, x8.2.1, x8.2.2.1, x8.2.2.2, x8.2.2.2, ((List.length x8.2.2.2 : Nat) : Int), (0 : Int))).bind fun q => match q with
 | Sum.inl x19 => (some true)
 | Sum.inr r => some r)
 | Sum.inr r => some r)
def ref03_In.L1 (x1 : A105) (rec2 : (A105) → Option (Sum Unit Bool)) : Option (Sum Unit Bool) :=
 bif decide (x1.2.2.2 < x1.2.2.1) then
 ((nth? x1.2.1 x1.2.2.2).bind fun e3 =>
 bif decide (e3 = x1.1) then
 ((some true).bind fun r => some (Sum.inr r))
 else
 (rec2 (x1.1, x1.2.1, x1.2.2.1, IntKind.wrap .i64 (x1.2.2.2 + (1 : Int)))))
 else
 (some (Sum.inl ()))
def ref03_In.P (n : Nat) (x : A18) : Option Bool :=
 (loopN (ref03_In.L1) n (x.2, x.1, ((List.length x.1 : Nat) : Int), (0 : Int))).bind fun q => match q with
 | Sum.inl x4 => (some false)
 | Sum.inr r => some r
def ref03_Insert.L1 (x1 : A86) (rec2 : (A86) → Option (A86)) : Option (A86) :=
 (bif decide (x1.2.2 < ((List.length x1.1 : Nat) : Int)) then
 ((nth? x1.1 x1.2.2).bind fun e3 =>
 some (x1.1, x1.2.1, x1.2.2, decide (e3 < x1.2.1)))
 else
 (some (x1.1, x1.2.1, x1.2.2, false))).bind fun x4 =>
 bif x4.2.2.2 then
 (rec2 (x4.1, x4.2.1, IntKind.wrap .i64 (x4.2.2.1 + (1 : Int))))
 else
 (some (x4.1, x4.2.1, x4.2.2.1))
def ref03_Insert.P (n : Nat) (x : A18) : Option LI :=
 (loopN (ref03_Insert.L1) n (x.1, x.2, (0 : Int))).bind fun x5 =>
 (bif decide (x5.2.2 < ((List.length x5.1 : Nat) : Int)) then
 ((nth? x5.1 x5.2.2).bind fun e6 =>
 some (x5.1, x5.2.1, x5.2.2, decide (e6 = x5.2.1)))
 else
 (some (x5.1, x5.2.1, x5.2.2, false))).bind fun x7 =>
 bif x7.2.2.2 then
 (some x7.1)
 else
 (bif decide (0 ≤ 0) && decide (0 ≤ x7.2.2.1) && decide (x7.2.2.1 ≤ ((List.length x7.1 : Nat) : Int)) then
 bif decide (List.length ([] : List Int) + List.length (List.drop (Int.toNat 0) (List.take (Int.toNat x7.2.2.1) x7.1)) ≤ maxRows) then
 bif decide (List.length (List.append ([] : List Int) (List.drop (Int.toNat 0) (List.take (Int.toNat x7.2.2.1) x7.1))) + List.length ([x7.2.1] : List Int) ≤ maxRows) then
 bif decide (0 ≤ x7.2.2.1) && decide (x7.2.2.1 ≤ ((List.length x7.1 : Nat) : Int)) && decide (((List.length x7.1 : Nat) : Int) ≤ ((List.length x7.1 : Nat) : Int)) then
 bif decide (List.length (List.append (List.append ([] : List Int) (List.drop (Int.toNat 0) (List.take (Int.toNat x7.2.2.1) x7.1))) ([x7.2.1] : List Int)) + List.length (List.drop (Int.toNat x7.2.2.1) (List.take (Int.toNat ((List.length x7.1 : Nat) : Int)) x7.1)) ≤ maxRows) then
 some (List.append (List.append (List.append ([] : List Int) (List.drop (Int.toNat 0) (List.take (Int.toNat x7.2.2.1) x7.1))) ([x7.2.1] : List Int)) (List.drop (Int.toNat x7.2.2.1) (List.take (Int.toNat ((List.length x7.1 : Nat) : Int)) x7.1)))
 else none
 else none
 else none
 else none
 else none)
def ref03_Step.L1 (f_ref03_In : (A18) → Option Bool) (x4 : A80) (rec5 : (A80) → Option (A87)) : Option (A87) :=
 (bif x4.2.2.2.2.2.2.1 then
 (some (x4.1, x4.2.1, x4.2.2.1, x4.2.2.2.1, x4.2.2.2.2.1, x4.2.2.2.2.2.1, x4.2.2.2.2.2.2.1, x4.2.2.2.2.2.2.2.1, x4.2.2.2.2.2.2.2.2.1, x4.2.2.2.2.2.2.2.2.2.1, x4.2.2.2.2.2.2.2.2.2.2, decide (x4.2.2.2.2.2.2.2.1 < ((List.length x4.2.1 : Nat) : Int))))
 else
 (some (x4.1, x4.2.1, x4.2.2.1, x4.2.2.2.1, x4.2.2.2.2.1, x4.2.2.2.2.2.1, x4.2.2.2.2.2.2.1, x4.2.2.2.2.2.2.2.1, x4.2.2.2.2.2.2.2.2.1, x4.2.2.2.2.2.2.2.2.2.1, x4.2.2.2.2.2.2.2.2.2.2, false))).bind fun x6 =>
 bif x6.2.2.2.2.2.2.2.2.2.2.2 then
 ((nth? x6.2.1 x6.2.2.2.2.2.2.2.1).bind fun e7 =>
 (nth? x6.2.2.2.2.1 x6.2.2.2.2.2.2.2.1).bind fun e8 =>
 (f_ref03_In (e7, e8)).bind fun r9 =>
 rec5 (x6.1, x6.2.1, x6.2.2.1, x6.2.2.2.1, x6.2.2.2.2.1, x6.2.2.2.2.2.1, r9, IntKind.wrap .i64 (x6.2.2.2.2.2.2.2.1 + (1 : Int)), x6.2.2.2.2.2.2.2.2.1, x6.2.2.2.2.2.2.2.2.2.1, x6.2.2.2.2.2.2.2.2.2.2.1))
 else
 (some (x6.1, x6.2.1, x6.2.2.1, x6.2.2.2.1, x6.2.2.2.2.1, x6.2.2.2.2.2.1, x6.2.2.2.2.2.2.1, x6.2.2.2.2.2.2.2.2.1, x6.2.2.2.2.2.2.2.2.2.1, x6.2.2.2.2.2.2.2.2.2.2.1))
def ref03_Step.L2 (f_ref03_In : (A18) → Option Bool) (n : Nat) (f_ref03_Insert : (A18) → Option LI) (x1 : A115) (rec2 : (A115) → Option LI) : Option LI :=
 bif decide (x1.2.2.2.2.2 < x1.2.2.2.2.1) then
 ((nth? x1.2.2.2.1 x1.2.2.2.2.2).bind fun e3 =>
 (loopN (ref03_Step.L1 f_ref03_In) n (x1.1, x1.2.1, x1.2.2.1, e3.1, e3.2.1, e3.2.2, decide (e3.1 = x1.1), (0 : Int), x1.2.2.2.1, x1.2.2.2.2.1, x1.2.2.2.2.2)).bind fun x10 =>
 (bif x10.2.2.2.2.2.2.1 then
 ((f_ref03_Insert (x10.2.2.1, x10.2.2.2.2.2.1)).bind fun r11 =>
 some (x10.1, x10.2.1, r11, x10.2.2.2.2.2.2.2.1, x10.2.2.2.2.2.2.2.2.1, x10.2.2.2.2.2.2.2.2.2))
 else
 (some (x10.1, x10.2.1, x10.2.2.1, x10.2.2.2.2.2.2.2.1, x10.2.2.2.2.2.2.2.2.1, x10.2.2.2.2.2.2.2.2.2))).bind fun x12 =>
 rec2 (x12.1, x12.2.1, x12.2.2.1, x12.2.2.2.1, x12.2.2.2.2.1, IntKind.wrap .i64 (x12.2.2.2.2.2 + (1 : Int))))
 else
 (some x1.2.2.1)
def ref03_Step.P (f_ref03_In : (A18) → Option Bool) (f_ref03_Insert : (A18) → Option LI) (n : Nat) (x : A14) : Option LI :=
 (loopN (ref03_Step.L2 f_ref03_In n f_ref03_Insert) n (x.2.2.2.1, x.2.2.2.2, ([] : List Int), x.2.2.1, ((List.length x.2.2.1 : Nat) : Int), (0 : Int))).bind fun x13 =>
 some x13
def ref03_Of.L1 (f_ref03_Of : (A8) → Option LI) (x1 : A68) (rec2 : (A68) → Option (A104)) : Option (A104) :=
 bif decide (x1.2.2.2.2.2.2.2.2 < x1.2.2.2.2.2.2.2.1) then
 ((nth? x1.2.2.2.2.2.2.1 x1.2.2.2.2.2.2.2.2).bind fun e3 =>
 (f_ref03_Of (x1.1, x1.2.1, x1.2.2.1, RT.a e3, RT.kids e3)).bind fun r4 =>
 bif decide (List.length x1.2.2.2.2.2.1 + List.length ([r4] : List LI) ≤ maxRows) then
 rec2 (x1.1, x1.2.1, x1.2.2.1, x1.2.2.2.1, x1.2.2.2.2.1, List.append x1.2.2.2.2.2.1 ([r4] : List LI), x1.2.2.2.2.2.2.1, x1.2.2.2.2.2.2.2.1, IntKind.wrap .i64 (x1.2.2.2.2.2.2.2.2 + (1 : Int)))
 else none)
 else
 (some (x1.1, x1.2.1, x1.2.2.1, x1.2.2.2.1, x1.2.2.2.2.1, x1.2.2.2.2.2.1))
def ref03_Of.P (f_ref03_Of : (A8) → Option LI) (f_ref03_Step : (A14) → Option LI) (n : Nat) (x : A8) : Option LI :=
 (loopN (ref03_Of.L1 f_ref03_Of) n (x.1, x.2.1, x.2.2.1, x.2.2.2.1, x.2.2.2.2, ([] : List LI), x.2.2.2.2, ((List.length x.2.2.2.2 : Nat) : Int), (0 : Int))).bind fun x5 =>
 (f_ref03_Step (x5.1, x5.2.1, x5.2.2.1, x5.2.2.2.1, x5.2.2.2.2.2)).bind fun r6 =>
 some r6
def ref03_Meet.L1 (f_ref03_In : (A18) → Option Bool) (x1 : A57) (rec2 : (A57) → Option (Sum Unit Bool)) : Option (Sum Unit Bool) :=
 bif decide (x1.2.2.2 < x1.2.2.1) then
 ((nth? x1.2.1 x1.2.2.2).bind fun e3 =>
 (f_ref03_In (x1.1, e3)).bind fun r4 =>
 bif r4 then
 ((some true).bind fun r => some (Sum.inr r))
 else
 (rec2 (x1.1, x1.2.1, x1.2.2.1, IntKind.wrap .i64 (x1.2.2.2 + (1 : Int)))))
 else
 (some (Sum.inl ()))
def ref03_Meet.P (f_ref03_In : (A18) → Option Bool) (n : Nat) (x : A19) : Option Bool :=
 (loopN (ref03_Meet.L1 f_ref03_In) n (x.2, x.1, ((List.length x.1 : Nat) : Int), (0 : Int))).bind fun q => match q with
 | Sum.inl x5 => (some false)
 | Sum.inr r => some r
def ref03_Has.P (f_ref03_Meet : (A19) → Option Bool) (f_ref03_Of : (A8) → Option LI) (n : Nat) (x : A8) : Option Bool :=
 (f_ref03_Of (x.1, x.2.1, x.2.2.1, x.2.2.2.1, x.2.2.2.2)).bind fun r1 =>
 (f_ref03_Meet (r1, x.2.1)).bind fun r2 =>
 some r2
def boolean_mapped.L1 (x1 : A64) (rec2 : (A64) → Option (Sum Unit Int)) : Option (Sum Unit Int) :=
 bif decide (x1.2.2.2.2 < x1.2.2.2.1) then
 ((nth? x1.2.2.1 x1.2.2.2.2).bind fun e3 =>
 (bif decide (e3 < (0 : Int)) then
 (some (x1.1, x1.2.1, x1.2.2.1, x1.2.2.2.1, x1.2.2.2.2, true))
 else
 (bif decide (((List.length x1.2.1 : Nat) : Int) ≤ e3) then
 (some (x1.1, x1.2.1, x1.2.2.1, x1.2.2.2.1, x1.2.2.2.2, true))
 else
 ((nth? x1.2.1 e3).bind fun e4 =>
 (nth? x1.1 x1.2.2.2.2).bind fun e5 =>
 some (x1.1, x1.2.1, x1.2.2.1, x1.2.2.2.1, x1.2.2.2.2, !decide (e4 = e5))))).bind fun x6 =>
 bif x6.2.2.2.2.2 then
 ((some (6 : Int)).bind fun r => some (Sum.inr r))
 else
 (rec2 (x6.1, x6.2.1, x6.2.2.1, x6.2.2.2.1, IntKind.wrap .i64 (x6.2.2.2.2.1 + (1 : Int)))))
 else
 (some (Sum.inl ()))
def boolean_mapped.P (n : Nat) (x : A81) : Option Int :=
 bif !decide (((List.length x.2.2 : Nat) : Int) = ((List.length x.1 : Nat) : Int)) then
 (some (2 : Int))
 else
 ((loopN (boolean_mapped.L1) n (x.1, x.2.1, x.2.2, ((List.length x.2.2 : Nat) : Int), (0 : Int))).bind fun q => match q with
 | Sum.inl x7 => (some (0 : Int))
 | Sum.inr r => some r)
def math_bits_Len64.P (n : Nat) (x : Int) : Option Int :=
 (bif decide ((4294967296 : Int) ≤ x) then
 (bif decide (0 ≤ (32 : Int)) && decide ((32 : Int) ≤ ((IntKind.bits .u64 : Nat) : Int)) then
 some (x / 2 ^ Int.toNat (32 : Int), (32 : Int))
 else none)
 else
 (some (x, (0 : Int)))).bind fun x1 =>
 (bif decide ((65536 : Int) ≤ x1.1) then
 (bif decide (0 ≤ (16 : Int)) && decide ((16 : Int) ≤ ((IntKind.bits .u64 : Nat) : Int)) then
 some (x1.1 / 2 ^ Int.toNat (16 : Int), IntKind.wrap .i64 (x1.2 + (16 : Int)))
 else none)
 else
 (some (x1.1, x1.2))).bind fun x2 =>
 (bif decide ((256 : Int) ≤ x2.1) then
 (bif decide (0 ≤ (8 : Int)) && decide ((8 : Int) ≤ ((IntKind.bits .u64 : Nat) : Int)) then
 some (x2.1 / 2 ^ Int.toNat (8 : Int), IntKind.wrap .i64 (x2.2 + (8 : Int)))
 else none)
 else
 (some (x2.1, x2.2))).bind fun x3 =>
 (bytesAt ((ByteArray.mk (List.toArray ((List.append (List.append [0, 1, 2, 2, 3, 3, 3, 3, 4, 4, 4, 4, 4, 4, 4, 4, 5, 5, 5, 5, 5, 5, 5, 5, 5, 5, 5, 5, 5, 5, 5, 5, 6, 6, 6, 6, 6, 6, 6, 6, 6, 6, 6, 6, 6, 6, 6, 6, 6, 6, 6, 6, 6, 6, 6, 6, 6, 6, 6, 6, 6, 6, 6, 6] [7, 7, 7, 7, 7, 7, 7, 7, 7, 7, 7, 7, 7, 7, 7, 7, 7, 7, 7, 7, 7, 7, 7, 7, 7, 7, 7, 7, 7, 7, 7, 7, 7, 7, 7, 7, 7, 7, 7, 7, 7, 7, 7, 7, 7, 7, 7, 7, 7, 7, 7, 7, 7, 7, 7, 7, 7, 7, 7, 7, 7, 7, 7, 7]) (List.append [8, 8, 8, 8, 8, 8, 8, 8, 8, 8, 8, 8, 8, 8, 8, 8, 8, 8, 8, 8, 8, 8, 8, 8, 8, 8, 8, 8, 8, 8, 8, 8, 8, 8, 8, 8, 8, 8, 8, 8, 8, 8, 8, 8, 8, 8, 8, 8, 8, 8, 8, 8, 8, 8, 8, 8, 8, 8, 8, 8, 8, 8, 8, 8] [8, 8, 8, 8, 8, 8, 8, 8, 8, 8, 8, 8, 8, 8, 8, 8, 8, 8, 8, 8, 8, 8, 8, 8, 8, 8, 8, 8, 8, 8, 8, 8, 8, 8, 8, 8, 8, 8, 8, 8, 8, 8, 8, 8, 8, 8, 8, 8, 8, 8, 8, 8, 8, 8, 8, 8, 8, 8, 8, 8, 8, 8, 8, 8])) : List UInt8))) : ByteArray) (IntKind.wrap .u8 x3.1)).bind fun c4 =>
 some (IntKind.wrap .i64 (x3.2 + (IntKind.wrap .i64 c4)))
def math_bits_Len.P (f_math_bits_Len64 : Int → Option Int) (n : Nat) (x : Int) : Option Int :=
 (f_math_bits_Len64 x).bind fun r1 =>
 some r1
def cmp_isNaN_int.P (n : Nat) (x : Int) : Option Bool :=
 some (!decide (x = x))
def cmp_Compare_int.P (f_cmp_isNaN_int : Int → Option Bool) (n : Nat) (x : A11) : Option Int :=
 (f_cmp_isNaN_int x.1).bind fun r1 =>
 (f_cmp_isNaN_int x.2).bind fun r2 =>
 bif r1 then
 (bif r2 then
 (some (0 : Int))
 else
 (some (-1 : Int)))
 else
 (bif r2 then
 (some (1 : Int))
 else
 (bif decide (x.1 < x.2) then
 (some (-1 : Int))
 else
 (bif decide (x.2 < x.1) then
 (some (1 : Int))
 else
 (some (0 : Int)))))
def slices_Compare_int_int.L1 (f_cmp_Compare_int : (A11) → Option Int) (x1 : A64) (rec2 : (A64) → Option (Sum (A19) Int)) : Option (Sum (A19) Int) :=
 bif decide (x1.2.2.2.2 < x1.2.2.2.1) then
 ((nth? x1.2.2.1 x1.2.2.2.2).bind fun e3 =>
 bif decide (((List.length x1.2.1 : Nat) : Int) ≤ x1.2.2.2.2) then
 ((some (1 : Int)).bind fun r => some (Sum.inr r))
 else
 ((nth? x1.2.1 x1.2.2.2.2).bind fun e4 =>
 (f_cmp_Compare_int (e3, e4)).bind fun r5 =>
 bif !decide (r5 = (0 : Int)) then
 ((some r5).bind fun r => some (Sum.inr r))
 else
 (rec2 (x1.1, x1.2.1, x1.2.2.1, x1.2.2.2.1, IntKind.wrap .i64 (x1.2.2.2.2 + (1 : Int))))))
 else
 (some (Sum.inl (x1.1, x1.2.1)))
def slices_Compare_int_int.P (f_cmp_Compare_int : (A11) → Option Int) (n : Nat) (x : A19) : Option Int :=
 (loopN (slices_Compare_int_int.L1 f_cmp_Compare_int) n (x.1, x.2, x.1, ((List.length x.1 : Nat) : Int), (0 : Int))).bind fun q => match q with
 | Sum.inl x6 => (bif decide (((List.length x6.1 : Nat) : Int) < ((List.length x6.2 : Nat) : Int)) then
 (some (-1 : Int))
 else
 (some (0 : Int)))
 | Sum.inr r => some r
def cmp_Or_int.L1 (x1 : A105) (rec2 : (A105) → Option (Sum Int Int)) : Option (Sum Int Int) :=
 bif decide (x1.2.2.2 < x1.2.2.1) then
 ((nth? x1.2.1 x1.2.2.2).bind fun e3 =>
 bif !decide (e3 = x1.1) then
 ((some e3).bind fun r => some (Sum.inr r))
 else
 (rec2 (x1.1, x1.2.1, x1.2.2.1, IntKind.wrap .i64 (x1.2.2.2 + (1 : Int)))))
 else
 (some (Sum.inl x1.1))
def cmp_Or_int.P (n : Nat) (x : List Int) : Option Int :=
 (loopN (cmp_Or_int.L1) n ((0 : Int), x, ((List.length x : Nat) : Int), (0 : Int))).bind fun q => match q with
 | Sum.inl x4 => (some x4)
 | Sum.inr r => some r
def auto_Order.P (f_cmp_Compare_int : (A11) → Option Int) (f_cmp_Or_int : List Int → Option Int) (f_slices_Compare_int_int : (A19) → Option Int) (n : Nat) (x : A1) : Option Int :=
 (f_cmp_Compare_int (x.1, x.2.2.2.1)).bind fun r1 =>
 (f_slices_Compare_int_int (x.2.1, x.2.2.2.2.1)).bind fun r2 =>
 (f_cmp_Compare_int (x.2.2.1, x.2.2.2.2.2)).bind fun r3 =>
 (f_cmp_Or_int ([r1, r2, r3] : List Int)).bind fun r4 =>
 some r4
def slices_insertionSortX.L1 (f_auto_Order : (A1) → Option Int) (x3 : A5) (rec4 : (A5) → Option (A0)) : Option (A0) :=
 (bif decide (x3.2.1 < x3.2.2.2.2) then
 (bif decide (0 ≤ x3.2.2.2.2) && decide (x3.2.2.2.2 < ((List.length x3.1 : Nat) : Int)) then
 (at? x3.1 (Int.toNat x3.2.2.2.2)).bind fun e5 =>
 bif decide (0 ≤ (IntKind.wrap .i64 (x3.2.2.2.2 - (1 : Int)))) && decide ((IntKind.wrap .i64 (x3.2.2.2.2 - (1 : Int))) < ((List.length x3.1 : Nat) : Int)) then
 (at? x3.1 (Int.toNat (IntKind.wrap .i64 (x3.2.2.2.2 - (1 : Int))))).bind fun e6 =>
 (f_auto_Order (e5.1, e5.2.1, e5.2.2, e6.1, e6.2.1, e6.2.2)).bind fun r7 =>
 some (x3.1, x3.2.1, x3.2.2.1, x3.2.2.2.1, x3.2.2.2.2, decide (r7 < (0 : Int)))
 else none
 else none)
 else
 (some (x3.1, x3.2.1, x3.2.2.1, x3.2.2.2.1, x3.2.2.2.2, false))).bind fun x8 =>
 bif x8.2.2.2.2.2 then
 (bif decide (0 ≤ (IntKind.wrap .i64 (x8.2.2.2.2.1 - (1 : Int)))) && decide ((IntKind.wrap .i64 (x8.2.2.2.2.1 - (1 : Int))) < ((List.length x8.1 : Nat) : Int)) then
 (at? x8.1 (Int.toNat (IntKind.wrap .i64 (x8.2.2.2.2.1 - (1 : Int))))).bind fun e9 =>
 bif decide (0 ≤ x8.2.2.2.2.1) && decide (x8.2.2.2.2.1 < ((List.length x8.1 : Nat) : Int)) then
 (at? x8.1 (Int.toNat x8.2.2.2.2.1)).bind fun e10 =>
 bif decide (0 ≤ x8.2.2.2.2.1) && decide (x8.2.2.2.2.1 < ((List.length x8.1 : Nat) : Int)) then
 (at? x8.1 (Int.toNat x8.2.2.2.2.1)).bind fun e11 =>
 bif decide (0 ≤ (IntKind.wrap .i64 (x8.2.2.2.2.1 - (1 : Int)))) && decide ((IntKind.wrap .i64 (x8.2.2.2.2.1 - (1 : Int))) < ((List.length (List.set x8.1 (Int.toNat x8.2.2.2.2.1) (e9.1, e9.2.1, e9.2.2)) : Nat) : Int)) then
 (at? (List.set x8.1 (Int.toNat x8.2.2.2.2.1) (e9.1, e9.2.1, e9.2.2)) (Int.toNat (IntKind.wrap .i64 (x8.2.2.2.2.1 - (1 : Int))))).bind fun e12 =>
 rec4 (List.set (List.set x8.1 (Int.toNat x8.2.2.2.2.1) (e9.1, e9.2.1, e9.2.2)) (Int.toNat (IntKind.wrap .i64 (x8.2.2.2.2.1 - (1 : Int)))) (e10.1, e10.2.1, e10.2.2), x8.2.1, x8.2.2.1, x8.2.2.2.1, IntKind.wrap .i64 (x8.2.2.2.2.1 - (1 : Int)))
 else none
 else none
 else none
 else none)
 else
 (some (x8.1, x8.2.1, x8.2.2.1, x8.2.2.2.1))
def slices_insertionSortX.L2 (f_auto_Order : (A1) → Option Int) (n : Nat) (x1 : A0) (rec2 : (A0) → Option LR) : Option LR :=
 bif decide (x1.2.2.2 < x1.2.2.1) then
 ((loopN (slices_insertionSortX.L1 f_auto_Order) n (x1.1, x1.2.1, x1.2.2.1, x1.2.2.2, x1.2.2.2)).bind fun x13 =>
 rec2 (x13.1, x13.2.1, x13.2.2.1, IntKind.wrap .i64 (x13.2.2.2 + (1 : Int))))
 else
 (some x1.1)
def slices_insertionSortX.P (f_auto_Order : (A1) → Option Int) (n : Nat) (x : A4) : Option LR :=
 (loopN (slices_insertionSortX.L2 f_auto_Order n) n (x.1, x.2.1, x.2.2, IntKind.wrap .i64 (x.2.1 + (1 : Int)))).bind fun x14 =>
 some x14
def slices_siftDownX.L1 (f_auto_Order : (A1) → Option Int) (x1 : A0) (rec2 : (A0) → Option (Sum LR LR)) : Option (Sum LR LR) :=
 bif decide (x1.2.1 ≤ (IntKind.wrap .i64 ((IntKind.wrap .i64 ((2 : Int) * x1.2.2.2)) + (1 : Int)))) then
 (some (Sum.inl x1.1))
 else
 ((bif decide ((IntKind.wrap .i64 ((IntKind.wrap .i64 ((IntKind.wrap .i64 ((2 : Int) * x1.2.2.2)) + (1 : Int))) + (1 : Int))) < x1.2.1) then
 (bif decide (0 ≤ (IntKind.wrap .i64 (x1.2.2.1 + (IntKind.wrap .i64 ((IntKind.wrap .i64 ((2 : Int) * x1.2.2.2)) + (1 : Int)))))) && decide ((IntKind.wrap .i64 (x1.2.2.1 + (IntKind.wrap .i64 ((IntKind.wrap .i64 ((2 : Int) * x1.2.2.2)) + (1 : Int))))) < ((List.length x1.1 : Nat) : Int)) then
 (at? x1.1 (Int.toNat (IntKind.wrap .i64 (x1.2.2.1 + (IntKind.wrap .i64 ((IntKind.wrap .i64 ((2 : Int) * x1.2.2.2)) + (1 : Int))))))).bind fun e3 =>
 bif decide (0 ≤ (IntKind.wrap .i64 ((IntKind.wrap .i64 (x1.2.2.1 + (IntKind.wrap .i64 ((IntKind.wrap .i64 ((2 : Int) * x1.2.2.2)) + (1 : Int))))) + (1 : Int)))) && decide ((IntKind.wrap .i64 ((IntKind.wrap .i64 (x1.2.2.1 + (IntKind.wrap .i64 ((IntKind.wrap .i64 ((2 : Int) * x1.2.2.2)) + (1 : Int))))) + (1 : Int))) < ((List.length x1.1 : Nat) : Int)) then
 (at? x1.1 (Int.toNat (IntKind.wrap .i64 ((IntKind.wrap .i64 (x1.2.2.1 + (IntKind.wrap .i64 ((IntKind.wrap .i64 ((2 : Int) * x1.2.2.2)) + (1 : Int))))) + (1 : Int))))).bind fun e4 =>
 (f_auto_Order (e3.1, e3.2.1, e3.2.2, e4.1, e4.2.1, e4.2.2)).bind fun r5 =>
 some (x1.1, x1.2.1, x1.2.2.1, x1.2.2.2, IntKind.wrap .i64 ((IntKind.wrap .i64 ((2 : Int) * x1.2.2.2)) + (1 : Int)), decide (r5 < (0 : Int)))
 else none
 else none)
 else
 (some (x1.1, x1.2.1, x1.2.2.1, x1.2.2.2, IntKind.wrap .i64 ((IntKind.wrap .i64 ((2 : Int) * x1.2.2.2)) + (1 : Int)), false))).bind fun x6 =>
 (bif x6.2.2.2.2.2 then
 (some (x6.1, x6.2.1, x6.2.2.1, x6.2.2.2.1, IntKind.wrap .i64 (x6.2.2.2.2.1 + (1 : Int))))
 else
 (some (x6.1, x6.2.1, x6.2.2.1, x6.2.2.2.1, x6.2.2.2.2.1))).bind fun x7 =>
 bif decide (0 ≤ (IntKind.wrap .i64 (x7.2.2.1 + x7.2.2.2.1))) && decide ((IntKind.wrap .i64 (x7.2.2.1 + x7.2.2.2.1)) < ((List.length x7.1 : Nat) : Int)) then
 (at? x7.1 (Int.toNat (IntKind.wrap .i64 (x7.2.2.1 + x7.2.2.2.1)))).bind fun e8 =>
 bif decide (0 ≤ (IntKind.wrap .i64 (x7.2.2.1 + x7.2.2.2.2))) && decide ((IntKind.wrap .i64 (x7.2.2.1 + x7.2.2.2.2)) < ((List.length x7.1 : Nat) : Int)) then
 (at? x7.1 (Int.toNat (IntKind.wrap .i64 (x7.2.2.1 + x7.2.2.2.2)))).bind fun e9 =>
 (f_auto_Order (e8.1, e8.2.1, e8.2.2, e9.1, e9.2.1, e9.2.2)).bind fun r10 =>
 bif !(decide (r10 < (0 : Int))) then
 ((some x7.1).bind fun r => some (Sum.inr r))
 else
 (bif decide (0 ≤ (IntKind.wrap .i64 (x7.2.2.1 + x7.2.2.2.2))) && decide ((IntKind.wrap .i64 (x7.2.2.1 + x7.2.2.2.2)) < ((List.length x7.1 : Nat) : Int)) then
 (at? x7.1 (Int.toNat (IntKind.wrap .i64 (x7.2.2.1 + x7.2.2.2.2)))).bind fun e11 =>
 bif decide (0 ≤ (IntKind.wrap .i64 (x7.2.2.1 + x7.2.2.2.1))) && decide ((IntKind.wrap .i64 (x7.2.2.1 + x7.2.2.2.1)) < ((List.length x7.1 : Nat) : Int)) then
 (at? x7.1 (Int.toNat (IntKind.wrap .i64 (x7.2.2.1 + x7.2.2.2.1)))).bind fun e12 =>
 bif decide (0 ≤ (IntKind.wrap .i64 (x7.2.2.1 + x7.2.2.2.1))) && decide ((IntKind.wrap .i64 (x7.2.2.1 + x7.2.2.2.1)) < ((List.length x7.1 : Nat) : Int)) then
 (at? x7.1 (Int.toNat (IntKind.wrap .i64 (x7.2.2.1 + x7.2.2.2.1)))).bind fun e13 =>
 bif decide (0 ≤ (IntKind.wrap .i64 (x7.2.2.1 + x7.2.2.2.2))) && decide ((IntKind.wrap .i64 (x7.2.2.1 + x7.2.2.2.2)) < ((List.length (List.set x7.1 (Int.toNat (IntKind.wrap .i64 (x7.2.2.1 + x7.2.2.2.1))) (e11.1, e11.2.1, e11.2.2)) : Nat) : Int)) then
 (at? (List.set x7.1 (Int.toNat (IntKind.wrap .i64 (x7.2.2.1 + x7.2.2.2.1))) (e11.1, e11.2.1, e11.2.2)) (Int.toNat (IntKind.wrap .i64 (x7.2.2.1 + x7.2.2.2.2)))).bind fun e14 =>
 rec2 (List.set (List.set x7.1 (Int.toNat (IntKind.wrap .i64 (x7.2.2.1 + x7.2.2.2.1))) (e11.1, e11.2.1, e11.2.2)) (Int.toNat (IntKind.wrap .i64 (x7.2.2.1 + x7.2.2.2.2))) (e12.1, e12.2.1, e12.2.2), x7.2.1, x7.2.2.1, x7.2.2.2.2)
 else none
 else none
 else none
 else none)
 else none
 else none)
def slices_siftDownX.P (f_auto_Order : (A1) → Option Int) (n : Nat) (x : A0) : Option LR :=
 (loopN (slices_siftDownX.L1 f_auto_Order) n (x.1, x.2.2.1, x.2.2.2, x.2.1)).bind fun q => match q with
 | Sum.inl x15 => (some x15)
 | Sum.inr r => some r
def slices_heapSortX.L1 (f_slices_siftDownX : (A0) → Option LR) (x1 : A5) (rec2 : (A5) → Option (A0)) : Option (A0) :=
 bif decide ((0 : Int) ≤ x1.2.2.2.2) then
 ((f_slices_siftDownX (x1.1, x1.2.2.2.2, x1.2.2.2.1, x1.2.1)).bind fun r3 =>
 rec2 (r3, x1.2.1, x1.2.2.1, x1.2.2.2.1, IntKind.wrap .i64 (x1.2.2.2.2 - (1 : Int))))
 else
 (some (x1.1, x1.2.1, x1.2.2.1, x1.2.2.2.1))
def slices_heapSortX.L2 (f_slices_siftDownX : (A0) → Option LR) (x5 : A0) (rec6 : (A0) → Option LR) : Option LR :=
 bif decide ((0 : Int) ≤ x5.2.2.2) then
 (bif decide (0 ≤ (IntKind.wrap .i64 (x5.2.1 + x5.2.2.2))) && decide ((IntKind.wrap .i64 (x5.2.1 + x5.2.2.2)) < ((List.length x5.1 : Nat) : Int)) then
 (at? x5.1 (Int.toNat (IntKind.wrap .i64 (x5.2.1 + x5.2.2.2)))).bind fun e7 =>
 bif decide (0 ≤ x5.2.1) && decide (x5.2.1 < ((List.length x5.1 : Nat) : Int)) then
 (at? x5.1 (Int.toNat x5.2.1)).bind fun e8 =>
 bif decide (0 ≤ x5.2.1) && decide (x5.2.1 < ((List.length x5.1 : Nat) : Int)) then
 (at? x5.1 (Int.toNat x5.2.1)).bind fun e9 =>
 bif decide (0 ≤ (IntKind.wrap .i64 (x5.2.1 + x5.2.2.2))) && decide ((IntKind.wrap .i64 (x5.2.1 + x5.2.2.2)) < ((List.length (List.set x5.1 (Int.toNat x5.2.1) (e7.1, e7.2.1, e7.2.2)) : Nat) : Int)) then
 (at? (List.set x5.1 (Int.toNat x5.2.1) (e7.1, e7.2.1, e7.2.2)) (Int.toNat (IntKind.wrap .i64 (x5.2.1 + x5.2.2.2)))).bind fun e10 =>
 (f_slices_siftDownX (List.set (List.set x5.1 (Int.toNat x5.2.1) (e7.1, e7.2.1, e7.2.2)) (Int.toNat (IntKind.wrap .i64 (x5.2.1 + x5.2.2.2))) (e8.1, e8.2.1, e8.2.2), x5.2.2.1, x5.2.2.2, x5.2.1)).bind fun r11 =>
 rec6 (r11, x5.2.1, x5.2.2.1, IntKind.wrap .i64 (x5.2.2.2 - (1 : Int)))
 else none
 else none
 else none
 else none)
 else
 (some x5.1)
def slices_heapSortX.P (f_slices_siftDownX : (A0) → Option LR) (n : Nat) (x : A4) : Option LR :=
 bif !decide ((2 : Int) = 0) then
 (loopN (slices_heapSortX.L1 f_slices_siftDownX) n (x.1, x.2.1, (0 : Int), IntKind.wrap .i64 (x.2.2 - x.2.1), IntKind.wrap .i64 (Int.tdiv (IntKind.wrap .i64 ((IntKind.wrap .i64 (x.2.2 - x.2.1)) - (1 : Int))) (2 : Int)))).bind fun x4 =>
 (loopN (slices_heapSortX.L2 f_slices_siftDownX) n (x4.1, x4.2.1, x4.2.2.1, IntKind.wrap .i64 (x4.2.2.2 - (1 : Int)))).bind fun x12 =>
 some x12
 else none
def slices_nextPowerOfTwo.P (f_math_bits_Len : Int → Option Int) (n : Nat) (x : Int) : Option Int :=
 (f_math_bits_Len (IntKind.wrap .u64 x)).bind fun r1 =>
 bif decide (0 ≤ r1) && decide (r1 ≤ ((IntKind.bits .u64 : Nat) : Int)) then
 some (IntKind.wrap .u64 ((1 : Int) * 2 ^ Int.toNat r1))
 else none
def slices_xorshift_Next.P (n : Nat) (x : Int) : Option (A11) :=
 bif decide (0 ≤ (13 : Int)) && decide ((13 : Int) ≤ ((IntKind.bits .u64 : Nat) : Int)) then
 bif decide (0 ≤ (7 : Int)) && decide ((7 : Int) ≤ ((IntKind.bits .u64 : Nat) : Int)) then
 bif decide (0 ≤ (17 : Int)) && decide ((17 : Int) ≤ ((IntKind.bits .u64 : Nat) : Int)) then
 some (bits .xor .u64 (bits .xor .u64 (bits .xor .u64 x (IntKind.wrap .u64 (x * 2 ^ Int.toNat (13 : Int)))) ((bits .xor .u64 x (IntKind.wrap .u64 (x * 2 ^ Int.toNat (13 : Int)))) / 2 ^ Int.toNat (7 : Int))) (IntKind.wrap .u64 ((bits .xor .u64 (bits .xor .u64 x (IntKind.wrap .u64 (x * 2 ^ Int.toNat (13 : Int)))) ((bits .xor .u64 x (IntKind.wrap .u64 (x * 2 ^ Int.toNat (13 : Int)))) / 2 ^ Int.toNat (7 : Int))) * 2 ^ Int.toNat (17 : Int))), bits .xor .u64 (bits .xor .u64 (bits .xor .u64 x (IntKind.wrap .u64 (x * 2 ^ Int.toNat (13 : Int)))) ((bits .xor .u64 x (IntKind.wrap .u64 (x * 2 ^ Int.toNat (13 : Int)))) / 2 ^ Int.toNat (7 : Int))) (IntKind.wrap .u64 ((bits .xor .u64 (bits .xor .u64 x (IntKind.wrap .u64 (x * 2 ^ Int.toNat (13 : Int)))) ((bits .xor .u64 x (IntKind.wrap .u64 (x * 2 ^ Int.toNat (13 : Int)))) / 2 ^ Int.toNat (7 : Int))) * 2 ^ Int.toNat (17 : Int))))
 else none
 else none
 else none
def slices_breakPatternsX.L1 (f_slices_xorshift_Next : Int → Option (A11)) (x2 : A40) (rec3 : (A40) → Option LR) : Option LR :=
 bif !decide ((4 : Int) = 0) then
 bif decide (x2.2.2.2.2.2 ≤ (IntKind.wrap .i64 ((IntKind.wrap .i64 (x2.2.1 + (IntKind.wrap .i64 ((IntKind.wrap .i64 (Int.tdiv x2.2.2.1 (4 : Int))) * (2 : Int))))) + (1 : Int)))) then
 ((f_slices_xorshift_Next x2.2.2.2.1).bind fun r4 =>
 (bif decide (x2.2.2.1 ≤ (IntKind.wrap .i64 (bits .and .u64 r4.1 (IntKind.wrap .u64 (x2.2.2.2.2.1 - (1 : Int)))))) then
 (some (x2.1, x2.2.1, x2.2.2.1, r4.2, x2.2.2.2.2.1, x2.2.2.2.2.2, IntKind.wrap .i64 ((IntKind.wrap .i64 (bits .and .u64 r4.1 (IntKind.wrap .u64 (x2.2.2.2.2.1 - (1 : Int))))) - x2.2.2.1)))
 else
 (some (x2.1, x2.2.1, x2.2.2.1, r4.2, x2.2.2.2.2.1, x2.2.2.2.2.2, IntKind.wrap .i64 (bits .and .u64 r4.1 (IntKind.wrap .u64 (x2.2.2.2.2.1 - (1 : Int))))))).bind fun x5 =>
 bif decide (0 ≤ (IntKind.wrap .i64 (x5.2.1 + x5.2.2.2.2.2.2))) && decide ((IntKind.wrap .i64 (x5.2.1 + x5.2.2.2.2.2.2)) < ((List.length x5.1 : Nat) : Int)) then
 (at? x5.1 (Int.toNat (IntKind.wrap .i64 (x5.2.1 + x5.2.2.2.2.2.2)))).bind fun e6 =>
 bif decide (0 ≤ x5.2.2.2.2.2.1) && decide (x5.2.2.2.2.2.1 < ((List.length x5.1 : Nat) : Int)) then
 (at? x5.1 (Int.toNat x5.2.2.2.2.2.1)).bind fun e7 =>
 bif decide (0 ≤ x5.2.2.2.2.2.1) && decide (x5.2.2.2.2.2.1 < ((List.length x5.1 : Nat) : Int)) then
 (at? x5.1 (Int.toNat x5.2.2.2.2.2.1)).bind fun e8 =>
 bif decide (0 ≤ (IntKind.wrap .i64 (x5.2.1 + x5.2.2.2.2.2.2))) && decide ((IntKind.wrap .i64 (x5.2.1 + x5.2.2.2.2.2.2)) < ((List.length (List.set x5.1 (Int.toNat x5.2.2.2.2.2.1) (e6.1, e6.2.1, e6.2.2)) : Nat) : Int)) then
 (at? (List.set x5.1 (Int.toNat x5.2.2.2.2.2.1) (e6.1, e6.2.1, e6.2.2)) (Int.toNat (IntKind.wrap .i64 (x5.2.1 + x5.2.2.2.2.2.2)))).bind fun e9 =>
 rec3 (List.set (List.set x5.1 (Int.toNat x5.2.2.2.2.2.1) (e6.1, e6.2.1, e6.2.2)) (Int.toNat (IntKind.wrap .i64 (x5.2.1 + x5.2.2.2.2.2.2))) (e7.1, e7.2.1, e7.2.2), x5.2.1, x5.2.2.1, x5.2.2.2.1, x5.2.2.2.2.1, IntKind.wrap .i64 (x5.2.2.2.2.2.1 + (1 : Int)))
 else none
 else none
 else none
 else none)
 else
 (some x2.1)
 else none
def slices_breakPatternsX.P (f_slices_nextPowerOfTwo : Int → Option Int) (f_slices_xorshift_Next : Int → Option (A11)) (n : Nat) (x : A4) : Option LR :=
 (bif decide ((8 : Int) ≤ (IntKind.wrap .i64 (x.2.2 - x.2.1))) then
 ((f_slices_nextPowerOfTwo (IntKind.wrap .i64 (x.2.2 - x.2.1))).bind fun r1 =>
 bif !decide ((4 : Int) = 0) then
 (loopN (slices_breakPatternsX.L1 f_slices_xorshift_Next) n (x.1, x.2.1, IntKind.wrap .i64 (x.2.2 - x.2.1), IntKind.wrap .u64 (IntKind.wrap .i64 (x.2.2 - x.2.1)), r1, IntKind.wrap .i64 ((IntKind.wrap .i64 (x.2.1 + (IntKind.wrap .i64 ((IntKind.wrap .i64 (Int.tdiv (IntKind.wrap .i64 (x.2.2 - x.2.1)) (4 : Int))) * (2 : Int))))) - (1 : Int)))).bind fun x10 =>
 some x10
 else none)
 else
 (some x.1)).bind fun x11 =>
 some x11
def slices_order2X.P (f_auto_Order : (A1) → Option Int) (n : Nat) (x : A0) : Option (A117) :=
 bif decide (0 ≤ x.2.2.1) && decide (x.2.2.1 < ((List.length x.1 : Nat) : Int)) then
 (at? x.1 (Int.toNat x.2.2.1)).bind fun e1 =>
 bif decide (0 ≤ x.2.1) && decide (x.2.1 < ((List.length x.1 : Nat) : Int)) then
 (at? x.1 (Int.toNat x.2.1)).bind fun e2 =>
 (f_auto_Order (e1.1, e1.2.1, e1.2.2, e2.1, e2.2.1, e2.2.2)).bind fun r3 =>
 bif decide (r3 < (0 : Int)) then
 (some (x.2.2.1, x.2.1, x.1, IntKind.wrap .i64 (x.2.2.2 + (1 : Int))))
 else
 (some (x.2.1, x.2.2.1, x.1, x.2.2.2))
 else none
 else none
def slices_medianX.P (f_slices_order2X : (A0) → Option (A117)) (n : Nat) (x : A5) : Option (A111) :=
 (f_slices_order2X (x.1, x.2.1, x.2.2.1, x.2.2.2.2)).bind fun r1 =>
 (f_slices_order2X (r1.2.2.1, r1.2.1, x.2.2.2.1, r1.2.2.2)).bind fun r2 =>
 (f_slices_order2X (r2.2.2.1, r1.1, r2.1, r2.2.2.2)).bind fun r3 =>
 some (r3.2.1, r3.2.2.1, r3.2.2.2)
def slices_choosePivotX.P (f_slices_medianAdjacentX : (A4) → Option (A111)) (f_slices_medianX : (A5) → Option (A111)) (n : Nat) (x : A4) : Option (A122) :=
 bif !decide ((4 : Int) = 0) then
 bif !decide ((4 : Int) = 0) then
 bif !decide ((4 : Int) = 0) then
 (bif decide ((8 : Int) ≤ (IntKind.wrap .i64 (x.2.2 - x.2.1))) then
 ((bif decide ((50 : Int) ≤ (IntKind.wrap .i64 (x.2.2 - x.2.1))) then
 ((f_slices_medianAdjacentX (x.1, IntKind.wrap .i64 (x.2.1 + (IntKind.wrap .i64 ((IntKind.wrap .i64 (Int.tdiv (IntKind.wrap .i64 (x.2.2 - x.2.1)) (4 : Int))) * (1 : Int)))), (0 : Int))).bind fun r1 =>
 (f_slices_medianAdjacentX (r1.2.1, IntKind.wrap .i64 (x.2.1 + (IntKind.wrap .i64 ((IntKind.wrap .i64 (Int.tdiv (IntKind.wrap .i64 (x.2.2 - x.2.1)) (4 : Int))) * (2 : Int)))), r1.2.2)).bind fun r2 =>
 (f_slices_medianAdjacentX (r2.2.1, IntKind.wrap .i64 (x.2.1 + (IntKind.wrap .i64 ((IntKind.wrap .i64 (Int.tdiv (IntKind.wrap .i64 (x.2.2 - x.2.1)) (4 : Int))) * (3 : Int)))), r2.2.2)).bind fun r3 =>
 some (r3.2.1, r3.2.2, r1.1, r2.1, r3.1))
 else
 (some (x.1, (0 : Int), IntKind.wrap .i64 (x.2.1 + (IntKind.wrap .i64 ((IntKind.wrap .i64 (Int.tdiv (IntKind.wrap .i64 (x.2.2 - x.2.1)) (4 : Int))) * (1 : Int)))), IntKind.wrap .i64 (x.2.1 + (IntKind.wrap .i64 ((IntKind.wrap .i64 (Int.tdiv (IntKind.wrap .i64 (x.2.2 - x.2.1)) (4 : Int))) * (2 : Int)))), IntKind.wrap .i64 (x.2.1 + (IntKind.wrap .i64 ((IntKind.wrap .i64 (Int.tdiv (IntKind.wrap .i64 (x.2.2 - x.2.1)) (4 : Int))) * (3 : Int))))))).bind fun x4 =>
 (f_slices_medianX (x4.1, x4.2.2.1, x4.2.2.2.1, x4.2.2.2.2, x4.2.1)).bind fun r5 =>
 some (r5.2.1, r5.2.2, r5.1))
 else
 (some (x.1, (0 : Int), IntKind.wrap .i64 (x.2.1 + (IntKind.wrap .i64 ((IntKind.wrap .i64 (Int.tdiv (IntKind.wrap .i64 (x.2.2 - x.2.1)) (4 : Int))) * (2 : Int))))))).bind fun x6 =>
 bif decide (x6.2.1 = (0 : Int)) then
 (some (x6.2.2, (1 : Int), x6.1))
 else
 (bif decide (x6.2.1 = (12 : Int)) then
 (some (x6.2.2, (2 : Int), x6.1))
 else
 (some (x6.2.2, (0 : Int), x6.1)))
 else none
 else none
 else none
def slices_reverseRangeX.L1 (x1 : A4) (rec2 : (A4) → Option LR) : Option LR :=
 bif decide (x1.2.1 < x1.2.2) then
 (bif decide (0 ≤ x1.2.2) && decide (x1.2.2 < ((List.length x1.1 : Nat) : Int)) then
 (at? x1.1 (Int.toNat x1.2.2)).bind fun e3 =>
 bif decide (0 ≤ x1.2.1) && decide (x1.2.1 < ((List.length x1.1 : Nat) : Int)) then
 (at? x1.1 (Int.toNat x1.2.1)).bind fun e4 =>
 bif decide (0 ≤ x1.2.1) && decide (x1.2.1 < ((List.length x1.1 : Nat) : Int)) then
 (at? x1.1 (Int.toNat x1.2.1)).bind fun e5 =>
 bif decide (0 ≤ x1.2.2) && decide (x1.2.2 < ((List.length (List.set x1.1 (Int.toNat x1.2.1) (e3.1, e3.2.1, e3.2.2)) : Nat) : Int)) then
 (at? (List.set x1.1 (Int.toNat x1.2.1) (e3.1, e3.2.1, e3.2.2)) (Int.toNat x1.2.2)).bind fun e6 =>
 rec2 (List.set (List.set x1.1 (Int.toNat x1.2.1) (e3.1, e3.2.1, e3.2.2)) (Int.toNat x1.2.2) (e4.1, e4.2.1, e4.2.2), IntKind.wrap .i64 (x1.2.1 + (1 : Int)), IntKind.wrap .i64 (x1.2.2 - (1 : Int)))
 else none
 else none
 else none
 else none)
 else
 (some x1.1)
def slices_reverseRangeX.P (n : Nat) (x : A4) : Option LR :=
 (loopN (slices_reverseRangeX.L1) n (x.1, x.2.1, IntKind.wrap .i64 (x.2.2 - (1 : Int)))).bind fun x7 =>
 some x7
def slices_partialInsertionSortX.L1 (f_auto_Order : (A1) → Option Int) (x3 : A5) (rec4 : (A5) → Option (A5)) : Option (A5) :=
 (bif decide (x3.2.2.2.1 < x3.2.2.1) then
 (bif decide (0 ≤ x3.2.2.2.1) && decide (x3.2.2.2.1 < ((List.length x3.1 : Nat) : Int)) then
 (at? x3.1 (Int.toNat x3.2.2.2.1)).bind fun e5 =>
 bif decide (0 ≤ (IntKind.wrap .i64 (x3.2.2.2.1 - (1 : Int)))) && decide ((IntKind.wrap .i64 (x3.2.2.2.1 - (1 : Int))) < ((List.length x3.1 : Nat) : Int)) then
 (at? x3.1 (Int.toNat (IntKind.wrap .i64 (x3.2.2.2.1 - (1 : Int))))).bind fun e6 =>
 (f_auto_Order (e5.1, e5.2.1, e5.2.2, e6.1, e6.2.1, e6.2.2)).bind fun r7 =>
 some (x3.1, x3.2.1, x3.2.2.1, x3.2.2.2.1, x3.2.2.2.2, !(decide (r7 < (0 : Int))))
 else none
 else none)
 else
 (some (x3.1, x3.2.1, x3.2.2.1, x3.2.2.2.1, x3.2.2.2.2, false))).bind fun x8 =>
 bif x8.2.2.2.2.2 then
 (rec4 (x8.1, x8.2.1, x8.2.2.1, IntKind.wrap .i64 (x8.2.2.2.1 + (1 : Int)), x8.2.2.2.2.1))
 else
 (some (x8.1, x8.2.1, x8.2.2.1, x8.2.2.2.1, x8.2.2.2.2.1))
def slices_partialInsertionSortX.L2 (f_auto_Order : (A1) → Option Int) (x14 : A40) (rec15 : (A40) → Option (A5)) : Option (A5) :=
 bif decide ((1 : Int) ≤ x14.2.2.2.2.2) then
 (bif decide (0 ≤ x14.2.2.2.2.2) && decide (x14.2.2.2.2.2 < ((List.length x14.1 : Nat) : Int)) then
 (at? x14.1 (Int.toNat x14.2.2.2.2.2)).bind fun e16 =>
 bif decide (0 ≤ (IntKind.wrap .i64 (x14.2.2.2.2.2 - (1 : Int)))) && decide ((IntKind.wrap .i64 (x14.2.2.2.2.2 - (1 : Int))) < ((List.length x14.1 : Nat) : Int)) then
 (at? x14.1 (Int.toNat (IntKind.wrap .i64 (x14.2.2.2.2.2 - (1 : Int))))).bind fun e17 =>
 (f_auto_Order (e16.1, e16.2.1, e16.2.2, e17.1, e17.2.1, e17.2.2)).bind fun r18 =>
 bif !(decide (r18 < (0 : Int))) then
 (some (x14.1, x14.2.1, x14.2.2.1, x14.2.2.2.1, x14.2.2.2.2.1))
 else
 (bif decide (0 ≤ (IntKind.wrap .i64 (x14.2.2.2.2.2 - (1 : Int)))) && decide ((IntKind.wrap .i64 (x14.2.2.2.2.2 - (1 : Int))) < ((List.length x14.1 : Nat) : Int)) then
 (at? x14.1 (Int.toNat (IntKind.wrap .i64 (x14.2.2.2.2.2 - (1 : Int))))).bind fun e19 =>
 bif decide (0 ≤ x14.2.2.2.2.2) && decide (x14.2.2.2.2.2 < ((List.length x14.1 : Nat) : Int)) then
 (at? x14.1 (Int.toNat x14.2.2.2.2.2)).bind fun e20 =>
 bif decide (0 ≤ x14.2.2.2.2.2) && decide (x14.2.2.2.2.2 < ((List.length x14.1 : Nat) : Int)) then
 (at? x14.1 (Int.toNat x14.2.2.2.2.2)).bind fun e21 =>
 bif decide (0 ≤ (IntKind.wrap .i64 (x14.2.2.2.2.2 - (1 : Int)))) && decide ((IntKind.wrap .i64 (x14.2.2.2.2.2 - (1 : Int))) < ((List.length (List.set x14.1 (Int.toNat x14.2.2.2.2.2) (e19.1, e19.2.1, e19.2.2)) : Nat) : Int)) then
 (at? (List.set x14.1 (Int.toNat x14.2.2.2.2.2) (e19.1, e19.2.1, e19.2.2)) (Int.toNat (IntKind.wrap .i64 (x14.2.2.2.2.2 - (1 : Int))))).bind fun e22 =>
 rec15 (List.set (List.set x14.1 (Int.toNat x14.2.2.2.2.2) (e19.1, e19.2.1, e19.2.2)) (Int.toNat (IntKind.wrap .i64 (x14.2.2.2.2.2 - (1 : Int)))) (e20.1, e20.2.1, e20.2.2), x14.2.1, x14.2.2.1, x14.2.2.2.1, x14.2.2.2.2.1, IntKind.wrap .i64 (x14.2.2.2.2.2 - (1 : Int)))
 else none
 else none
 else none
 else none)
 else none
 else none)
 else
 (some (x14.1, x14.2.1, x14.2.2.1, x14.2.2.2.1, x14.2.2.2.2.1))
def slices_partialInsertionSortX.L3 (f_auto_Order : (A1) → Option Int) (x25 : A40) (rec26 : (A40) → Option (A5)) : Option (A5) :=
 bif decide (x25.2.2.2.2.2 < x25.2.2.1) then
 (bif decide (0 ≤ x25.2.2.2.2.2) && decide (x25.2.2.2.2.2 < ((List.length x25.1 : Nat) : Int)) then
 (at? x25.1 (Int.toNat x25.2.2.2.2.2)).bind fun e27 =>
 bif decide (0 ≤ (IntKind.wrap .i64 (x25.2.2.2.2.2 - (1 : Int)))) && decide ((IntKind.wrap .i64 (x25.2.2.2.2.2 - (1 : Int))) < ((List.length x25.1 : Nat) : Int)) then
 (at? x25.1 (Int.toNat (IntKind.wrap .i64 (x25.2.2.2.2.2 - (1 : Int))))).bind fun e28 =>
 (f_auto_Order (e27.1, e27.2.1, e27.2.2, e28.1, e28.2.1, e28.2.2)).bind fun r29 =>
 bif !(decide (r29 < (0 : Int))) then
 (some (x25.1, x25.2.1, x25.2.2.1, x25.2.2.2.1, x25.2.2.2.2.1))
 else
 (bif decide (0 ≤ (IntKind.wrap .i64 (x25.2.2.2.2.2 - (1 : Int)))) && decide ((IntKind.wrap .i64 (x25.2.2.2.2.2 - (1 : Int))) < ((List.length x25.1 : Nat) : Int)) then
 (at? x25.1 (Int.toNat (IntKind.wrap .i64 (x25.2.2.2.2.2 - (1 : Int))))).bind fun e30 =>
 bif decide (0 ≤ x25.2.2.2.2.2) && decide (x25.2.2.2.2.2 < ((List.length x25.1 : Nat) : Int)) then
 (at? x25.1 (Int.toNat x25.2.2.2.2.2)).bind fun e31 =>
 bif decide (0 ≤ x25.2.2.2.2.2) && decide (x25.2.2.2.2.2 < ((List.length x25.1 : Nat) : Int)) then
 (at? x25.1 (Int.toNat x25.2.2.2.2.2)).bind fun e32 =>
 bif decide (0 ≤ (IntKind.wrap .i64 (x25.2.2.2.2.2 - (1 : Int)))) && decide ((IntKind.wrap .i64 (x25.2.2.2.2.2 - (1 : Int))) < ((List.length (List.set x25.1 (Int.toNat x25.2.2.2.2.2) (e30.1, e30.2.1, e30.2.2)) : Nat) : Int)) then
 (at? (List.set x25.1 (Int.toNat x25.2.2.2.2.2) (e30.1, e30.2.1, e30.2.2)) (Int.toNat (IntKind.wrap .i64 (x25.2.2.2.2.2 - (1 : Int))))).bind fun e33 =>
 rec26 (List.set (List.set x25.1 (Int.toNat x25.2.2.2.2.2) (e30.1, e30.2.1, e30.2.2)) (Int.toNat (IntKind.wrap .i64 (x25.2.2.2.2.2 - (1 : Int)))) (e31.1, e31.2.1, e31.2.2), x25.2.1, x25.2.2.1, x25.2.2.2.1, x25.2.2.2.2.1, IntKind.wrap .i64 (x25.2.2.2.2.2 + (1 : Int)))
 else none
 else none
 else none
 else none)
 else none
 else none)
 else
 (some (x25.1, x25.2.1, x25.2.2.1, x25.2.2.2.1, x25.2.2.2.2.1))
def slices_partialInsertionSortX.L4 (f_auto_Order : (A1) → Option Int) (n : Nat) (x1 : A5) (rec2 : (A5) → Option (Sum LR (A123))) : Option (Sum LR (A123)) :=
 bif decide (x1.2.2.2.2 < (5 : Int)) then
 ((loopN (slices_partialInsertionSortX.L1 f_auto_Order) n (x1.1, x1.2.1, x1.2.2.1, x1.2.2.2.1, x1.2.2.2.2)).bind fun x9 =>
 bif decide (x9.2.2.2.1 = x9.2.2.1) then
 ((some (true, x9.1)).bind fun r => some (Sum.inr r))
 else
 (bif decide ((IntKind.wrap .i64 (x9.2.2.1 - x9.2.1)) < (50 : Int)) then
 ((some (false, x9.1)).bind fun r => some (Sum.inr r))
 else
 (bif decide (0 ≤ (IntKind.wrap .i64 (x9.2.2.2.1 - (1 : Int)))) && decide ((IntKind.wrap .i64 (x9.2.2.2.1 - (1 : Int))) < ((List.length x9.1 : Nat) : Int)) then
 (at? x9.1 (Int.toNat (IntKind.wrap .i64 (x9.2.2.2.1 - (1 : Int))))).bind fun e10 =>
 bif decide (0 ≤ x9.2.2.2.1) && decide (x9.2.2.2.1 < ((List.length x9.1 : Nat) : Int)) then
 (at? x9.1 (Int.toNat x9.2.2.2.1)).bind fun e11 =>
 bif decide (0 ≤ x9.2.2.2.1) && decide (x9.2.2.2.1 < ((List.length x9.1 : Nat) : Int)) then
 (at? x9.1 (Int.toNat x9.2.2.2.1)).bind fun e12 =>
 bif decide (0 ≤ (IntKind.wrap .i64 (x9.2.2.2.1 - (1 : Int)))) && decide ((IntKind.wrap .i64 (x9.2.2.2.1 - (1 : Int))) < ((List.length (List.set x9.1 (Int.toNat x9.2.2.2.1) (e10.1, e10.2.1, e10.2.2)) : Nat) : Int)) then
 (at? (List.set x9.1 (Int.toNat x9.2.2.2.1) (e10.1, e10.2.1, e10.2.2)) (Int.toNat (IntKind.wrap .i64 (x9.2.2.2.1 - (1 : Int))))).bind fun e13 =>
 (bif decide ((2 : Int) ≤ (IntKind.wrap .i64 (x9.2.2.2.1 - x9.2.1))) then
 ((loopN (slices_partialInsertionSortX.L2 f_auto_Order) n (List.set (List.set x9.1 (Int.toNat x9.2.2.2.1) (e10.1, e10.2.1, e10.2.2)) (Int.toNat (IntKind.wrap .i64 (x9.2.2.2.1 - (1 : Int)))) (e11.1, e11.2.1, e11.2.2), x9.2.1, x9.2.2.1, x9.2.2.2.1, x9.2.2.2.2, IntKind.wrap .i64 (x9.2.2.2.1 - (1 : Int)))).bind fun x23 =>
 some (x23.1, x23.2.1, x23.2.2.1, x23.2.2.2.1, x23.2.2.2.2))
 else
 (some (List.set (List.set x9.1 (Int.toNat x9.2.2.2.1) (e10.1, e10.2.1, e10.2.2)) (Int.toNat (IntKind.wrap .i64 (x9.2.2.2.1 - (1 : Int)))) (e11.1, e11.2.1, e11.2.2), x9.2.1, x9.2.2.1, x9.2.2.2.1, x9.2.2.2.2))).bind fun x24 =>
 (bif decide ((2 : Int) ≤ (IntKind.wrap .i64 (x24.2.2.1 - x24.2.2.2.1))) then
 ((loopN (slices_partialInsertionSortX.L3 f_auto_Order) n (x24.1, x24.2.1, x24.2.2.1, x24.2.2.2.1, x24.2.2.2.2, IntKind.wrap .i64 (x24.2.2.2.1 + (1 : Int)))).bind fun x34 =>
 some (x34.1, x34.2.1, x34.2.2.1, x34.2.2.2.1, x34.2.2.2.2))
 else
 (some (x24.1, x24.2.1, x24.2.2.1, x24.2.2.2.1, x24.2.2.2.2))).bind fun x35 =>
 rec2 (x35.1, x35.2.1, x35.2.2.1, x35.2.2.2.1, IntKind.wrap .i64 (x35.2.2.2.2 + (1 : Int)))
 else none
 else none
 else none
 else none)))
 else
 (some (Sum.inl x1.1))
def slices_partialInsertionSortX.P (f_auto_Order : (A1) → Option Int) (n : Nat) (x : A4) : Option (A123) :=
 (loopN (slices_partialInsertionSortX.L4 f_auto_Order n) n (x.1, x.2.1, x.2.2, IntKind.wrap .i64 (x.2.1 + (1 : Int)), (0 : Int))).bind fun q => match q with
 | Sum.inl x36 => (some (false, x36))
 | Sum.inr r => some r
def slices_partitionEqualX.L1 (f_auto_Order : (A1) → Option Int) (x7 : A0) (rec8 : (A0) → Option (A0)) : Option (A0) :=
 (bif decide (x7.2.2.1 ≤ x7.2.2.2) then
 (bif decide (0 ≤ x7.2.1) && decide (x7.2.1 < ((List.length x7.1 : Nat) : Int)) then
 (at? x7.1 (Int.toNat x7.2.1)).bind fun e9 =>
 bif decide (0 ≤ x7.2.2.1) && decide (x7.2.2.1 < ((List.length x7.1 : Nat) : Int)) then
 (at? x7.1 (Int.toNat x7.2.2.1)).bind fun e10 =>
 (f_auto_Order (e9.1, e9.2.1, e9.2.2, e10.1, e10.2.1, e10.2.2)).bind fun r11 =>
 some (x7.1, x7.2.1, x7.2.2.1, x7.2.2.2, !(decide (r11 < (0 : Int))))
 else none
 else none)
 else
 (some (x7.1, x7.2.1, x7.2.2.1, x7.2.2.2, false))).bind fun x12 =>
 bif x12.2.2.2.2 then
 (rec8 (x12.1, x12.2.1, IntKind.wrap .i64 (x12.2.2.1 + (1 : Int)), x12.2.2.2.1))
 else
 (some (x12.1, x12.2.1, x12.2.2.1, x12.2.2.2.1))
def slices_partitionEqualX.L2 (f_auto_Order : (A1) → Option Int) (x14 : A0) (rec15 : (A0) → Option (A0)) : Option (A0) :=
 (bif decide (x14.2.2.1 ≤ x14.2.2.2) then
 (bif decide (0 ≤ x14.2.1) && decide (x14.2.1 < ((List.length x14.1 : Nat) : Int)) then
 (at? x14.1 (Int.toNat x14.2.1)).bind fun e16 =>
 bif decide (0 ≤ x14.2.2.2) && decide (x14.2.2.2 < ((List.length x14.1 : Nat) : Int)) then
 (at? x14.1 (Int.toNat x14.2.2.2)).bind fun e17 =>
 (f_auto_Order (e16.1, e16.2.1, e16.2.2, e17.1, e17.2.1, e17.2.2)).bind fun r18 =>
 some (x14.1, x14.2.1, x14.2.2.1, x14.2.2.2, decide (r18 < (0 : Int)))
 else none
 else none)
 else
 (some (x14.1, x14.2.1, x14.2.2.1, x14.2.2.2, false))).bind fun x19 =>
 bif x19.2.2.2.2 then
 (rec15 (x19.1, x19.2.1, x19.2.2.1, IntKind.wrap .i64 (x19.2.2.2.1 - (1 : Int))))
 else
 (some (x19.1, x19.2.1, x19.2.2.1, x19.2.2.2.1))
def slices_partitionEqualX.L3 (f_auto_Order : (A1) → Option Int) (n : Nat) (x5 : A0) (rec6 : (A0) → Option (A126)) : Option (A126) :=
 (loopN (slices_partitionEqualX.L1 f_auto_Order) n (x5.1, x5.2.1, x5.2.2.1, x5.2.2.2)).bind fun x13 =>
 (loopN (slices_partitionEqualX.L2 f_auto_Order) n (x13.1, x13.2.1, x13.2.2.1, x13.2.2.2)).bind fun x20 =>
 bif decide (x20.2.2.2 < x20.2.2.1) then
 (some (x20.1, x20.2.2.1))
 else
 (bif decide (0 ≤ x20.2.2.2) && decide (x20.2.2.2 < ((List.length x20.1 : Nat) : Int)) then
 (at? x20.1 (Int.toNat x20.2.2.2)).bind fun e21 =>
 bif decide (0 ≤ x20.2.2.1) && decide (x20.2.2.1 < ((List.length x20.1 : Nat) : Int)) then
 (at? x20.1 (Int.toNat x20.2.2.1)).bind fun e22 =>
 bif decide (0 ≤ x20.2.2.1) && decide (x20.2.2.1 < ((List.length x20.1 : Nat) : Int)) then
 (at? x20.1 (Int.toNat x20.2.2.1)).bind fun e23 =>
 bif decide (0 ≤ x20.2.2.2) && decide (x20.2.2.2 < ((List.length (List.set x20.1 (Int.toNat x20.2.2.1) (e21.1, e21.2.1, e21.2.2)) : Nat) : Int)) then
 (at? (List.set x20.1 (Int.toNat x20.2.2.1) (e21.1, e21.2.1, e21.2.2)) (Int.toNat x20.2.2.2)).bind fun e24 =>
 rec6 (List.set (List.set x20.1 (Int.toNat x20.2.2.1) (e21.1, e21.2.1, e21.2.2)) (Int.toNat x20.2.2.2) (e22.1, e22.2.1, e22.2.2), x20.2.1, IntKind.wrap .i64 (x20.2.2.1 + (1 : Int)), IntKind.wrap .i64 (x20.2.2.2 - (1 : Int)))
 else none
 else none
 else none
 else none)
def slices_partitionEqualX.P (f_auto_Order : (A1) → Option Int) (n : Nat) (x : A0) : Option (Int × LR) :=
 bif decide (0 ≤ x.2.2.2) && decide (x.2.2.2 < ((List.length x.1 : Nat) : Int)) then
 (at? x.1 (Int.toNat x.2.2.2)).bind fun e1 =>
 bif decide (0 ≤ x.2.1) && decide (x.2.1 < ((List.length x.1 : Nat) : Int)) then
 (at? x.1 (Int.toNat x.2.1)).bind fun e2 =>
 bif decide (0 ≤ x.2.1) && decide (x.2.1 < ((List.length x.1 : Nat) : Int)) then
 (at? x.1 (Int.toNat x.2.1)).bind fun e3 =>
 bif decide (0 ≤ x.2.2.2) && decide (x.2.2.2 < ((List.length (List.set x.1 (Int.toNat x.2.1) (e1.1, e1.2.1, e1.2.2)) : Nat) : Int)) then
 (at? (List.set x.1 (Int.toNat x.2.1) (e1.1, e1.2.1, e1.2.2)) (Int.toNat x.2.2.2)).bind fun e4 =>
 (loopN (slices_partitionEqualX.L3 f_auto_Order n) n (List.set (List.set x.1 (Int.toNat x.2.1) (e1.1, e1.2.1, e1.2.2)) (Int.toNat x.2.2.2) (e2.1, e2.2.1, e2.2.2), x.2.1, IntKind.wrap .i64 (x.2.1 + (1 : Int)), IntKind.wrap .i64 (x.2.2.1 - (1 : Int)))).bind fun x25 =>
 some (x25.2, x25.1)
 else none
 else none
 else none
 else none
def slices_partitionX.L1 (f_auto_Order : (A1) → Option Int) (x5 : A0) (rec6 : (A0) → Option (A0)) : Option (A0) :=
 (bif decide (x5.2.2.1 ≤ x5.2.2.2) then
 (bif decide (0 ≤ x5.2.2.1) && decide (x5.2.2.1 < ((List.length x5.1 : Nat) : Int)) then
 (at? x5.1 (Int.toNat x5.2.2.1)).bind fun e7 =>
 bif decide (0 ≤ x5.2.1) && decide (x5.2.1 < ((List.length x5.1 : Nat) : Int)) then
 (at? x5.1 (Int.toNat x5.2.1)).bind fun e8 =>
 (f_auto_Order (e7.1, e7.2.1, e7.2.2, e8.1, e8.2.1, e8.2.2)).bind fun r9 =>
 some (x5.1, x5.2.1, x5.2.2.1, x5.2.2.2, decide (r9 < (0 : Int)))
 else none
 else none)
 else
 (some (x5.1, x5.2.1, x5.2.2.1, x5.2.2.2, false))).bind fun x10 =>
 bif x10.2.2.2.2 then
 (rec6 (x10.1, x10.2.1, IntKind.wrap .i64 (x10.2.2.1 + (1 : Int)), x10.2.2.2.1))
 else
 (some (x10.1, x10.2.1, x10.2.2.1, x10.2.2.2.1))
def slices_partitionX.L2 (f_auto_Order : (A1) → Option Int) (x12 : A0) (rec13 : (A0) → Option (A0)) : Option (A0) :=
 (bif decide (x12.2.2.1 ≤ x12.2.2.2) then
 (bif decide (0 ≤ x12.2.2.2) && decide (x12.2.2.2 < ((List.length x12.1 : Nat) : Int)) then
 (at? x12.1 (Int.toNat x12.2.2.2)).bind fun e14 =>
 bif decide (0 ≤ x12.2.1) && decide (x12.2.1 < ((List.length x12.1 : Nat) : Int)) then
 (at? x12.1 (Int.toNat x12.2.1)).bind fun e15 =>
 (f_auto_Order (e14.1, e14.2.1, e14.2.2, e15.1, e15.2.1, e15.2.2)).bind fun r16 =>
 some (x12.1, x12.2.1, x12.2.2.1, x12.2.2.2, !(decide (r16 < (0 : Int))))
 else none
 else none)
 else
 (some (x12.1, x12.2.1, x12.2.2.1, x12.2.2.2, false))).bind fun x17 =>
 bif x17.2.2.2.2 then
 (rec13 (x17.1, x17.2.1, x17.2.2.1, IntKind.wrap .i64 (x17.2.2.2.1 - (1 : Int))))
 else
 (some (x17.1, x17.2.1, x17.2.2.1, x17.2.2.2.1))
def slices_partitionX.L3 (f_auto_Order : (A1) → Option Int) (x29 : A0) (rec30 : (A0) → Option (A0)) : Option (A0) :=
 (bif decide (x29.2.2.1 ≤ x29.2.2.2) then
 (bif decide (0 ≤ x29.2.2.1) && decide (x29.2.2.1 < ((List.length x29.1 : Nat) : Int)) then
 (at? x29.1 (Int.toNat x29.2.2.1)).bind fun e31 =>
 bif decide (0 ≤ x29.2.1) && decide (x29.2.1 < ((List.length x29.1 : Nat) : Int)) then
 (at? x29.1 (Int.toNat x29.2.1)).bind fun e32 =>
 (f_auto_Order (e31.1, e31.2.1, e31.2.2, e32.1, e32.2.1, e32.2.2)).bind fun r33 =>
 some (x29.1, x29.2.1, x29.2.2.1, x29.2.2.2, decide (r33 < (0 : Int)))
 else none
 else none)
 else
 (some (x29.1, x29.2.1, x29.2.2.1, x29.2.2.2, false))).bind fun x34 =>
 bif x34.2.2.2.2 then
 (rec30 (x34.1, x34.2.1, IntKind.wrap .i64 (x34.2.2.1 + (1 : Int)), x34.2.2.2.1))
 else
 (some (x34.1, x34.2.1, x34.2.2.1, x34.2.2.2.1))
def slices_partitionX.L4 (f_auto_Order : (A1) → Option Int) (x36 : A0) (rec37 : (A0) → Option (A0)) : Option (A0) :=
 (bif decide (x36.2.2.1 ≤ x36.2.2.2) then
 (bif decide (0 ≤ x36.2.2.2) && decide (x36.2.2.2 < ((List.length x36.1 : Nat) : Int)) then
 (at? x36.1 (Int.toNat x36.2.2.2)).bind fun e38 =>
 bif decide (0 ≤ x36.2.1) && decide (x36.2.1 < ((List.length x36.1 : Nat) : Int)) then
 (at? x36.1 (Int.toNat x36.2.1)).bind fun e39 =>
 (f_auto_Order (e38.1, e38.2.1, e38.2.2, e39.1, e39.2.1, e39.2.2)).bind fun r40 =>
 some (x36.1, x36.2.1, x36.2.2.1, x36.2.2.2, !(decide (r40 < (0 : Int))))
 else none
 else none)
 else
 (some (x36.1, x36.2.1, x36.2.2.1, x36.2.2.2, false))).bind fun x41 =>
 bif x41.2.2.2.2 then
 (rec37 (x41.1, x41.2.1, x41.2.2.1, IntKind.wrap .i64 (x41.2.2.2.1 - (1 : Int))))
 else
 (some (x41.1, x41.2.1, x41.2.2.1, x41.2.2.2.1))
def slices_partitionX.L5 (f_auto_Order : (A1) → Option Int) (n : Nat) (x27 : A0) (rec28 : (A0) → Option (A4)) : Option (A4) :=
 (loopN (slices_partitionX.L3 f_auto_Order) n (x27.1, x27.2.1, x27.2.2.1, x27.2.2.2)).bind fun x35 =>
 (loopN (slices_partitionX.L4 f_auto_Order) n (x35.1, x35.2.1, x35.2.2.1, x35.2.2.2)).bind fun x42 =>
 bif decide (x42.2.2.2 < x42.2.2.1) then
 (some (x42.1, x42.2.1, x42.2.2.2))
 else
 (bif decide (0 ≤ x42.2.2.2) && decide (x42.2.2.2 < ((List.length x42.1 : Nat) : Int)) then
 (at? x42.1 (Int.toNat x42.2.2.2)).bind fun e43 =>
 bif decide (0 ≤ x42.2.2.1) && decide (x42.2.2.1 < ((List.length x42.1 : Nat) : Int)) then
 (at? x42.1 (Int.toNat x42.2.2.1)).bind fun e44 =>
 bif decide (0 ≤ x42.2.2.1) && decide (x42.2.2.1 < ((List.length x42.1 : Nat) : Int)) then
 (at? x42.1 (Int.toNat x42.2.2.1)).bind fun e45 =>
 bif decide (0 ≤ x42.2.2.2) && decide (x42.2.2.2 < ((List.length (List.set x42.1 (Int.toNat x42.2.2.1) (e43.1, e43.2.1, e43.2.2)) : Nat) : Int)) then
 (at? (List.set x42.1 (Int.toNat x42.2.2.1) (e43.1, e43.2.1, e43.2.2)) (Int.toNat x42.2.2.2)).bind fun e46 =>
 rec28 (List.set (List.set x42.1 (Int.toNat x42.2.2.1) (e43.1, e43.2.1, e43.2.2)) (Int.toNat x42.2.2.2) (e44.1, e44.2.1, e44.2.2), x42.2.1, IntKind.wrap .i64 (x42.2.2.1 + (1 : Int)), IntKind.wrap .i64 (x42.2.2.2 - (1 : Int)))
 else none
 else none
 else none
 else none)
def slices_partitionX.P (f_auto_Order : (A1) → Option Int) (n : Nat) (x : A0) : Option (A119) :=
 bif decide (0 ≤ x.2.2.2) && decide (x.2.2.2 < ((List.length x.1 : Nat) : Int)) then
 (at? x.1 (Int.toNat x.2.2.2)).bind fun e1 =>
 bif decide (0 ≤ x.2.1) && decide (x.2.1 < ((List.length x.1 : Nat) : Int)) then
 (at? x.1 (Int.toNat x.2.1)).bind fun e2 =>
 bif decide (0 ≤ x.2.1) && decide (x.2.1 < ((List.length x.1 : Nat) : Int)) then
 (at? x.1 (Int.toNat x.2.1)).bind fun e3 =>
 bif decide (0 ≤ x.2.2.2) && decide (x.2.2.2 < ((List.length (List.set x.1 (Int.toNat x.2.1) (e1.1, e1.2.1, e1.2.2)) : Nat) : Int)) then
 (at? (List.set x.1 (Int.toNat x.2.1) (e1.1, e1.2.1, e1.2.2)) (Int.toNat x.2.2.2)).bind fun e4 =>
 (loopN (slices_partitionX.L1 f_auto_Order) n (List.set (List.set x.1 (Int.toNat x.2.1) (e1.1, e1.2.1, e1.2.2)) (Int.toNat x.2.2.2) (e2.1, e2.2.1, e2.2.2), x.2.1, IntKind.wrap .i64 (x.2.1 + (1 : Int)), IntKind.wrap .i64 (x.2.2.1 - (1 : Int)))).bind fun x11 =>
 (loopN (slices_partitionX.L2 f_auto_Order) n (x11.1, x11.2.1, x11.2.2.1, x11.2.2.2)).bind fun x18 =>
 bif decide (x18.2.2.2 < x18.2.2.1) then
 (bif decide (0 ≤ x18.2.1) && decide (x18.2.1 < ((List.length x18.1 : Nat) : Int)) then
 (at? x18.1 (Int.toNat x18.2.1)).bind fun e19 =>
 bif decide (0 ≤ x18.2.2.2) && decide (x18.2.2.2 < ((List.length x18.1 : Nat) : Int)) then
 (at? x18.1 (Int.toNat x18.2.2.2)).bind fun e20 =>
 bif decide (0 ≤ x18.2.2.2) && decide (x18.2.2.2 < ((List.length x18.1 : Nat) : Int)) then
 (at? x18.1 (Int.toNat x18.2.2.2)).bind fun e21 =>
 bif decide (0 ≤ x18.2.1) && decide (x18.2.1 < ((List.length (List.set x18.1 (Int.toNat x18.2.2.2) (e19.1, e19.2.1, e19.2.2)) : Nat) : Int)) then
 (at? (List.set x18.1 (Int.toNat x18.2.2.2) (e19.1, e19.2.1, e19.2.2)) (Int.toNat x18.2.1)).bind fun e22 =>
 some (x18.2.2.2, true, List.set (List.set x18.1 (Int.toNat x18.2.2.2) (e19.1, e19.2.1, e19.2.2)) (Int.toNat x18.2.1) (e20.1, e20.2.1, e20.2.2))
 else none
 else none
 else none
 else none)
 else
 (bif decide (0 ≤ x18.2.2.2) && decide (x18.2.2.2 < ((List.length x18.1 : Nat) : Int)) then
 (at? x18.1 (Int.toNat x18.2.2.2)).bind fun e23 =>
 bif decide (0 ≤ x18.2.2.1) && decide (x18.2.2.1 < ((List.length x18.1 : Nat) : Int)) then
 (at? x18.1 (Int.toNat x18.2.2.1)).bind fun e24 =>
 bif decide (0 ≤ x18.2.2.1) && decide (x18.2.2.1 < ((List.length x18.1 : Nat) : Int)) then
 (at? x18.1 (Int.toNat x18.2.2.1)).bind fun e25 =>
 bif decide (0 ≤ x18.2.2.2) && decide (x18.2.2.2 < ((List.length (List.set x18.1 (Int.toNat x18.2.2.1) (e23.1, e23.2.1, e23.2.2)) : Nat) : Int)) then
 (at? (List.set x18.1 (Int.toNat x18.2.2.1) (e23.1, e23.2.1, e23.2.2)) (Int.toNat x18.2.2.2)).bind fun e26 =>
 (loopN (slices_partitionX.L5 f_auto_Order n) n (List.set (List.set x18.1 (Int.toNat x18.2.2.1) (e23.1, e23.2.1, e23.2.2)) (Int.toNat x18.2.2.2) (e24.1, e24.2.1, e24.2.2), x18.2.1, IntKind.wrap .i64 (x18.2.2.1 + (1 : Int)), IntKind.wrap .i64 (x18.2.2.2 - (1 : Int)))).bind fun x47 =>
 bif decide (0 ≤ x47.2.1) && decide (x47.2.1 < ((List.length x47.1 : Nat) : Int)) then
 (at? x47.1 (Int.toNat x47.2.1)).bind fun e48 =>
 bif decide (0 ≤ x47.2.2) && decide (x47.2.2 < ((List.length x47.1 : Nat) : Int)) then
 (at? x47.1 (Int.toNat x47.2.2)).bind fun e49 =>
 bif decide (0 ≤ x47.2.2) && decide (x47.2.2 < ((List.length x47.1 : Nat) : Int)) then
 (at? x47.1 (Int.toNat x47.2.2)).bind fun e50 =>
 bif decide (0 ≤ x47.2.1) && decide (x47.2.1 < ((List.length (List.set x47.1 (Int.toNat x47.2.2) (e48.1, e48.2.1, e48.2.2)) : Nat) : Int)) then
 (at? (List.set x47.1 (Int.toNat x47.2.2) (e48.1, e48.2.1, e48.2.2)) (Int.toNat x47.2.1)).bind fun e51 =>
 some (x47.2.2, false, List.set (List.set x47.1 (Int.toNat x47.2.2) (e48.1, e48.2.1, e48.2.2)) (Int.toNat x47.2.1) (e49.1, e49.2.1, e49.2.2))
 else none
 else none
 else none
 else none
 else none
 else none
 else none
 else none)
 else none
 else none
 else none
 else none
end Go.Bk
end
noncomputable section
namespace Go.Bk
open Go Go.AM
set_option maxRecDepth 100000
set_option linter.unusedVariables false
def slices_pdqsortX.L1 (f_slices_insertionSortX : (A4) → Option LR) (f_slices_heapSortX : (A4) → Option LR) (f_slices_breakPatternsX : (A4) → Option LR) (f_slices_choosePivotX : (A4) → Option (A122)) (f_slices_reverseRangeX : (A4) → Option LR) (f_slices_partialInsertionSortX : (A4) → Option (A123)) (f_auto_Order : (A1) → Option Int) (f_slices_partitionEqualX : (A0) → Option (Int × LR)) (f_slices_partitionX : (A0) → Option (A119)) (f_slices_pdqsortX : (A0) → Option LR) (x1 : A113) (rec2 : (A113) → Option (Sum Unit LR)) : Option (Sum Unit LR) :=
 bif decide ((IntKind.wrap .i64 (x1.2.2.1 - x1.2.1)) ≤ (12 : Int)) then
 ((f_slices_insertionSortX (x1.1, x1.2.1, x1.2.2.1)).bind fun r3 =>
 (some r3).bind fun r => some (Sum.inr r))
 else
 (bif decide (x1.2.2.2.1 = (0 : Int)) then
 ((f_slices_heapSortX (x1.1, x1.2.1, x1.2.2.1)).bind fun r4 =>
 (some r4).bind fun r => some (Sum.inr r))
 else
 ((bif !x1.2.2.2.2.1 then
 ((f_slices_breakPatternsX (x1.1, x1.2.1, x1.2.2.1)).bind fun r5 =>
 some (r5, x1.2.1, x1.2.2.1, IntKind.wrap .i64 (x1.2.2.2.1 - (1 : Int)), x1.2.2.2.2.1, x1.2.2.2.2.2, IntKind.wrap .i64 (x1.2.2.1 - x1.2.1)))
 else
 (some (x1.1, x1.2.1, x1.2.2.1, x1.2.2.2.1, x1.2.2.2.2.1, x1.2.2.2.2.2, IntKind.wrap .i64 (x1.2.2.1 - x1.2.1)))).bind fun x6 =>
 (f_slices_choosePivotX (x6.1, x6.2.1, x6.2.2.1)).bind fun r7 =>
 (bif decide (r7.2.1 = (2 : Int)) then
 ((f_slices_reverseRangeX (r7.2.2, x6.2.1, x6.2.2.1)).bind fun r8 =>
 some (r8, x6.2.1, x6.2.2.1, x6.2.2.2.1, x6.2.2.2.2.1, x6.2.2.2.2.2.1, x6.2.2.2.2.2.2, IntKind.wrap .i64 ((IntKind.wrap .i64 (x6.2.2.1 - (1 : Int))) - (IntKind.wrap .i64 (r7.1 - x6.2.1))), (1 : Int)))
 else
 (some (r7.2.2, x6.2.1, x6.2.2.1, x6.2.2.2.1, x6.2.2.2.2.1, x6.2.2.2.2.2.1, x6.2.2.2.2.2.2, r7.1, r7.2.1))).bind fun x9 =>
 (bif x9.2.2.2.2.1 then
 (bif x9.2.2.2.2.2.1 then
 (some (x9.1, x9.2.1, x9.2.2.1, x9.2.2.2.1, x9.2.2.2.2.1, x9.2.2.2.2.2.1, x9.2.2.2.2.2.2.1, x9.2.2.2.2.2.2.2.1, decide (x9.2.2.2.2.2.2.2.2 = (1 : Int))))
 else
 (some (x9.1, x9.2.1, x9.2.2.1, x9.2.2.2.1, x9.2.2.2.2.1, x9.2.2.2.2.2.1, x9.2.2.2.2.2.2.1, x9.2.2.2.2.2.2.2.1, false)))
 else
 (some (x9.1, x9.2.1, x9.2.2.1, x9.2.2.2.1, x9.2.2.2.2.1, x9.2.2.2.2.2.1, x9.2.2.2.2.2.2.1, x9.2.2.2.2.2.2.2.1, false))).bind fun x10 =>
 (bif x10.2.2.2.2.2.2.2.2 then
 ((f_slices_partialInsertionSortX (x10.1, x10.2.1, x10.2.2.1)).bind fun r11 =>
 bif r11.1 then
 (((some r11.2).bind fun r => some (Sum.inr r)).bind fun r => some (Sum.inr r))
 else
 (some (Sum.inl (r11.2, x10.2.1, x10.2.2.1, x10.2.2.2.1, x10.2.2.2.2.1, x10.2.2.2.2.2.1, x10.2.2.2.2.2.2.1, x10.2.2.2.2.2.2.2.1))))
 else
 (some (Sum.inl (x10.1, x10.2.1, x10.2.2.1, x10.2.2.2.1, x10.2.2.2.2.1, x10.2.2.2.2.2.1, x10.2.2.2.2.2.2.1, x10.2.2.2.2.2.2.2.1)))).bind fun q => match q with
 | Sum.inl x12 => ((bif decide ((0 : Int) < x12.2.1) then
 (bif decide (0 ≤ (IntKind.wrap .i64 (x12.2.1 - (1 : Int)))) && decide ((IntKind.wrap .i64 (x12.2.1 - (1 : Int))) < ((List.length x12.1 : Nat) : Int)) then
 (at? x12.1 (Int.toNat (IntKind.wrap .i64 (x12.2.1 - (1 : Int))))).bind fun e13 =>
 bif decide (0 ≤ x12.2.2.2.2.2.2.2) && decide (x12.2.2.2.2.2.2.2 < ((List.length x12.1 : Nat) : Int)) then
 (at? x12.1 (Int.toNat x12.2.2.2.2.2.2.2)).bind fun e14 =>
 (f_auto_Order (e13.1, e13.2.1, e13.2.2, e14.1, e14.2.1, e14.2.2)).bind fun r15 =>
 some (x12.1, x12.2.1, x12.2.2.1, x12.2.2.2.1, x12.2.2.2.2.1, x12.2.2.2.2.2.1, x12.2.2.2.2.2.2.1, x12.2.2.2.2.2.2.2, !(decide (r15 < (0 : Int))))
 else none
 else none)
 else
 (some (x12.1, x12.2.1, x12.2.2.1, x12.2.2.2.1, x12.2.2.2.2.1, x12.2.2.2.2.2.1, x12.2.2.2.2.2.2.1, x12.2.2.2.2.2.2.2, false))).bind fun x16 =>
 bif x16.2.2.2.2.2.2.2.2 then
 ((f_slices_partitionEqualX (x16.1, x16.2.1, x16.2.2.1, x16.2.2.2.2.2.2.2.1)).bind fun r17 =>
 rec2 (r17.2, r17.1, x16.2.2.1, x16.2.2.2.1, x16.2.2.2.2.1, x16.2.2.2.2.2.1))
 else
 ((f_slices_partitionX (x16.1, x16.2.1, x16.2.2.1, x16.2.2.2.2.2.2.2.1)).bind fun r18 =>
 bif !decide ((8 : Int) = 0) then
 (bif decide ((IntKind.wrap .i64 (r18.1 - x16.2.1)) < (IntKind.wrap .i64 (x16.2.2.1 - r18.1))) then
 ((f_slices_pdqsortX (r18.2.2, x16.2.1, r18.1, x16.2.2.2.1)).bind fun r19 =>
 some (r19, IntKind.wrap .i64 (r18.1 + (1 : Int)), x16.2.2.1, x16.2.2.2.1, decide ((IntKind.wrap .i64 (Int.tdiv x16.2.2.2.2.2.2.1 (8 : Int))) ≤ (IntKind.wrap .i64 (r18.1 - x16.2.1))), r18.2.1))
 else
 ((f_slices_pdqsortX (r18.2.2, IntKind.wrap .i64 (r18.1 + (1 : Int)), x16.2.2.1, x16.2.2.2.1)).bind fun r20 =>
 some (r20, x16.2.1, r18.1, x16.2.2.2.1, decide ((IntKind.wrap .i64 (Int.tdiv x16.2.2.2.2.2.2.1 (8 : Int))) ≤ (IntKind.wrap .i64 (x16.2.2.1 - r18.1))), r18.2.1))).bind fun x21 =>
 rec2 (x21.1, x21.2.1, x21.2.2.1, x21.2.2.2.1, x21.2.2.2.2.1, x21.2.2.2.2.2)
 else none))
 | Sum.inr r => some r))
def slices_pdqsortX.P (f_auto_Order : (A1) → Option Int) (f_slices_breakPatternsX : (A4) → Option LR) (f_slices_choosePivotX : (A4) → Option (A122)) (f_slices_heapSortX : (A4) → Option LR) (f_slices_insertionSortX : (A4) → Option LR) (f_slices_partialInsertionSortX : (A4) → Option (A123)) (f_slices_partitionX : (A0) → Option (A119)) (f_slices_partitionEqualX : (A0) → Option (Int × LR)) (f_slices_pdqsortX : (A0) → Option LR) (f_slices_reverseRangeX : (A4) → Option LR) (n : Nat) (x : A0) : Option LR :=
 (loopN (slices_pdqsortX.L1 f_slices_insertionSortX f_slices_heapSortX f_slices_breakPatternsX f_slices_choosePivotX f_slices_reverseRangeX f_slices_partialInsertionSortX f_auto_Order f_slices_partitionEqualX f_slices_partitionX f_slices_pdqsortX) n (x.1, x.2.1, x.2.2.1, x.2.2.2, true, true)).bind fun q => match q with
 | Sum.inl (_ : Unit) => none
 | Sum.inr r => some r
def slices_SortFuncX.P (f_math_bits_Len : Int → Option Int) (f_slices_pdqsortX : (A0) → Option LR) (n : Nat) (x : List Ru) : Option LR :=
 (f_math_bits_Len (IntKind.wrap .u64 ((List.length x : Nat) : Int))).bind fun r1 =>
 (f_slices_pdqsortX (x, (0 : Int), ((List.length x : Nat) : Int), r1)).bind fun r2 =>
 some r2
def auto_Sorted_1.P (f_auto_Order : (A1) → Option Int) (n : Nat) (x : A1) : Option Bool :=
 (f_auto_Order (x.1, x.2.1, x.2.2.1, x.2.2.2.1, x.2.2.2.2.1, x.2.2.2.2.2)).bind fun r1 =>
 some (decide (r1 = (0 : Int)))
def slices_CompactFuncX.L1 (f_auto_Sorted_1 : (A1) → Option Bool) (x6 : A5) (rec7 : (A5) → Option (A126)) : Option (A126) :=
 bif decide (x6.2.2.2.2 < ((List.length (List.drop (Int.toNat x6.2.2.1) (List.take (Int.toNat x6.2.2.2.1) x6.1)) : Nat) : Int)) then
 (bif decide (0 ≤ x6.2.2.2.2) && decide (x6.2.2.2.2 < (((Int.toNat x6.2.2.2.1) - (Int.toNat x6.2.2.1) : Nat) : Int)) then
 (at? x6.1 ((Int.toNat x6.2.2.1) + Int.toNat x6.2.2.2.2)).bind fun e8 =>
 bif decide (0 ≤ (IntKind.wrap .i64 (x6.2.2.2.2 - (1 : Int)))) && decide ((IntKind.wrap .i64 (x6.2.2.2.2 - (1 : Int))) < (((Int.toNat x6.2.2.2.1) - (Int.toNat x6.2.2.1) : Nat) : Int)) then
 (at? x6.1 ((Int.toNat x6.2.2.1) + Int.toNat (IntKind.wrap .i64 (x6.2.2.2.2 - (1 : Int))))).bind fun e9 =>
 (f_auto_Sorted_1 (e8.1, e8.2.1, e8.2.2, e9.1, e9.2.1, e9.2.2)).bind fun r10 =>
 (bif !r10 then
 (bif decide (0 ≤ x6.2.2.2.2) && decide (x6.2.2.2.2 < (((Int.toNat x6.2.2.2.1) - (Int.toNat x6.2.2.1) : Nat) : Int)) then
 (at? x6.1 ((Int.toNat x6.2.2.1) + Int.toNat x6.2.2.2.2)).bind fun e11 =>
 bif decide (0 ≤ x6.2.1) && decide (x6.2.1 < ((List.length x6.1 : Nat) : Int)) then
 (at? x6.1 (Int.toNat x6.2.1)).bind fun e12 =>
 some (List.set x6.1 (Int.toNat x6.2.1) (e11.1, e11.2.1, e11.2.2), IntKind.wrap .i64 (x6.2.1 + (1 : Int)), ((Int.toNat x6.2.2.1 : Nat) : Int), ((Int.toNat x6.2.2.2.1 : Nat) : Int), x6.2.2.2.2)
 else none
 else none)
 else
 (some (x6.1, x6.2.1, ((Int.toNat x6.2.2.1 : Nat) : Int), ((Int.toNat x6.2.2.2.1 : Nat) : Int), x6.2.2.2.2))).bind fun x13 =>
 rec7 (x13.1, x13.2.1, ((Int.toNat x13.2.2.1 : Nat) : Int), ((Int.toNat x13.2.2.2.1 : Nat) : Int), IntKind.wrap .i64 (x13.2.2.2.2 + (1 : Int)))
 else none
 else none)
 else
 (some (x6.1, x6.2.1))
def slices_CompactFuncX.L2 (f_auto_Sorted_1 : (A1) → Option Bool) (n : Nat) (x1 : A126) (rec2 : (A126) → Option (Sum LR LR)) : Option (Sum LR LR) :=
 bif decide (x1.2 < ((List.length x1.1 : Nat) : Int)) then
 (bif decide (0 ≤ x1.2) && decide (x1.2 < ((List.length x1.1 : Nat) : Int)) then
 (at? x1.1 (Int.toNat x1.2)).bind fun e3 =>
 bif decide (0 ≤ (IntKind.wrap .i64 (x1.2 - (1 : Int)))) && decide ((IntKind.wrap .i64 (x1.2 - (1 : Int))) < ((List.length x1.1 : Nat) : Int)) then
 (at? x1.1 (Int.toNat (IntKind.wrap .i64 (x1.2 - (1 : Int))))).bind fun e4 =>
 (f_auto_Sorted_1 (e3.1, e3.2.1, e3.2.2, e4.1, e4.2.1, e4.2.2)).bind fun r5 =>
 bif r5 then
 (bif decide (0 ≤ x1.2) && decide (x1.2 ≤ ((List.length x1.1 : Nat) : Int)) && decide (((List.length x1.1 : Nat) : Int) ≤ ((List.length x1.1 : Nat) : Int)) then
 (loopN (slices_CompactFuncX.L1 f_auto_Sorted_1) n (x1.1, x1.2, ((Int.toNat x1.2 : Nat) : Int), ((Int.toNat ((List.length x1.1 : Nat) : Int) : Nat) : Int), (1 : Int))).bind fun x14 =>
 bif decide (0 ≤ x14.2) && decide (x14.2 ≤ ((List.length x14.1 : Nat) : Int)) && decide (((List.length x14.1 : Nat) : Int) ≤ ((List.length x14.1 : Nat) : Int)) then
 bif decide (0 ≤ 0) && decide (0 ≤ x14.2) && decide (x14.2 ≤ ((List.length (List.append (List.append (List.take (Int.toNat x14.2) x14.1) (List.replicate ((Int.toNat ((List.length x14.1 : Nat) : Int)) - (Int.toNat x14.2)) (((0 : Int), ([] : List Int), (0 : Int)) : A102))) (List.drop (Int.toNat ((List.length x14.1 : Nat) : Int)) x14.1)) : Nat) : Int)) then
 (some (List.drop (Int.toNat 0) (List.take (Int.toNat x14.2) (List.append (List.append (List.take (Int.toNat x14.2) x14.1) (List.replicate ((Int.toNat ((List.length x14.1 : Nat) : Int)) - (Int.toNat x14.2)) (((0 : Int), ([] : List Int), (0 : Int)) : A102))) (List.drop (Int.toNat ((List.length x14.1 : Nat) : Int)) x14.1))))).bind fun r => some (Sum.inr r)
 else none
 else none
 else none)
 else
 (rec2 (x1.1, IntKind.wrap .i64 (x1.2 + (1 : Int))))
 else none
 else none)
 else
 (some (Sum.inl x1.1))
def slices_CompactFuncX.P (f_auto_Sorted_1 : (A1) → Option Bool) (n : Nat) (x : List Ru) : Option LR :=
 bif decide (((List.length x : Nat) : Int) < (2 : Int)) then
 (some x)
 else
 ((loopN (slices_CompactFuncX.L2 f_auto_Sorted_1 n) n (x, (1 : Int))).bind fun q => match q with
 | Sum.inl x15 => (some x15)
 | Sum.inr r => some r)
def auto_Sorted.P (f_slices_CompactFuncX : List Ru → Option LR) (f_slices_SortFuncX : List Ru → Option LR) (n : Nat) (x : List Ru) : Option LR :=
 (f_slices_SortFuncX x).bind fun r1 =>
 (f_slices_CompactFuncX r1).bind fun r2 =>
 some r2
def boolean_Relabel.L1 (x7 : A99) (rec8 : (A99) → Option (A6)) : Option (A6) :=
 bif decide (x7.2.2.2.2.2.2.2.2 < x7.2.2.2.2.2.2.2.1) then
 (bif decide (0 ≤ x7.2.2.2.2.2.2.2.2) && decide (x7.2.2.2.2.2.2.2.2 < ((List.length x7.2.2.2.2.2.2.1 : Nat) : Int)) then
 (at? x7.2.2.2.2.2.2.1 (Int.toNat x7.2.2.2.2.2.2.2.2)).bind fun e9 =>
 (nth? x7.1 e9.1).bind fun e10 =>
 bif decide (0 ≤ x7.2.2.2.2.2.2.2.2) && decide (x7.2.2.2.2.2.2.2.2 < ((List.length x7.2.2.2.2.2.2.1 : Nat) : Int)) then
 (at? x7.2.2.2.2.2.2.1 (Int.toNat x7.2.2.2.2.2.2.2.2)).bind fun e11 =>
 rec8 (x7.1, x7.2.1, x7.2.2.1, x7.2.2.2.1, x7.2.2.2.2.1, x7.2.2.2.2.2.1, List.set x7.2.2.2.2.2.2.1 (Int.toNat x7.2.2.2.2.2.2.2.2) (e10, e11.2.1, e11.2.2), x7.2.2.2.2.2.2.2.1, IntKind.wrap .i64 (x7.2.2.2.2.2.2.2.2 + (1 : Int)))
 else none
 else none)
 else
 (some (x7.2.1, x7.2.2.1, x7.2.2.2.1, x7.2.2.2.2.1, x7.2.2.2.2.2.1, x7.2.2.2.2.2.2.1))
def boolean_Relabel.P (f_auto_Copy : (A3) → Option (A3)) (f_auto_Sorted : List Ru → Option LR) (f_auto_Valid : (A2) → Option Bool) (f_boolean_mapped : (A81) → Option Int) (f_tree_ValidAlphabet : List Int → Option Bool) (n : Nat) (x : A65) : Option (A121) :=
 ((f_tree_ValidAlphabet x.1).bind fun r1 =>
 bif !r1 then
 (some (x.2.2.1, x.1, x.2.1, x.2.2.2.1, x.2.2.2.2.1, x.2.2.2.2.2, (0 : Int), ([] : List Int), ([] : List Ru), true))
 else
 ((f_tree_ValidAlphabet x.2.1).bind fun r2 =>
 bif !r2 then
 (some (x.2.2.1, x.1, x.2.1, x.2.2.2.1, x.2.2.2.2.1, x.2.2.2.2.2, (0 : Int), ([] : List Int), ([] : List Ru), true))
 else
 ((f_auto_Valid (x.1, x.2.2.2.1, x.2.2.2.2.1, x.2.2.2.2.2)).bind fun r3 =>
 some (x.2.2.1, x.1, x.2.1, x.2.2.2.1, x.2.2.2.2.1, x.2.2.2.2.2, (0 : Int), ([] : List Int), ([] : List Ru), !r3)))).bind fun x4 =>
 bif x4.2.2.2.2.2.2.2.2.2 then
 (some ((0 : Int), ([] : List Int), ([] : List Ru), (1 : Int)))
 else
 ((f_boolean_mapped (x4.2.1, x4.2.2.1, x4.1)).bind fun r5 =>
 bif !decide (r5 = (0 : Int)) then
 (some ((0 : Int), ([] : List Int), ([] : List Ru), r5))
 else
 ((f_auto_Copy (x4.2.2.2.1, x4.2.2.2.2.1, x4.2.2.2.2.2.1)).bind fun r6 =>
 (loopN (boolean_Relabel.L1) n (x4.1, x4.2.2.2.2.2.2.1, x4.2.2.2.2.2.2.2.1, x4.2.2.2.2.2.2.2.2.1, r6.1, r6.2.1, r6.2.2, ((List.length r6.2.2 : Nat) : Int), (0 : Int))).bind fun x12 =>
 (f_auto_Sorted x12.2.2.2.2.2).bind fun r13 =>
 some (x12.2.2.2.1, x12.2.2.2.2.1, r13, (0 : Int))))
def law05_valid.L1 (f_ref03_Valid : (A2) → Option Bool) (x1 : A58) (rec2 : (A58) → Option (Sum Unit Bool)) : Option (Sum Unit Bool) :=
 bif decide (x1.2.2.2 < x1.2.2.1) then
 ((nth? x1.2.1 x1.2.2.2).bind fun e3 =>
 (f_ref03_Valid (x1.1, e3.1, e3.2.1, e3.2.2)).bind fun r4 =>
 bif !r4 then
 ((some false).bind fun r => some (Sum.inr r))
 else
 (rec2 (x1.1, x1.2.1, x1.2.2.1, IntKind.wrap .i64 (x1.2.2.2 + (1 : Int)))))
 else
 (some (Sum.inl ()))
def law05_valid.P (f_ref03_Valid : (A2) → Option Bool) (n : Nat) (x : A20) : Option Bool :=
 (loopN (law05_valid.L1 f_ref03_Valid) n (x.1, x.2, ((List.length x.2 : Nat) : Int), (0 : Int))).bind fun q => match q with
 | Sum.inl x5 => (some true)
 | Sum.inr r => some r
def ref05_Mapped.L1 (x1 : A64) (rec2 : (A64) → Option (Sum Unit Int)) : Option (Sum Unit Int) :=
 bif decide (x1.2.2.2.2 < x1.2.2.2.1) then
 ((nth? x1.2.2.1 x1.2.2.2.2).bind fun e3 =>
 (bif decide (e3 < (0 : Int)) then
 (some (x1.1, x1.2.1, x1.2.2.1, x1.2.2.2.1, x1.2.2.2.2, true))
 else
 (bif decide (((List.length x1.2.1 : Nat) : Int) ≤ e3) then
 (some (x1.1, x1.2.1, x1.2.2.1, x1.2.2.2.1, x1.2.2.2.2, true))
 else
 ((nth? x1.2.1 e3).bind fun e4 =>
 (nth? x1.1 x1.2.2.2.2).bind fun e5 =>
 some (x1.1, x1.2.1, x1.2.2.1, x1.2.2.2.1, x1.2.2.2.2, !decide (e4 = e5))))).bind fun x6 =>
 bif x6.2.2.2.2.2 then
 ((some (6 : Int)).bind fun r => some (Sum.inr r))
 else
 (rec2 (x6.1, x6.2.1, x6.2.2.1, x6.2.2.2.1, IntKind.wrap .i64 (x6.2.2.2.2.1 + (1 : Int)))))
 else
 (some (Sum.inl ()))
def ref05_Mapped.P (n : Nat) (x : A81) : Option Int :=
 bif !decide (((List.length x.2.2 : Nat) : Int) = ((List.length x.1 : Nat) : Int)) then
 (some (2 : Int))
 else
 ((loopN (ref05_Mapped.L1) n (x.1, x.2.1, x.2.2, ((List.length x.2.2 : Nat) : Int), (0 : Int))).bind fun q => match q with
 | Sum.inl x7 => (some (0 : Int))
 | Sum.inr r => some r)
def ref01_shaped.L1 (f_ref01_shaped : (A7) → Option Bool) (x3 : A116) (rec4 : (A116) → Option (Sum Unit Bool)) : Option (Sum Unit Bool) :=
 bif decide (x3.2.2.2 < x3.2.2.1) then
 ((nth? x3.2.1 x3.2.2.2).bind fun e5 =>
 (f_ref01_shaped (x3.1, RT.a e5, RT.kids e5)).bind fun r6 =>
 bif !r6 then
 ((some false).bind fun r => some (Sum.inr r))
 else
 (rec4 (x3.1, x3.2.1, x3.2.2.1, IntKind.wrap .i64 (x3.2.2.2 + (1 : Int)))))
 else
 (some (Sum.inl ()))
def ref01_shaped.P (f_ref01_shaped : (A7) → Option Bool) (n : Nat) (x : A7) : Option Bool :=
 (bif decide (x.2.1 < (0 : Int)) then
 (some (x.1, x.2.1, x.2.2, true))
 else
 (bif decide (((List.length x.1 : Nat) : Int) ≤ x.2.1) then
 (some (x.1, x.2.1, x.2.2, true))
 else
 ((nth? x.1 x.2.1).bind fun e1 =>
 some (x.1, x.2.1, x.2.2, !decide (((List.length x.2.2 : Nat) : Int) = e1))))).bind fun x2 =>
 bif x2.2.2.2 then
 (some false)
 else
 ((loopN (ref01_shaped.L1 f_ref01_shaped) n (x2.1, x2.2.2.1, ((List.length x2.2.2.1 : Nat) : Int), (0 : Int))).bind fun q => match q with
 | Sum.inl x7 => (some true)
 | Sum.inr r => some r)
def ref01_Valid.P (f_ref01_Few : (A12) → Option Bool) (f_ref01_ValidAlphabet : List Int → Option Bool) (f_ref01_shaped : (A7) → Option Bool) (n : Nat) (x : A7) : Option Bool :=
 ((f_ref01_ValidAlphabet x.1).bind fun r1 =>
 bif r1 then
 ((f_ref01_Few (x.2.1, x.2.2, (300 : Int))).bind fun r2 =>
 bif r2 then
 ((f_ref01_shaped (x.1, x.2.1, x.2.2)).bind fun r3 =>
 some r3)
 else
 (some false))
 else
 (some false)).bind fun x4 =>
 some x4
def ref05_Map.L1 (f_ref05_Map : (A7) → Option (A97)) (x2 : A60) (rec3 : (A60) → Option (A103)) : Option (A103) :=
 bif decide (x2.2.2.2.2.2.2.2 < x2.2.2.2.2.2.2.1) then
 ((nth? x2.2.2.2.2.2.1 x2.2.2.2.2.2.2.2).bind fun e4 =>
 (f_ref05_Map (x2.1, RT.a e4, RT.kids e4)).bind fun r5 =>
 bif decide (List.length x2.2.2.2.2.1 + List.length ([RT.mk r5.1 r5.2] : List (RT Int)) ≤ maxRows) then
 rec3 (x2.1, x2.2.1, x2.2.2.1, x2.2.2.2.1, List.append x2.2.2.2.2.1 ([RT.mk r5.1 r5.2] : List (RT Int)), x2.2.2.2.2.2.1, x2.2.2.2.2.2.2.1, IntKind.wrap .i64 (x2.2.2.2.2.2.2.2 + (1 : Int)))
 else none)
 else
 (some (x2.2.1, x2.2.2.1, x2.2.2.2.1, x2.2.2.2.2.1))
def ref05_Map.P (f_ref05_Map : (A7) → Option (A97)) (n : Nat) (x : A7) : Option (A97) :=
 (nth? x.1 x.2.1).bind fun e1 =>
 (loopN (ref05_Map.L1 f_ref05_Map) n (x.1, (0 : Int), ([] : List (RT Int)), e1, ([] : List (RT Int)), x.2.2, ((List.length x.2.2 : Nat) : Int), (0 : Int))).bind fun x6 =>
 some (x6.2.2.1, x6.2.2.2)
def ref05_Relabel.L1 (x1 : A88) (rec2 : (A88) → Option (A6)) : Option (A6) :=
 bif decide (x1.2.2.2.2.2.2.2.2.2 < x1.2.2.2.2.2.2.2.2.1) then
 ((nth? x1.2.2.2.2.2.2.2.1 x1.2.2.2.2.2.2.2.2.2).bind fun e3 =>
 (nth? x1.1 e3.1).bind fun e4 =>
 bif decide (List.length x1.2.2.2.2.2.2.1 + List.length ([(e4, e3.2.1, e3.2.2)] : List Ru) ≤ maxRows) then
 rec2 (x1.1, x1.2.1, x1.2.2.1, x1.2.2.2.1, x1.2.2.2.2.1, x1.2.2.2.2.2.1, List.append x1.2.2.2.2.2.2.1 ([(e4, e3.2.1, e3.2.2)] : List Ru), x1.2.2.2.2.2.2.2.1, x1.2.2.2.2.2.2.2.2.1, IntKind.wrap .i64 (x1.2.2.2.2.2.2.2.2.2 + (1 : Int)))
 else none)
 else
 (some (x1.2.1, x1.2.2.1, x1.2.2.2.1, x1.2.2.2.2.1, x1.2.2.2.2.2.1, x1.2.2.2.2.2.2.1))
def ref05_Relabel.P (n : Nat) (x : A2) : Option (A3) :=
 bif decide (List.length ([] : List Int) + List.length x.2.2.1 ≤ maxRows) then
 (loopN (ref05_Relabel.L1) n (x.1, (0 : Int), ([] : List Int), ([] : List Ru), x.2.1, List.append ([] : List Int) x.2.2.1, ([] : List Ru), x.2.2.2, ((List.length x.2.2.2 : Nat) : Int), (0 : Int))).bind fun x5 =>
 some (x5.2.2.2.1, x5.2.2.2.2.1, x5.2.2.2.2.2)
 else none
def ref03_Reached.L1 (x6 : A44) (rec7 : (A44) → Option (A62)) : Option (A62) :=
 bif decide (x6.2.2.2.2.2.2.2.2.2.2.2.2.2.2 < x6.2.2.2.2.2.2.2.2.2.2.2.2.2.1) then
 ((nth? x6.2.2.2.2.2.2.2.2.2.2.2.2.1 x6.2.2.2.2.2.2.2.2.2.2.2.2.2.2).bind fun e8 =>
 (bif x6.2.2.2.2.2.2.2.2.1 then
 (bif decide (0 ≤ e8) && decide (e8 < ((List.length x6.2.2.2.1 : Nat) : Int)) then
 (at? x6.2.2.2.1 (Int.toNat e8)).bind fun e9 =>
 some (x6.1, x6.2.1, x6.2.2.1, x6.2.2.2.1, x6.2.2.2.2.1, x6.2.2.2.2.2.1, x6.2.2.2.2.2.2.1, x6.2.2.2.2.2.2.2.1, e9, x6.2.2.2.2.2.2.2.2.2.1, x6.2.2.2.2.2.2.2.2.2.2.1, x6.2.2.2.2.2.2.2.2.2.2.2.1, x6.2.2.2.2.2.2.2.2.2.2.2.2.1, x6.2.2.2.2.2.2.2.2.2.2.2.2.2.1, x6.2.2.2.2.2.2.2.2.2.2.2.2.2.2)
 else none)
 else
 (some (x6.1, x6.2.1, x6.2.2.1, x6.2.2.2.1, x6.2.2.2.2.1, x6.2.2.2.2.2.1, x6.2.2.2.2.2.2.1, x6.2.2.2.2.2.2.2.1, false, x6.2.2.2.2.2.2.2.2.2.1, x6.2.2.2.2.2.2.2.2.2.2.1, x6.2.2.2.2.2.2.2.2.2.2.2.1, x6.2.2.2.2.2.2.2.2.2.2.2.2.1, x6.2.2.2.2.2.2.2.2.2.2.2.2.2.1, x6.2.2.2.2.2.2.2.2.2.2.2.2.2.2))).bind fun x10 =>
 rec7 (x10.1, x10.2.1, x10.2.2.1, x10.2.2.2.1, x10.2.2.2.2.1, x10.2.2.2.2.2.1, x10.2.2.2.2.2.2.1, x10.2.2.2.2.2.2.2.1, x10.2.2.2.2.2.2.2.2.1, x10.2.2.2.2.2.2.2.2.2.1, x10.2.2.2.2.2.2.2.2.2.2.1, x10.2.2.2.2.2.2.2.2.2.2.2.1, x10.2.2.2.2.2.2.2.2.2.2.2.2.1, x10.2.2.2.2.2.2.2.2.2.2.2.2.2.1, IntKind.wrap .i64 (x10.2.2.2.2.2.2.2.2.2.2.2.2.2.2 + (1 : Int))))
 else
 (some (x6.1, x6.2.1, x6.2.2.1, x6.2.2.2.1, x6.2.2.2.2.1, x6.2.2.2.2.2.1, x6.2.2.2.2.2.2.1, x6.2.2.2.2.2.2.2.1, x6.2.2.2.2.2.2.2.2.1, x6.2.2.2.2.2.2.2.2.2.1, x6.2.2.2.2.2.2.2.2.2.2.1, x6.2.2.2.2.2.2.2.2.2.2.2.1))
def ref03_Reached.L2 (n : Nat) (x3 : A94) (rec4 : (A94) → Option (A73)) : Option (A73) :=
 bif decide (x3.2.2.2.2.2.2.2 < x3.2.2.2.2.2.2.1) then
 ((nth? x3.2.2.2.2.2.1 x3.2.2.2.2.2.2.2).bind fun e5 =>
 (loopN (ref03_Reached.L1) n (x3.1, x3.2.1, x3.2.2.1, x3.2.2.2.1, x3.2.2.2.2.1, e5.1, e5.2.1, e5.2.2, true, x3.2.2.2.2.2.1, x3.2.2.2.2.2.2.1, x3.2.2.2.2.2.2.2, e5.2.1, ((List.length e5.2.1 : Nat) : Int), (0 : Int))).bind fun x11 =>
 (bif x11.2.2.2.2.2.2.2.2.1 then
 (bif decide (0 ≤ x11.2.2.2.2.2.2.2.1) && decide (x11.2.2.2.2.2.2.2.1 < ((List.length x11.2.2.2.1 : Nat) : Int)) then
 (at? x11.2.2.2.1 (Int.toNat x11.2.2.2.2.2.2.2.1)).bind fun e12 =>
 some (x11.1, x11.2.1, x11.2.2.1, x11.2.2.2.1, x11.2.2.2.2.1, x11.2.2.2.2.2.1, x11.2.2.2.2.2.2.1, x11.2.2.2.2.2.2.2.1, x11.2.2.2.2.2.2.2.2.2.1, x11.2.2.2.2.2.2.2.2.2.2.1, x11.2.2.2.2.2.2.2.2.2.2.2, !e12)
 else none)
 else
 (some (x11.1, x11.2.1, x11.2.2.1, x11.2.2.2.1, x11.2.2.2.2.1, x11.2.2.2.2.2.1, x11.2.2.2.2.2.2.1, x11.2.2.2.2.2.2.2.1, x11.2.2.2.2.2.2.2.2.2.1, x11.2.2.2.2.2.2.2.2.2.2.1, x11.2.2.2.2.2.2.2.2.2.2.2, false))).bind fun x13 =>
 (bif x13.2.2.2.2.2.2.2.2.2.2.2 then
 (bif decide (0 ≤ x13.2.2.2.2.2.2.2.1) && decide (x13.2.2.2.2.2.2.2.1 < ((List.length x13.2.2.2.1 : Nat) : Int)) then
 (at? x13.2.2.2.1 (Int.toNat x13.2.2.2.2.2.2.2.1)).bind fun e14 =>
 some (x13.1, x13.2.1, x13.2.2.1, List.set x13.2.2.2.1 (Int.toNat x13.2.2.2.2.2.2.2.1) true, true, x13.2.2.2.2.2.2.2.2.1, x13.2.2.2.2.2.2.2.2.2.1, x13.2.2.2.2.2.2.2.2.2.2.1)
 else none)
 else
 (some (x13.1, x13.2.1, x13.2.2.1, x13.2.2.2.1, x13.2.2.2.2.1, x13.2.2.2.2.2.2.2.2.1, x13.2.2.2.2.2.2.2.2.2.1, x13.2.2.2.2.2.2.2.2.2.2.1))).bind fun x15 =>
 rec4 (x15.1, x15.2.1, x15.2.2.1, x15.2.2.2.1, x15.2.2.2.2.1, x15.2.2.2.2.2.1, x15.2.2.2.2.2.2.1, IntKind.wrap .i64 (x15.2.2.2.2.2.2.2 + (1 : Int))))
 else
 (some (x3.1, x3.2.1, x3.2.2.1, x3.2.2.2.1, x3.2.2.2.2.1))
def ref03_Reached.L3 (n : Nat) (x1 : A73) (rec2 : (A73) → Option (List Bool)) : Option (List Bool) :=
 bif x1.2.2.2.2 then
 ((loopN (ref03_Reached.L2 n) n (x1.1, x1.2.1, x1.2.2.1, x1.2.2.2.1, false, x1.2.2.1, ((List.length x1.2.2.1 : Nat) : Int), (0 : Int))).bind fun x16 =>
 rec2 (x16.1, x16.2.1, x16.2.2.1, x16.2.2.2.1, x16.2.2.2.2))
 else
 (some x1.2.2.2.1)
def ref03_Reached.P (n : Nat) (x : A3) : Option (List Bool) :=
 bif decide (0 ≤ x.1) && decide (x.1 ≤ x.1) && decide (x.1 ≤ ((maxRows : Nat) : Int)) then
 (loopN (ref03_Reached.L3 n) n (x.1, x.2.1, x.2.2, List.replicate (Int.toNat x.1) (false : Bool), true)).bind fun x17 =>
 some x17
 else none
def ref03_Used.L1 (x2 : A83) (rec3 : (A83) → Option (A108)) : Option (A108) :=
 bif decide (x2.2.2.2.2.2.2.2 < x2.2.2.2.2.2.2.1) then
 ((nth? x2.2.2.2.2.2.1 x2.2.2.2.2.2.2.2).bind fun e4 =>
 bif decide (0 ≤ e4) && decide (e4 < ((List.length x2.2.2.2.1 : Nat) : Int)) then
 (at? x2.2.2.2.1 (Int.toNat e4)).bind fun e5 =>
 bif decide (0 ≤ e4) && decide (e4 < ((List.length x2.2.2.2.2.1 : Nat) : Int)) then
 (at? x2.2.2.2.2.1 (Int.toNat e4)).bind fun e6 =>
 rec3 (x2.1, x2.2.1, x2.2.2.1, x2.2.2.2.1, List.set x2.2.2.2.2.1 (Int.toNat e4) e5, x2.2.2.2.2.2.1, x2.2.2.2.2.2.2.1, IntKind.wrap .i64 (x2.2.2.2.2.2.2.2 + (1 : Int)))
 else none
 else none)
 else
 (some (x2.1, x2.2.1, x2.2.2.1, x2.2.2.2.1, x2.2.2.2.2.1))
def ref03_Used.L2 (x14 : A34) (rec15 : (A34) → Option (A50)) : Option (A50) :=
 bif decide (x14.2.2.2.2.2.2.2.2.2.2.2.2.2.2.2 < x14.2.2.2.2.2.2.2.2.2.2.2.2.2.2.1) then
 ((nth? x14.2.2.2.2.2.2.2.2.2.2.2.2.2.1 x14.2.2.2.2.2.2.2.2.2.2.2.2.2.2.2).bind fun e16 =>
 (bif x14.2.2.2.2.2.2.2.2.2.1 then
 (bif decide (0 ≤ e16) && decide (e16 < ((List.length x14.2.2.2.1 : Nat) : Int)) then
 (at? x14.2.2.2.1 (Int.toNat e16)).bind fun e17 =>
 some (x14.1, x14.2.1, x14.2.2.1, x14.2.2.2.1, x14.2.2.2.2.1, x14.2.2.2.2.2.1, x14.2.2.2.2.2.2.1, x14.2.2.2.2.2.2.2.1, x14.2.2.2.2.2.2.2.2.1, e17, x14.2.2.2.2.2.2.2.2.2.2.1, x14.2.2.2.2.2.2.2.2.2.2.2.1, x14.2.2.2.2.2.2.2.2.2.2.2.2.1, x14.2.2.2.2.2.2.2.2.2.2.2.2.2.1, x14.2.2.2.2.2.2.2.2.2.2.2.2.2.2.1, x14.2.2.2.2.2.2.2.2.2.2.2.2.2.2.2)
 else none)
 else
 (some (x14.1, x14.2.1, x14.2.2.1, x14.2.2.2.1, x14.2.2.2.2.1, x14.2.2.2.2.2.1, x14.2.2.2.2.2.2.1, x14.2.2.2.2.2.2.2.1, x14.2.2.2.2.2.2.2.2.1, false, x14.2.2.2.2.2.2.2.2.2.2.1, x14.2.2.2.2.2.2.2.2.2.2.2.1, x14.2.2.2.2.2.2.2.2.2.2.2.2.1, x14.2.2.2.2.2.2.2.2.2.2.2.2.2.1, x14.2.2.2.2.2.2.2.2.2.2.2.2.2.2.1, x14.2.2.2.2.2.2.2.2.2.2.2.2.2.2.2))).bind fun x18 =>
 rec15 (x18.1, x18.2.1, x18.2.2.1, x18.2.2.2.1, x18.2.2.2.2.1, x18.2.2.2.2.2.1, x18.2.2.2.2.2.2.1, x18.2.2.2.2.2.2.2.1, x18.2.2.2.2.2.2.2.2.1, x18.2.2.2.2.2.2.2.2.2.1, x18.2.2.2.2.2.2.2.2.2.2.1, x18.2.2.2.2.2.2.2.2.2.2.2.1, x18.2.2.2.2.2.2.2.2.2.2.2.2.1, x18.2.2.2.2.2.2.2.2.2.2.2.2.2.1, x18.2.2.2.2.2.2.2.2.2.2.2.2.2.2.1, IntKind.wrap .i64 (x18.2.2.2.2.2.2.2.2.2.2.2.2.2.2.2 + (1 : Int))))
 else
 (some (x14.1, x14.2.1, x14.2.2.1, x14.2.2.2.1, x14.2.2.2.2.1, x14.2.2.2.2.2.1, x14.2.2.2.2.2.2.1, x14.2.2.2.2.2.2.2.1, x14.2.2.2.2.2.2.2.2.1, x14.2.2.2.2.2.2.2.2.2.1, x14.2.2.2.2.2.2.2.2.2.2.1, x14.2.2.2.2.2.2.2.2.2.2.2.1, x14.2.2.2.2.2.2.2.2.2.2.2.2.1))
def ref03_Used.L3 (x20 : A51) (rec21 : (A51) → Option (A23)) : Option (A23) :=
 bif decide (x20.2.2.2.2.2.2.2.2.2.2.2.2 < x20.2.2.2.2.2.2.2.2.2.2.2.1) then
 ((nth? x20.2.2.2.2.2.2.2.2.2.2.1 x20.2.2.2.2.2.2.2.2.2.2.2.2).bind fun e22 =>
 (bif x20.2.2.2.2.2.2.1 then
 (bif decide (0 ≤ e22) && decide (e22 < ((List.length x20.2.2.2.2.1 : Nat) : Int)) then
 (at? x20.2.2.2.2.1 (Int.toNat e22)).bind fun e23 =>
 some (x20.1, x20.2.1, x20.2.2.1, x20.2.2.2.1, x20.2.2.2.2.1, x20.2.2.2.2.2.1, x20.2.2.2.2.2.2.1, e22, x20.2.2.2.2.2.2.2.1, x20.2.2.2.2.2.2.2.2.1, x20.2.2.2.2.2.2.2.2.2.1, x20.2.2.2.2.2.2.2.2.2.2.1, x20.2.2.2.2.2.2.2.2.2.2.2.1, x20.2.2.2.2.2.2.2.2.2.2.2.2, !e23)
 else none)
 else
 (some (x20.1, x20.2.1, x20.2.2.1, x20.2.2.2.1, x20.2.2.2.2.1, x20.2.2.2.2.2.1, x20.2.2.2.2.2.2.1, e22, x20.2.2.2.2.2.2.2.1, x20.2.2.2.2.2.2.2.2.1, x20.2.2.2.2.2.2.2.2.2.1, x20.2.2.2.2.2.2.2.2.2.2.1, x20.2.2.2.2.2.2.2.2.2.2.2.1, x20.2.2.2.2.2.2.2.2.2.2.2.2, false))).bind fun x24 =>
 (bif x24.2.2.2.2.2.2.2.2.2.2.2.2.2.2 then
 (bif decide (0 ≤ x24.2.2.2.2.2.2.2.1) && decide (x24.2.2.2.2.2.2.2.1 < ((List.length x24.2.2.2.2.1 : Nat) : Int)) then
 (at? x24.2.2.2.2.1 (Int.toNat x24.2.2.2.2.2.2.2.1)).bind fun e25 =>
 some (x24.1, x24.2.1, x24.2.2.1, x24.2.2.2.1, List.set x24.2.2.2.2.1 (Int.toNat x24.2.2.2.2.2.2.2.1) true, true, x24.2.2.2.2.2.2.1, x24.2.2.2.2.2.2.2.2.1, x24.2.2.2.2.2.2.2.2.2.1, x24.2.2.2.2.2.2.2.2.2.2.1, x24.2.2.2.2.2.2.2.2.2.2.2.1, x24.2.2.2.2.2.2.2.2.2.2.2.2.1, x24.2.2.2.2.2.2.2.2.2.2.2.2.2.1)
 else none)
 else
 (some (x24.1, x24.2.1, x24.2.2.1, x24.2.2.2.1, x24.2.2.2.2.1, x24.2.2.2.2.2.1, x24.2.2.2.2.2.2.1, x24.2.2.2.2.2.2.2.2.1, x24.2.2.2.2.2.2.2.2.2.1, x24.2.2.2.2.2.2.2.2.2.2.1, x24.2.2.2.2.2.2.2.2.2.2.2.1, x24.2.2.2.2.2.2.2.2.2.2.2.2.1, x24.2.2.2.2.2.2.2.2.2.2.2.2.2.1))).bind fun x26 =>
 rec21 (x26.1, x26.2.1, x26.2.2.1, x26.2.2.2.1, x26.2.2.2.2.1, x26.2.2.2.2.2.1, x26.2.2.2.2.2.2.1, x26.2.2.2.2.2.2.2.1, x26.2.2.2.2.2.2.2.2.1, x26.2.2.2.2.2.2.2.2.2.1, x26.2.2.2.2.2.2.2.2.2.2.1, x26.2.2.2.2.2.2.2.2.2.2.2.1, IntKind.wrap .i64 (x26.2.2.2.2.2.2.2.2.2.2.2.2 + (1 : Int))))
 else
 (some (x20.1, x20.2.1, x20.2.2.1, x20.2.2.2.1, x20.2.2.2.2.1, x20.2.2.2.2.2.1, x20.2.2.2.2.2.2.2.1, x20.2.2.2.2.2.2.2.2.1, x20.2.2.2.2.2.2.2.2.2.1))
def ref03_Used.L4 (n : Nat) (x10 : A23) (rec11 : (A23) → Option (A45)) : Option (A45) :=
 bif decide (x10.2.2.2.2.2.2.2.2 < x10.2.2.2.2.2.2.2.1) then
 ((nth? x10.2.2.2.2.2.2.1 x10.2.2.2.2.2.2.2.2).bind fun e12 =>
 bif decide (0 ≤ e12.2.2) && decide (e12.2.2 < ((List.length x10.2.2.2.2.1 : Nat) : Int)) then
 (at? x10.2.2.2.2.1 (Int.toNat e12.2.2)).bind fun e13 =>
 (loopN (ref03_Used.L2) n (x10.1, x10.2.1, x10.2.2.1, x10.2.2.2.1, x10.2.2.2.2.1, x10.2.2.2.2.2.1, e12.1, e12.2.1, e12.2.2, e13, x10.2.2.2.2.2.2.1, x10.2.2.2.2.2.2.2.1, x10.2.2.2.2.2.2.2.2, e12.2.1, ((List.length e12.2.1 : Nat) : Int), (0 : Int))).bind fun x19 =>
 (loopN (ref03_Used.L3) n (x19.1, x19.2.1, x19.2.2.1, x19.2.2.2.1, x19.2.2.2.2.1, x19.2.2.2.2.2.1, x19.2.2.2.2.2.2.2.2.2.1, x19.2.2.2.2.2.2.2.2.2.2.1, x19.2.2.2.2.2.2.2.2.2.2.2.1, x19.2.2.2.2.2.2.2.2.2.2.2.2, x19.2.2.2.2.2.2.2.1, ((List.length x19.2.2.2.2.2.2.2.1 : Nat) : Int), (0 : Int))).bind fun x27 =>
 rec11 (x27.1, x27.2.1, x27.2.2.1, x27.2.2.2.1, x27.2.2.2.2.1, x27.2.2.2.2.2.1, x27.2.2.2.2.2.2.1, x27.2.2.2.2.2.2.2.1, IntKind.wrap .i64 (x27.2.2.2.2.2.2.2.2 + (1 : Int)))
 else none)
 else
 (some (x10.1, x10.2.1, x10.2.2.1, x10.2.2.2.1, x10.2.2.2.2.1, x10.2.2.2.2.2.1))
def ref03_Used.L5 (n : Nat) (x8 : A45) (rec9 : (A45) → Option (List Bool)) : Option (List Bool) :=
 bif x8.2.2.2.2.2 then
 ((loopN (ref03_Used.L4 n) n (x8.1, x8.2.1, x8.2.2.1, x8.2.2.2.1, x8.2.2.2.2.1, false, x8.2.2.1, ((List.length x8.2.2.1 : Nat) : Int), (0 : Int))).bind fun x28 =>
 rec9 (x28.1, x28.2.1, x28.2.2.1, x28.2.2.2.1, x28.2.2.2.2.1, x28.2.2.2.2.2))
 else
 (some x8.2.2.2.2.1)
def ref03_Used.P (f_ref03_Reached : (A3) → Option (List Bool)) (n : Nat) (x : A3) : Option (List Bool) :=
 (f_ref03_Reached (x.1, x.2.1, x.2.2)).bind fun r1 =>
 bif decide (0 ≤ x.1) && decide (x.1 ≤ x.1) && decide (x.1 ≤ ((maxRows : Nat) : Int)) then
 (loopN (ref03_Used.L1) n (x.1, x.2.1, x.2.2, r1, List.replicate (Int.toNat x.1) (false : Bool), x.2.1, ((List.length x.2.1 : Nat) : Int), (0 : Int))).bind fun x7 =>
 (loopN (ref03_Used.L5 n) n (x7.1, x7.2.1, x7.2.2.1, x7.2.2.2.1, x7.2.2.2.2, true)).bind fun x29 =>
 some x29
 else none
def ref03_key.P (n : Nat) (x : A102) : Option LI :=
 bif decide (List.length ([x.1] : List Int) + List.length x.2.1 ≤ maxRows) then
 bif decide (List.length (List.append ([x.1] : List Int) x.2.1) + List.length ([x.2.2] : List Int) ≤ maxRows) then
 some (List.append (List.append ([x.1] : List Int) x.2.1) ([x.2.2] : List Int))
 else none
 else none
def ref03_Less.L1 (x1 : A57) (rec2 : (A57) → Option (Sum (A19) Int)) : Option (Sum (A19) Int) :=
 bif decide (x1.2.2.2 < x1.2.2.1) then
 ((nth? x1.1 x1.2.2.2).bind fun e3 =>
 (nth? x1.2.1 x1.2.2.2).bind fun e4 =>
 bif decide (e3 < e4) then
 ((some (-1 : Int)).bind fun r => some (Sum.inr r))
 else
 ((nth? x1.1 x1.2.2.2).bind fun e5 =>
 (nth? x1.2.1 x1.2.2.2).bind fun e6 =>
 bif decide (e6 < e5) then
 ((some (1 : Int)).bind fun r => some (Sum.inr r))
 else
 (rec2 (x1.1, x1.2.1, x1.2.2.1, IntKind.wrap .i64 (x1.2.2.2 + (1 : Int))))))
 else
 (some (Sum.inl (x1.1, x1.2.1)))
def ref03_Less.P (n : Nat) (x : A19) : Option Int :=
 (loopN (ref03_Less.L1) n (x.1, x.2, min ((List.length x.1 : Nat) : Int) ((List.length x.2 : Nat) : Int), (0 : Int))).bind fun q => match q with
 | Sum.inl x7 => (bif decide (((List.length x7.1 : Nat) : Int) < ((List.length x7.2 : Nat) : Int)) then
 (some (-1 : Int))
 else
 (bif decide (((List.length x7.2 : Nat) : Int) < ((List.length x7.1 : Nat) : Int)) then
 (some (1 : Int))
 else
 (some (0 : Int))))
 | Sum.inr r => some r
def ref03_Sort.L1 (f_ref03_key : Ru → Option LI) (f_ref03_Less : (A19) → Option Int) (x4 : A96) (rec5 : (A96) → Option (A101)) : Option (A101) :=
 bif decide (x4.2.2.2.2.1 < x4.2.2.2.2.2.1) then
 (bif !decide ((2 : Int) = 0) then
 bif decide (0 ≤ (IntKind.wrap .i64 (Int.tdiv (IntKind.wrap .i64 (x4.2.2.2.2.1 + x4.2.2.2.2.2.1)) (2 : Int)))) && decide ((IntKind.wrap .i64 (Int.tdiv (IntKind.wrap .i64 (x4.2.2.2.2.1 + x4.2.2.2.2.2.1)) (2 : Int))) < ((List.length x4.1 : Nat) : Int)) then
 (at? x4.1 (Int.toNat (IntKind.wrap .i64 (Int.tdiv (IntKind.wrap .i64 (x4.2.2.2.2.1 + x4.2.2.2.2.2.1)) (2 : Int))))).bind fun e6 =>
 (f_ref03_key (e6.1, e6.2.1, e6.2.2)).bind fun r7 =>
 (f_ref03_key (x4.2.1, x4.2.2.1, x4.2.2.2.1)).bind fun r8 =>
 (f_ref03_Less (r7, r8)).bind fun r9 =>
 (bif decide (r9 < (0 : Int)) then
 (some (x4.1, x4.2.1, x4.2.2.1, x4.2.2.2.1, IntKind.wrap .i64 ((IntKind.wrap .i64 (Int.tdiv (IntKind.wrap .i64 (x4.2.2.2.2.1 + x4.2.2.2.2.2.1)) (2 : Int))) + (1 : Int)), x4.2.2.2.2.2.1, x4.2.2.2.2.2.2.1, x4.2.2.2.2.2.2.2.1, x4.2.2.2.2.2.2.2.2))
 else
 (some (x4.1, x4.2.1, x4.2.2.1, x4.2.2.2.1, x4.2.2.2.2.1, IntKind.wrap .i64 (Int.tdiv (IntKind.wrap .i64 (x4.2.2.2.2.1 + x4.2.2.2.2.2.1)) (2 : Int)), x4.2.2.2.2.2.2.1, x4.2.2.2.2.2.2.2.1, x4.2.2.2.2.2.2.2.2))).bind fun x10 =>
 rec5 (x10.1, x10.2.1, x10.2.2.1, x10.2.2.2.1, x10.2.2.2.2.1, x10.2.2.2.2.2.1, x10.2.2.2.2.2.2.1, x10.2.2.2.2.2.2.2.1, x10.2.2.2.2.2.2.2.2)
 else none
 else none)
 else
 (some (x4.1, x4.2.1, x4.2.2.1, x4.2.2.2.1, x4.2.2.2.2.1, x4.2.2.2.2.2.2.1, x4.2.2.2.2.2.2.2.1, x4.2.2.2.2.2.2.2.2))
def ref03_Sort.L2 (f_ref03_key : Ru → Option LI) (f_ref03_Less : (A19) → Option Int) (n : Nat) (x1 : LR × LR × Int × Int) (rec2 : (LR × LR × Int × Int) → Option LR) : Option LR :=
 bif decide (x1.2.2.2 < x1.2.2.1) then
 ((nth? x1.2.1 x1.2.2.2).bind fun e3 =>
 (loopN (ref03_Sort.L1 f_ref03_key f_ref03_Less) n (x1.1, e3.1, e3.2.1, e3.2.2, (0 : Int), ((List.length x1.1 : Nat) : Int), x1.2.1, x1.2.2.1, x1.2.2.2)).bind fun x11 =>
 (bif decide (x11.2.2.2.2.1 = ((List.length x11.1 : Nat) : Int)) then
 (some (x11.1, x11.2.1, x11.2.2.1, x11.2.2.2.1, x11.2.2.2.2.1, x11.2.2.2.2.2.1, x11.2.2.2.2.2.2.1, x11.2.2.2.2.2.2.2, true))
 else
 (bif decide (0 ≤ x11.2.2.2.2.1) && decide (x11.2.2.2.2.1 < ((List.length x11.1 : Nat) : Int)) then
 (at? x11.1 (Int.toNat x11.2.2.2.2.1)).bind fun e12 =>
 (f_ref03_key (e12.1, e12.2.1, e12.2.2)).bind fun r13 =>
 (f_ref03_key (x11.2.1, x11.2.2.1, x11.2.2.2.1)).bind fun r14 =>
 (f_ref03_Less (r13, r14)).bind fun r15 =>
 some (x11.1, x11.2.1, x11.2.2.1, x11.2.2.2.1, x11.2.2.2.2.1, x11.2.2.2.2.2.1, x11.2.2.2.2.2.2.1, x11.2.2.2.2.2.2.2, !decide (r15 = (0 : Int)))
 else none)).bind fun x16 =>
 (bif x16.2.2.2.2.2.2.2.2 then
 (bif decide (List.length x16.1 + List.length ([((0 : Int), ([] : List Int), (0 : Int))] : List Ru) ≤ maxRows) then
 bif decide (0 ≤ (IntKind.wrap .i64 (x16.2.2.2.2.1 + (1 : Int)))) && decide ((IntKind.wrap .i64 (x16.2.2.2.2.1 + (1 : Int))) ≤ ((List.length (List.append x16.1 ([((0 : Int), ([] : List Int), (0 : Int))] : List Ru)) : Nat) : Int)) && decide (((List.length (List.append x16.1 ([((0 : Int), ([] : List Int), (0 : Int))] : List Ru)) : Nat) : Int) ≤ ((List.length (List.append x16.1 ([((0 : Int), ([] : List Int), (0 : Int))] : List Ru)) : Nat) : Int)) then
 bif decide (0 ≤ x16.2.2.2.2.1) && decide (x16.2.2.2.2.1 ≤ ((List.length (List.append x16.1 ([((0 : Int), ([] : List Int), (0 : Int))] : List Ru)) : Nat) : Int)) && decide (((List.length (List.append x16.1 ([((0 : Int), ([] : List Int), (0 : Int))] : List Ru)) : Nat) : Int) ≤ ((List.length (List.append x16.1 ([((0 : Int), ([] : List Int), (0 : Int))] : List Ru)) : Nat) : Int)) then
 bif decide (0 ≤ x16.2.2.2.2.1) && decide (x16.2.2.2.2.1 < ((List.length (List.append (List.append (List.take (Int.toNat (IntKind.wrap .i64 (x16.2.2.2.2.1 + (1 : Int)))) (List.append x16.1 ([((0 : Int), ([] : List Int), (0 : Int))] : List Ru))) (List.take (Nat.min (List.length (List.drop (Int.toNat x16.2.2.2.2.1) (List.take (Int.toNat ((List.length (List.append x16.1 ([((0 : Int), ([] : List Int), (0 : Int))] : List Ru)) : Nat) : Int)) (List.append x16.1 ([((0 : Int), ([] : List Int), (0 : Int))] : List Ru))))) ((Int.toNat ((List.length (List.append x16.1 ([((0 : Int), ([] : List Int), (0 : Int))] : List Ru)) : Nat) : Int)) - (Int.toNat (IntKind.wrap .i64 (x16.2.2.2.2.1 + (1 : Int)))))) (List.drop (Int.toNat x16.2.2.2.2.1) (List.take (Int.toNat ((List.length (List.append x16.1 ([((0 : Int), ([] : List Int), (0 : Int))] : List Ru)) : Nat) : Int)) (List.append x16.1 ([((0 : Int), ([] : List Int), (0 : Int))] : List Ru)))))) (List.drop ((Int.toNat (IntKind.wrap .i64 (x16.2.2.2.2.1 + (1 : Int)))) + (Nat.min (List.length (List.drop (Int.toNat x16.2.2.2.2.1) (List.take (Int.toNat ((List.length (List.append x16.1 ([((0 : Int), ([] : List Int), (0 : Int))] : List Ru)) : Nat) : Int)) (List.append x16.1 ([((0 : Int), ([] : List Int), (0 : Int))] : List Ru))))) ((Int.toNat ((List.length (List.append x16.1 ([((0 : Int), ([] : List Int), (0 : Int))] : List Ru)) : Nat) : Int)) - (Int.toNat (IntKind.wrap .i64 (x16.2.2.2.2.1 + (1 : Int))))))) (List.append x16.1 ([((0 : Int), ([] : List Int), (0 : Int))] : List Ru)))) : Nat) : Int)) then
 (at? (List.append (List.append (List.take (Int.toNat (IntKind.wrap .i64 (x16.2.2.2.2.1 + (1 : Int)))) (List.append x16.1 ([((0 : Int), ([] : List Int), (0 : Int))] : List Ru))) (List.take (Nat.min (List.length (List.drop (Int.toNat x16.2.2.2.2.1) (List.take (Int.toNat ((List.length (List.append x16.1 ([((0 : Int), ([] : List Int), (0 : Int))] : List Ru)) : Nat) : Int)) (List.append x16.1 ([((0 : Int), ([] : List Int), (0 : Int))] : List Ru))))) ((Int.toNat ((List.length (List.append x16.1 ([((0 : Int), ([] : List Int), (0 : Int))] : List Ru)) : Nat) : Int)) - (Int.toNat (IntKind.wrap .i64 (x16.2.2.2.2.1 + (1 : Int)))))) (List.drop (Int.toNat x16.2.2.2.2.1) (List.take (Int.toNat ((List.length (List.append x16.1 ([((0 : Int), ([] : List Int), (0 : Int))] : List Ru)) : Nat) : Int)) (List.append x16.1 ([((0 : Int), ([] : List Int), (0 : Int))] : List Ru)))))) (List.drop ((Int.toNat (IntKind.wrap .i64 (x16.2.2.2.2.1 + (1 : Int)))) + (Nat.min (List.length (List.drop (Int.toNat x16.2.2.2.2.1) (List.take (Int.toNat ((List.length (List.append x16.1 ([((0 : Int), ([] : List Int), (0 : Int))] : List Ru)) : Nat) : Int)) (List.append x16.1 ([((0 : Int), ([] : List Int), (0 : Int))] : List Ru))))) ((Int.toNat ((List.length (List.append x16.1 ([((0 : Int), ([] : List Int), (0 : Int))] : List Ru)) : Nat) : Int)) - (Int.toNat (IntKind.wrap .i64 (x16.2.2.2.2.1 + (1 : Int))))))) (List.append x16.1 ([((0 : Int), ([] : List Int), (0 : Int))] : List Ru)))) (Int.toNat x16.2.2.2.2.1)).bind fun e17 =>
 some (List.set (List.append (List.append (List.take (Int.toNat (IntKind.wrap .i64 (x16.2.2.2.2.1 + (1 : Int)))) (List.append x16.1 ([((0 : Int), ([] : List Int), (0 : Int))] : List Ru))) (List.take (Nat.min (List.length (List.drop (Int.toNat x16.2.2.2.2.1) (List.take (Int.toNat ((List.length (List.append x16.1 ([((0 : Int), ([] : List Int), (0 : Int))] : List Ru)) : Nat) : Int)) (List.append x16.1 ([((0 : Int), ([] : List Int), (0 : Int))] : List Ru))))) ((Int.toNat ((List.length (List.append x16.1 ([((0 : Int), ([] : List Int), (0 : Int))] : List Ru)) : Nat) : Int)) - (Int.toNat (IntKind.wrap .i64 (x16.2.2.2.2.1 + (1 : Int)))))) (List.drop (Int.toNat x16.2.2.2.2.1) (List.take (Int.toNat ((List.length (List.append x16.1 ([((0 : Int), ([] : List Int), (0 : Int))] : List Ru)) : Nat) : Int)) (List.append x16.1 ([((0 : Int), ([] : List Int), (0 : Int))] : List Ru)))))) (List.drop ((Int.toNat (IntKind.wrap .i64 (x16.2.2.2.2.1 + (1 : Int)))) + (Nat.min (List.length (List.drop (Int.toNat x16.2.2.2.2.1) (List.take (Int.toNat ((List.length (List.append x16.1 ([((0 : Int), ([] : List Int), (0 : Int))] : List Ru)) : Nat) : Int)) (List.append x16.1 ([((0 : Int), ([] : List Int), (0 : Int))] : List Ru))))) ((Int.toNat ((List.length (List.append x16.1 ([((0 : Int), ([] : List Int), (0 : Int))] : List Ru)) : Nat) : Int)) - (Int.toNat (IntKind.wrap .i64 (x16.2.2.2.2.1 + (1 : Int))))))) (List.append x16.1 ([((0 : Int), ([] : List Int), (0 : Int))] : List Ru)))) (Int.toNat x16.2.2.2.2.1) (x16.2.1, x16.2.2.1, x16.2.2.2.1), x16.2.2.2.2.2.1, x16.2.2.2.2.2.2.1, x16.2.2.2.2.2.2.2.1)
 else none
 else none
 else none
 else none)
 else
 (some (x16.1, x16.2.2.2.2.2.1, x16.2.2.2.2.2.2.1, x16.2.2.2.2.2.2.2.1))).bind fun x18 =>
 rec2 (x18.1, x18.2.1, x18.2.2.1, IntKind.wrap .i64 (x18.2.2.2 + (1 : Int))))
 else
 (some x1.1)
def ref03_Sort.P (f_ref03_Less : (A19) → Option Int) (f_ref03_key : Ru → Option LI) (n : Nat) (x : List Ru) : Option LR :=
 (loopN (ref03_Sort.L2 f_ref03_key f_ref03_Less n) n (([] : List Ru), x, ((List.length x : Nat) : Int), (0 : Int))).bind fun x19 =>
 some x19
def ref03_Keep.L1 (x1 : A48) (rec2 : (A48) → Option (A21)) : Option (A21) :=
 bif decide (x1.2.2.2.2.2.2.2.2.2.2.2.2.2 < x1.2.2.2.2.2.2.2.2.2.2.2.2.1) then
 ((nth? x1.2.2.2.2.2.2.2.2.2.2.2.1 x1.2.2.2.2.2.2.2.2.2.2.2.2.2).bind fun e3 =>
 (bif e3 then
 (bif decide (0 ≤ x1.2.2.2.2.2.2.2.2.2.2.2.2.2) && decide (x1.2.2.2.2.2.2.2.2.2.2.2.2.2 < ((List.length x1.2.2.2.2.2.2.2.1 : Nat) : Int)) then
 (at? x1.2.2.2.2.2.2.2.1 (Int.toNat x1.2.2.2.2.2.2.2.2.2.2.2.2.2)).bind fun e4 =>
 some (x1.1, x1.2.1, x1.2.2.1, x1.2.2.2.1, x1.2.2.2.2.1, x1.2.2.2.2.2.1, x1.2.2.2.2.2.2.1, List.set x1.2.2.2.2.2.2.2.1 (Int.toNat x1.2.2.2.2.2.2.2.2.2.2.2.2.2) x1.2.2.2.2.2.2.2.2.1, IntKind.wrap .i64 (x1.2.2.2.2.2.2.2.2.1 + (1 : Int)), x1.2.2.2.2.2.2.2.2.2.1, x1.2.2.2.2.2.2.2.2.2.2.1, x1.2.2.2.2.2.2.2.2.2.2.2.1, x1.2.2.2.2.2.2.2.2.2.2.2.2.1, x1.2.2.2.2.2.2.2.2.2.2.2.2.2)
 else none)
 else
 (some (x1.1, x1.2.1, x1.2.2.1, x1.2.2.2.1, x1.2.2.2.2.1, x1.2.2.2.2.2.1, x1.2.2.2.2.2.2.1, x1.2.2.2.2.2.2.2.1, x1.2.2.2.2.2.2.2.2.1, x1.2.2.2.2.2.2.2.2.2.1, x1.2.2.2.2.2.2.2.2.2.2.1, x1.2.2.2.2.2.2.2.2.2.2.2.1, x1.2.2.2.2.2.2.2.2.2.2.2.2.1, x1.2.2.2.2.2.2.2.2.2.2.2.2.2))).bind fun x5 =>
 rec2 (x5.1, x5.2.1, x5.2.2.1, x5.2.2.2.1, x5.2.2.2.2.1, x5.2.2.2.2.2.1, x5.2.2.2.2.2.2.1, x5.2.2.2.2.2.2.2.1, x5.2.2.2.2.2.2.2.2.1, x5.2.2.2.2.2.2.2.2.2.1, x5.2.2.2.2.2.2.2.2.2.2.1, x5.2.2.2.2.2.2.2.2.2.2.2.1, x5.2.2.2.2.2.2.2.2.2.2.2.2.1, IntKind.wrap .i64 (x5.2.2.2.2.2.2.2.2.2.2.2.2.2 + (1 : Int))))
 else
 (some (x1.1, x1.2.1, x1.2.2.1, x1.2.2.2.1, x1.2.2.2.2.1, x1.2.2.2.2.2.1, x1.2.2.2.2.2.2.1, x1.2.2.2.2.2.2.2.1, x1.2.2.2.2.2.2.2.2.1, x1.2.2.2.2.2.2.2.2.2.1, x1.2.2.2.2.2.2.2.2.2.2.1))
def ref03_Keep.L2 (x7 : A55) (rec8 : (A55) → Option (A21)) : Option (A21) :=
 bif decide (x7.2.2.2.2.2.2.2.2.2.2.2.2.2 < x7.2.2.2.2.2.2.2.2.2.2.2.2.1) then
 ((nth? x7.2.2.2.2.2.2.2.2.2.2.2.1 x7.2.2.2.2.2.2.2.2.2.2.2.2.2).bind fun e9 =>
 (nth? x7.1 e9).bind fun e10 =>
 (bif e10 then
 (bif decide (0 ≤ e9) && decide (e9 < ((List.length x7.2.2.2.2.2.2.2.1 : Nat) : Int)) then
 (at? x7.2.2.2.2.2.2.2.1 (Int.toNat e9)).bind fun e11 =>
 bif decide (List.length x7.2.2.2.2.2.2.2.2.2.1 + List.length ([e11] : List Int) ≤ maxRows) then
 some (x7.1, x7.2.1, x7.2.2.1, x7.2.2.2.1, x7.2.2.2.2.1, x7.2.2.2.2.2.1, x7.2.2.2.2.2.2.1, x7.2.2.2.2.2.2.2.1, x7.2.2.2.2.2.2.2.2.1, List.append x7.2.2.2.2.2.2.2.2.2.1 ([e11] : List Int), x7.2.2.2.2.2.2.2.2.2.2.1, x7.2.2.2.2.2.2.2.2.2.2.2.1, x7.2.2.2.2.2.2.2.2.2.2.2.2.1, x7.2.2.2.2.2.2.2.2.2.2.2.2.2)
 else none
 else none)
 else
 (some (x7.1, x7.2.1, x7.2.2.1, x7.2.2.2.1, x7.2.2.2.2.1, x7.2.2.2.2.2.1, x7.2.2.2.2.2.2.1, x7.2.2.2.2.2.2.2.1, x7.2.2.2.2.2.2.2.2.1, x7.2.2.2.2.2.2.2.2.2.1, x7.2.2.2.2.2.2.2.2.2.2.1, x7.2.2.2.2.2.2.2.2.2.2.2.1, x7.2.2.2.2.2.2.2.2.2.2.2.2.1, x7.2.2.2.2.2.2.2.2.2.2.2.2.2))).bind fun x12 =>
 rec8 (x12.1, x12.2.1, x12.2.2.1, x12.2.2.2.1, x12.2.2.2.2.1, x12.2.2.2.2.2.1, x12.2.2.2.2.2.2.1, x12.2.2.2.2.2.2.2.1, x12.2.2.2.2.2.2.2.2.1, x12.2.2.2.2.2.2.2.2.2.1, x12.2.2.2.2.2.2.2.2.2.2.1, x12.2.2.2.2.2.2.2.2.2.2.2.1, x12.2.2.2.2.2.2.2.2.2.2.2.2.1, IntKind.wrap .i64 (x12.2.2.2.2.2.2.2.2.2.2.2.2.2 + (1 : Int))))
 else
 (some (x7.1, x7.2.1, x7.2.2.1, x7.2.2.2.1, x7.2.2.2.2.1, x7.2.2.2.2.2.1, x7.2.2.2.2.2.2.1, x7.2.2.2.2.2.2.2.1, x7.2.2.2.2.2.2.2.2.1, x7.2.2.2.2.2.2.2.2.2.1, x7.2.2.2.2.2.2.2.2.2.2.1))
def ref03_Keep.L3 (x18 : A31) (rec19 : (A31) → Option (A42)) : Option (A42) :=
 bif decide (x18.2.2.2.2.2.2.2.2.2.2.2.2.2.2.2.2.2.2 < x18.2.2.2.2.2.2.2.2.2.2.2.2.2.2.2.2.2.1) then
 ((nth? x18.2.2.2.2.2.2.2.2.2.2.2.2.2.2.2.2.1 x18.2.2.2.2.2.2.2.2.2.2.2.2.2.2.2.2.2.2).bind fun e20 =>
 (bif x18.2.2.2.2.2.2.2.2.2.2.2.1 then
 ((nth? x18.1 e20).bind fun e21 =>
 some (x18.1, x18.2.1, x18.2.2.1, x18.2.2.2.1, x18.2.2.2.2.1, x18.2.2.2.2.2.1, x18.2.2.2.2.2.2.1, x18.2.2.2.2.2.2.2.1, x18.2.2.2.2.2.2.2.2.1, x18.2.2.2.2.2.2.2.2.2.1, x18.2.2.2.2.2.2.2.2.2.2.1, e21, x18.2.2.2.2.2.2.2.2.2.2.2.2.1, e20, x18.2.2.2.2.2.2.2.2.2.2.2.2.2.1, x18.2.2.2.2.2.2.2.2.2.2.2.2.2.2.1, x18.2.2.2.2.2.2.2.2.2.2.2.2.2.2.2.1, x18.2.2.2.2.2.2.2.2.2.2.2.2.2.2.2.2.1, x18.2.2.2.2.2.2.2.2.2.2.2.2.2.2.2.2.2.1, x18.2.2.2.2.2.2.2.2.2.2.2.2.2.2.2.2.2.2))
 else
 (some (x18.1, x18.2.1, x18.2.2.1, x18.2.2.2.1, x18.2.2.2.2.1, x18.2.2.2.2.2.1, x18.2.2.2.2.2.2.1, x18.2.2.2.2.2.2.2.1, x18.2.2.2.2.2.2.2.2.1, x18.2.2.2.2.2.2.2.2.2.1, x18.2.2.2.2.2.2.2.2.2.2.1, false, x18.2.2.2.2.2.2.2.2.2.2.2.2.1, e20, x18.2.2.2.2.2.2.2.2.2.2.2.2.2.1, x18.2.2.2.2.2.2.2.2.2.2.2.2.2.2.1, x18.2.2.2.2.2.2.2.2.2.2.2.2.2.2.2.1, x18.2.2.2.2.2.2.2.2.2.2.2.2.2.2.2.2.1, x18.2.2.2.2.2.2.2.2.2.2.2.2.2.2.2.2.2.1, x18.2.2.2.2.2.2.2.2.2.2.2.2.2.2.2.2.2.2))).bind fun x22 =>
 bif decide (0 ≤ x22.2.2.2.2.2.2.2.2.2.2.2.2.2.1) && decide (x22.2.2.2.2.2.2.2.2.2.2.2.2.2.1 < ((List.length x22.2.2.2.2.1 : Nat) : Int)) then
 (at? x22.2.2.2.2.1 (Int.toNat x22.2.2.2.2.2.2.2.2.2.2.2.2.2.1)).bind fun e23 =>
 bif decide (List.length x22.2.2.2.2.2.2.2.2.2.2.2.2.1 + List.length ([e23] : List Int) ≤ maxRows) then
 rec19 (x22.1, x22.2.1, x22.2.2.1, x22.2.2.2.1, x22.2.2.2.2.1, x22.2.2.2.2.2.1, x22.2.2.2.2.2.2.1, x22.2.2.2.2.2.2.2.1, x22.2.2.2.2.2.2.2.2.1, x22.2.2.2.2.2.2.2.2.2.1, x22.2.2.2.2.2.2.2.2.2.2.1, x22.2.2.2.2.2.2.2.2.2.2.2.1, List.append x22.2.2.2.2.2.2.2.2.2.2.2.2.1 ([e23] : List Int), x22.2.2.2.2.2.2.2.2.2.2.2.2.2.2.1, x22.2.2.2.2.2.2.2.2.2.2.2.2.2.2.2.1, x22.2.2.2.2.2.2.2.2.2.2.2.2.2.2.2.2.1, x22.2.2.2.2.2.2.2.2.2.2.2.2.2.2.2.2.2.1, x22.2.2.2.2.2.2.2.2.2.2.2.2.2.2.2.2.2.2.1, IntKind.wrap .i64 (x22.2.2.2.2.2.2.2.2.2.2.2.2.2.2.2.2.2.2.2 + (1 : Int)))
 else none
 else none)
 else
 (some (x18.1, x18.2.1, x18.2.2.1, x18.2.2.2.1, x18.2.2.2.2.1, x18.2.2.2.2.2.1, x18.2.2.2.2.2.2.1, x18.2.2.2.2.2.2.2.1, x18.2.2.2.2.2.2.2.2.1, x18.2.2.2.2.2.2.2.2.2.1, x18.2.2.2.2.2.2.2.2.2.2.1, x18.2.2.2.2.2.2.2.2.2.2.2.1, x18.2.2.2.2.2.2.2.2.2.2.2.2.1, x18.2.2.2.2.2.2.2.2.2.2.2.2.2.1, x18.2.2.2.2.2.2.2.2.2.2.2.2.2.2.1, x18.2.2.2.2.2.2.2.2.2.2.2.2.2.2.2.1))
def ref03_Keep.L4 (n : Nat) (x14 : A74) (rec15 : (A74) → Option (A6)) : Option (A6) :=
 bif decide (x14.2.2.2.2.2.2.2.2.2.2 < x14.2.2.2.2.2.2.2.2.2.1) then
 ((nth? x14.2.2.2.2.2.2.2.2.1 x14.2.2.2.2.2.2.2.2.2.2).bind fun e16 =>
 (nth? x14.1 e16.2.2).bind fun e17 =>
 (loopN (ref03_Keep.L3) n (x14.1, x14.2.1, x14.2.2.1, x14.2.2.2.1, x14.2.2.2.2.1, x14.2.2.2.2.2.1, x14.2.2.2.2.2.2.1, x14.2.2.2.2.2.2.2.1, e16.1, e16.2.1, e16.2.2, e17, ([] : List Int), x14.2.2.2.2.2.2.2.2.1, x14.2.2.2.2.2.2.2.2.2.1, x14.2.2.2.2.2.2.2.2.2.2, e16.2.1, ((List.length e16.2.1 : Nat) : Int), (0 : Int))).bind fun x24 =>
 (bif x24.2.2.2.2.2.2.2.2.2.2.2.1 then
 (bif decide (0 ≤ x24.2.2.2.2.2.2.2.2.2.2.1) && decide (x24.2.2.2.2.2.2.2.2.2.2.1 < ((List.length x24.2.2.2.2.1 : Nat) : Int)) then
 (at? x24.2.2.2.2.1 (Int.toNat x24.2.2.2.2.2.2.2.2.2.2.1)).bind fun e25 =>
 bif decide (List.length x24.2.2.2.2.2.2.2.1 + List.length ([(x24.2.2.2.2.2.2.2.2.1, x24.2.2.2.2.2.2.2.2.2.2.2.2.1, e25)] : List Ru) ≤ maxRows) then
 some (x24.1, x24.2.1, x24.2.2.1, x24.2.2.2.1, x24.2.2.2.2.1, x24.2.2.2.2.2.1, x24.2.2.2.2.2.2.1, List.append x24.2.2.2.2.2.2.2.1 ([(x24.2.2.2.2.2.2.2.2.1, x24.2.2.2.2.2.2.2.2.2.2.2.2.1, e25)] : List Ru), x24.2.2.2.2.2.2.2.2.2.2.2.2.2.1, x24.2.2.2.2.2.2.2.2.2.2.2.2.2.2.1, x24.2.2.2.2.2.2.2.2.2.2.2.2.2.2.2)
 else none
 else none)
 else
 (some (x24.1, x24.2.1, x24.2.2.1, x24.2.2.2.1, x24.2.2.2.2.1, x24.2.2.2.2.2.1, x24.2.2.2.2.2.2.1, x24.2.2.2.2.2.2.2.1, x24.2.2.2.2.2.2.2.2.2.2.2.2.2.1, x24.2.2.2.2.2.2.2.2.2.2.2.2.2.2.1, x24.2.2.2.2.2.2.2.2.2.2.2.2.2.2.2))).bind fun x26 =>
 rec15 (x26.1, x26.2.1, x26.2.2.1, x26.2.2.2.1, x26.2.2.2.2.1, x26.2.2.2.2.2.1, x26.2.2.2.2.2.2.1, x26.2.2.2.2.2.2.2.1, x26.2.2.2.2.2.2.2.2.1, x26.2.2.2.2.2.2.2.2.2.1, IntKind.wrap .i64 (x26.2.2.2.2.2.2.2.2.2.2 + (1 : Int))))
 else
 (some (x14.2.1, x14.2.2.1, x14.2.2.2.1, x14.2.2.2.2.2.1, x14.2.2.2.2.2.2.1, x14.2.2.2.2.2.2.2.1))
def ref03_Keep.P (f_ref03_Sort : List Ru → Option LR) (n : Nat) (x : A75) : Option (A3) :=
 bif decide (0 ≤ x.1) && decide (x.1 ≤ x.1) && decide (x.1 ≤ ((maxRows : Nat) : Int)) then
 (loopN (ref03_Keep.L1) n (x.2.2.2, x.1, x.2.1, x.2.2.1, (0 : Int), ([] : List Int), ([] : List Ru), List.replicate (Int.toNat x.1) ((0 : Int) : Int), (0 : Int), ([] : List Int), ([] : List Ru), x.2.2.2, ((List.length x.2.2.2 : Nat) : Int), (0 : Int))).bind fun x6 =>
 (loopN (ref03_Keep.L2) n (x6.1, x6.2.1, x6.2.2.1, x6.2.2.2.1, x6.2.2.2.2.1, x6.2.2.2.2.2.1, x6.2.2.2.2.2.2.1, x6.2.2.2.2.2.2.2.1, x6.2.2.2.2.2.2.2.2.1, x6.2.2.2.2.2.2.2.2.2.1, x6.2.2.2.2.2.2.2.2.2.2, x6.2.2.1, ((List.length x6.2.2.1 : Nat) : Int), (0 : Int))).bind fun x13 =>
 (loopN (ref03_Keep.L4 n) n (x13.1, x13.2.2.2.2.1, x13.2.2.2.2.2.1, x13.2.2.2.2.2.2.1, x13.2.2.2.2.2.2.2.1, x13.2.2.2.2.2.2.2.2.1, x13.2.2.2.2.2.2.2.2.2.1, x13.2.2.2.2.2.2.2.2.2.2, x13.2.2.2.1, ((List.length x13.2.2.2.1 : Nat) : Int), (0 : Int))).bind fun x27 =>
 (f_ref03_Sort x27.2.2.2.2.2).bind fun r28 =>
 some (x27.2.2.2.1, x27.2.2.2.2.1, r28)
 else none
def ref03_Trimmed.P (f_ref03_Keep : (A75) → Option (A3)) (f_ref03_Used : (A3) → Option (List Bool)) (n : Nat) (x : A3) : Option (A3) :=
 (f_ref03_Used (x.1, x.2.1, x.2.2)).bind fun r1 =>
 (f_ref03_Keep (x.1, x.2.1, x.2.2, r1)).bind fun r2 =>
 some (r2.1, r2.2.1, r2.2.2)
def ref03_Power.L1 (x1 : A129) (rec2 : (A129) → Option Int) : Option Int :=
 bif decide (x1.2.2.2 < x1.2.2.1) then
 (rec2 (x1.1, min (IntKind.wrap .i64 (x1.2.1 * x1.1)) (1099511627776 : Int), x1.2.2.1, IntKind.wrap .i64 (x1.2.2.2 + (1 : Int))))
 else
 (some x1.2.1)
def ref03_Power.P (n : Nat) (x : A11) : Option Int :=
 (loopN (ref03_Power.L1) n (x.1, (1 : Int), x.2, (0 : Int))).bind fun x3 =>
 some x3
def ref04_Bits.P (f_ref03_Power : (A11) → Option Int) (f_ref03_Trimmed : (A3) → Option (A3)) (n : Nat) (x : A3) : Option Int :=
 (f_ref03_Trimmed (x.1, x.2.1, x.2.2)).bind fun r1 =>
 (f_ref03_Power ((2 : Int), r1.1)).bind fun r2 =>
 some r2
def ref01_List.L1 (x1 : A57) (rec2 : (A57) → Option (Sum Unit Bool)) : Option (Sum Unit Bool) :=
 bif decide (x1.2.2.2 < x1.2.2.1) then
 ((nth? x1.1 x1.2.2.2).bind fun e3 =>
 (nth? x1.2.1 x1.2.2.2).bind fun e4 =>
 bif !decide (e3 = e4) then
 ((some false).bind fun r => some (Sum.inr r))
 else
 (rec2 (x1.1, x1.2.1, x1.2.2.1, IntKind.wrap .i64 (x1.2.2.2 + (1 : Int)))))
 else
 (some (Sum.inl ()))
def ref01_List.P (n : Nat) (x : A19) : Option Bool :=
 bif !decide (((List.length x.1 : Nat) : Int) = ((List.length x.2 : Nat) : Int)) then
 (some false)
 else
 ((loopN (ref01_List.L1) n (x.1, x.2, ((List.length x.1 : Nat) : Int), (0 : Int))).bind fun q => match q with
 | Sum.inl x5 => (some true)
 | Sum.inr r => some r)
def ref03_One.L1 (f_ref01_List : (A19) → Option Bool) (x4 : A76) (rec5 : (A76) → Option (Sum (A47) (Sum Unit Bool))) : Option (Sum (A47) (Sum Unit Bool)) :=
 bif decide (x4.2.2.2.2.2.2.2.2.2.2.2 < x4.2.2.2.2.2.2.2.2.2.2.1) then
 ((nth? x4.2.2.2.2.2.2.2.2.2.1 x4.2.2.2.2.2.2.2.2.2.2.2).bind fun e6 =>
 (bif decide (x4.2.2.2.1 = e6.1) then
 ((f_ref01_List (x4.2.2.2.2.1, e6.2.1)).bind fun r7 =>
 some (x4.1, x4.2.1, x4.2.2.1, x4.2.2.2.1, x4.2.2.2.2.1, x4.2.2.2.2.2.1, x4.2.2.2.2.2.2.1, x4.2.2.2.2.2.2.2.1, x4.2.2.2.2.2.2.2.2.1, x4.2.2.2.2.2.2.2.2.2.1, x4.2.2.2.2.2.2.2.2.2.2.1, x4.2.2.2.2.2.2.2.2.2.2.2, r7))
 else
 (some (x4.1, x4.2.1, x4.2.2.1, x4.2.2.2.1, x4.2.2.2.2.1, x4.2.2.2.2.2.1, x4.2.2.2.2.2.2.1, x4.2.2.2.2.2.2.2.1, x4.2.2.2.2.2.2.2.2.1, x4.2.2.2.2.2.2.2.2.2.1, x4.2.2.2.2.2.2.2.2.2.2.1, x4.2.2.2.2.2.2.2.2.2.2.2, false))).bind fun x8 =>
 bif x8.2.2.2.2.2.2.2.2.2.2.2.2 then
 (((some false).bind fun r => some (Sum.inr r)).bind fun r => some (Sum.inr r))
 else
 (rec5 (x8.1, x8.2.1, x8.2.2.1, x8.2.2.2.1, x8.2.2.2.2.1, x8.2.2.2.2.2.1, x8.2.2.2.2.2.2.1, x8.2.2.2.2.2.2.2.1, x8.2.2.2.2.2.2.2.2.1, x8.2.2.2.2.2.2.2.2.2.1, x8.2.2.2.2.2.2.2.2.2.2.1, IntKind.wrap .i64 (x8.2.2.2.2.2.2.2.2.2.2.2.1 + (1 : Int)))))
 else
 (some (Sum.inl (x4.1, x4.2.1, x4.2.2.1, x4.2.2.2.2.2.2.1, x4.2.2.2.2.2.2.2.1, x4.2.2.2.2.2.2.2.2.1)))
def ref03_One.L2 (f_ref01_List : (A19) → Option Bool) (n : Nat) (x1 : A47) (rec2 : (A47) → Option (Sum Unit Bool)) : Option (Sum Unit Bool) :=
 bif decide (x1.2.2.2.2.2 < x1.2.2.2.2.1) then
 ((nth? x1.2.2.2.1 x1.2.2.2.2.2).bind fun e3 =>
 bif decide (0 ≤ 0) && decide (0 ≤ x1.2.2.2.2.2) && decide (x1.2.2.2.2.2 ≤ ((List.length x1.2.2.1 : Nat) : Int)) then
 (loopN (ref03_One.L1 f_ref01_List) n (x1.1, x1.2.1, x1.2.2.1, e3.1, e3.2.1, e3.2.2, x1.2.2.2.1, x1.2.2.2.2.1, x1.2.2.2.2.2, List.drop (Int.toNat 0) (List.take (Int.toNat x1.2.2.2.2.2) x1.2.2.1), ((List.length (List.drop (Int.toNat 0) (List.take (Int.toNat x1.2.2.2.2.2) x1.2.2.1)) : Nat) : Int), (0 : Int))).bind fun q => match q with
 | Sum.inl x9 => (rec2 (x9.1, x9.2.1, x9.2.2.1, x9.2.2.2.1, x9.2.2.2.2.1, IntKind.wrap .i64 (x9.2.2.2.2.2 + (1 : Int))))
 | Sum.inr r => some r
 else none)
 else
 (some (Sum.inl ()))
def ref03_One.P (f_ref01_List : (A19) → Option Bool) (n : Nat) (x : A3) : Option Bool :=
 (loopN (ref03_One.L2 f_ref01_List n) n (x.1, x.2.1, x.2.2, x.2.2, ((List.length x.2.2 : Nat) : Int), (0 : Int))).bind fun q => match q with
 | Sum.inl x10 => (some true)
 | Sum.inr r => some r
def ref03_Full.L1 (f_ref03_Power : (A11) → Option Int) (x1 : A124) (rec2 : (A124) → Option Int) : Option Int :=
 bif decide (x1.2.2.2.2 < x1.2.2.2.1) then
 ((nth? x1.2.2.1 x1.2.2.2.2).bind fun e3 =>
 (f_ref03_Power (x1.1, e3)).bind fun r4 =>
 rec2 (x1.1, IntKind.wrap .i64 (x1.2.1 + r4), x1.2.2.1, x1.2.2.2.1, IntKind.wrap .i64 (x1.2.2.2.2 + (1 : Int))))
 else
 (some x1.2.1)
def ref03_Full.P (f_ref03_Power : (A11) → Option Int) (n : Nat) (x : A18) : Option Int :=
 (loopN (ref03_Full.L1 f_ref03_Power) n (x.2, (0 : Int), x.1, ((List.length x.1 : Nat) : Int), (0 : Int))).bind fun x5 =>
 some x5
def ref04_Light.L1 (f_ref04_Bits : (A3) → Option Int) (f_ref03_One : (A3) → Option Bool) (f_ref03_Trimmed : (A3) → Option (A3)) (f_ref03_Full : (A18) → Option Int) (x1 : A58) (rec2 : (A58) → Option (Sum Unit Bool)) : Option (Sum Unit Bool) :=
 bif decide (x1.2.2.2 < x1.2.2.1) then
 ((nth? x1.2.1 x1.2.2.2).bind fun e3 =>
 (bif decide ((300 : Int) < ((List.length e3.2.2 : Nat) : Int)) then
 (some (x1.1, e3.1, e3.2.1, e3.2.2, x1.2.1, x1.2.2.1, x1.2.2.2, true))
 else
 (some (x1.1, e3.1, e3.2.1, e3.2.2, x1.2.1, x1.2.2.1, x1.2.2.2, decide ((100 : Int) < e3.1)))).bind fun x4 =>
 bif x4.2.2.2.2.2.2.2 then
 ((some false).bind fun r => some (Sum.inr r))
 else
 ((f_ref04_Bits (x4.2.1, x4.2.2.1, x4.2.2.2.1)).bind fun r5 =>
 (f_ref03_One (x4.2.1, x4.2.2.1, x4.2.2.2.1)).bind fun r6 =>
 (bif r6 then
 ((f_ref03_Trimmed (x4.2.1, x4.2.2.1, x4.2.2.2.1)).bind fun r7 =>
 some (x4.1, r7.1, x4.2.2.2.2.1, x4.2.2.2.2.2.1, x4.2.2.2.2.2.2.1))
 else
 (some (x4.1, r5, x4.2.2.2.2.1, x4.2.2.2.2.2.1, x4.2.2.2.2.2.2.1))).bind fun x8 =>
 (f_ref03_Full (x8.1, IntKind.wrap .i64 (x8.2.1 + (1 : Int)))).bind fun r9 =>
 bif decide ((1500 : Int) < r9) then
 ((some false).bind fun r => some (Sum.inr r))
 else
 (rec2 (x8.1, x8.2.2.1, x8.2.2.2.1, IntKind.wrap .i64 (x8.2.2.2.2 + (1 : Int))))))
 else
 (some (Sum.inl ()))
def ref04_Light.P (f_ref03_Full : (A18) → Option Int) (f_ref03_One : (A3) → Option Bool) (f_ref03_Trimmed : (A3) → Option (A3)) (f_ref04_Bits : (A3) → Option Int) (n : Nat) (x : A20) : Option Bool :=
 (loopN (ref04_Light.L1 f_ref04_Bits f_ref03_One f_ref03_Trimmed f_ref03_Full) n (x.1, x.2, ((List.length x.2 : Nat) : Int), (0 : Int))).bind fun q => match q with
 | Sum.inl x10 => (some true)
 | Sum.inr r => some r
def ref04_Lists.L1 (x4 : A95) (rec5 : (A95) → Option (A89)) : Option (A89) :=
 bif decide (x4.2.2.2.2.2.2.2.2 < x4.2.2.2.2.2.2.2.1) then
 (bif decide (0 ≤ x4.2.2.2.2.2.2.2.2) && decide (x4.2.2.2.2.2.2.2.2 < ((List.length x4.2.2.2.2.2.2.1 : Nat) : Int)) then
 (at? x4.2.2.2.2.2.2.1 (Int.toNat x4.2.2.2.2.2.2.2.2)).bind fun e6 =>
 bif decide (List.length ([x4.2.2.2.1] : List Int) + List.length e6 ≤ maxRows) then
 bif decide (List.length x4.2.2.1 + List.length ([List.append ([x4.2.2.2.1] : List Int) e6] : List LI) ≤ maxRows) then
 rec5 (x4.1, x4.2.1, List.append x4.2.2.1 ([List.append ([x4.2.2.2.1] : List Int) e6] : List LI), x4.2.2.2.1, x4.2.2.2.2.1, x4.2.2.2.2.2.1, x4.2.2.2.2.2.2.1, x4.2.2.2.2.2.2.2.1, IntKind.wrap .i64 (x4.2.2.2.2.2.2.2.2 + (1 : Int)))
 else none
 else none
 else none)
 else
 (some (x4.1, x4.2.1, x4.2.2.1, x4.2.2.2.2.1, x4.2.2.2.2.2.1))
def ref04_Lists.L2 (f_ref04_Lists : (A11) → Option LL) (n : Nat) (x1 : A89) (rec2 : (A89) → Option LL) : Option LL :=
 bif decide (x1.2.2.2.2 < x1.2.2.2.1) then
 ((f_ref04_Lists (x1.1, IntKind.wrap .i64 (x1.2.1 - (1 : Int)))).bind fun r3 =>
 (loopN (ref04_Lists.L1) n (x1.1, x1.2.1, x1.2.2.1, x1.2.2.2.2, x1.2.2.2.1, x1.2.2.2.2, r3, ((List.length r3 : Nat) : Int), (0 : Int))).bind fun x7 =>
 rec2 (x7.1, x7.2.1, x7.2.2.1, x7.2.2.2.1, IntKind.wrap .i64 (x7.2.2.2.2 + (1 : Int))))
 else
 (some x1.2.2.1)
def ref04_Lists.P (f_ref04_Lists : (A11) → Option LL) (n : Nat) (x : A11) : Option LL :=
 bif decide (x.2 = (0 : Int)) then
 (some ([([] : List Int)] : List LI))
 else
 ((loopN (ref04_Lists.L2 f_ref04_Lists n) n (x.1, x.2, ([] : List LI), x.1, (0 : Int))).bind fun x8 =>
 some x8)
def ref04_pick.L1 (x1 : A125) (rec2 : (A125) → Option LL) : Option LL :=
 bif decide (x1.2.2.2.2 < x1.2.2.2.1) then
 ((nth? x1.2.2.1 x1.2.2.2.2).bind fun e3 =>
 (nth? x1.1 e3).bind fun e4 =>
 bif decide (List.length x1.2.1 + List.length ([e4] : List LI) ≤ maxRows) then
 rec2 (x1.1, List.append x1.2.1 ([e4] : List LI), x1.2.2.1, x1.2.2.2.1, IntKind.wrap .i64 (x1.2.2.2.2 + (1 : Int)))
 else none)
 else
 (some x1.2.1)
def ref04_pick.P (n : Nat) (x : A59) : Option LL :=
 (loopN (ref04_pick.L1) n (x.1, ([] : List LI), x.2, ((List.length x.2 : Nat) : Int), (0 : Int))).bind fun x5 =>
 some x5
def ref04_place.L1 (f_ref01_List : (A19) → Option Bool) (x1 : LI × LL × Int × Int) (rec2 : (LI × LL × Int × Int) → Option (Sum Unit Int)) : Option (Sum Unit Int) :=
 bif decide (x1.2.2.2 < x1.2.2.1) then
 ((nth? x1.2.1 x1.2.2.2).bind fun e3 =>
 (f_ref01_List (x1.1, e3)).bind fun r4 =>
 bif r4 then
 ((some x1.2.2.2).bind fun r => some (Sum.inr r))
 else
 (rec2 (x1.1, x1.2.1, x1.2.2.1, IntKind.wrap .i64 (x1.2.2.2 + (1 : Int)))))
 else
 (some (Sum.inl ()))
def ref04_place.P (f_ref01_List : (A19) → Option Bool) (n : Nat) (x : A59) : Option Int :=
 (loopN (ref04_place.L1 f_ref01_List) n (x.2, x.1, ((List.length x.1 : Nat) : Int), (0 : Int))).bind fun q => match q with
 | Sum.inl x5 => (some (-1 : Int))
 | Sum.inr r => some r
def ref04_Sets.L1 (f_ref04_pick : (A59) → Option LL) (f_ref03_Step : (A14) → Option LI) (f_ref04_place : (A59) → Option Int) (x7 : A67) (rec8 : (A67) → Option (A43)) : Option (A43) :=
 bif decide (x7.2.2.2.2.2.2.2.2.2.2.2.2 < x7.2.2.2.2.2.2.2.2.2.2.2.1) then
 (bif decide (0 ≤ x7.2.2.2.2.2.2.2.2.2.2.2.2) && decide (x7.2.2.2.2.2.2.2.2.2.2.2.2 < ((List.length x7.2.2.2.2.2.2.2.2.2.2.1 : Nat) : Int)) then
 (at? x7.2.2.2.2.2.2.2.2.2.2.1 (Int.toNat x7.2.2.2.2.2.2.2.2.2.2.2.2)).bind fun e9 =>
 bif decide (0 ≤ 0) && decide (0 ≤ x7.2.2.2.2.2.1) && decide (x7.2.2.2.2.2.1 ≤ ((List.length x7.2.2.2.2.1 : Nat) : Int)) then
 (f_ref04_pick (List.drop (Int.toNat 0) (List.take (Int.toNat x7.2.2.2.2.2.1) x7.2.2.2.2.1), e9)).bind fun r10 =>
 (f_ref03_Step (x7.2.1, x7.2.2.1, x7.2.2.2.1, x7.2.2.2.2.2.2.1, r10)).bind fun r11 =>
 (bif decide ((0 : Int) < ((List.length r11 : Nat) : Int)) then
 ((f_ref04_place (x7.2.2.2.2.1, r11)).bind fun r12 =>
 some (x7.1, x7.2.1, x7.2.2.1, x7.2.2.2.1, x7.2.2.2.2.1, x7.2.2.2.2.2.1, x7.2.2.2.2.2.2.1, r11, x7.2.2.2.2.2.2.2.1, x7.2.2.2.2.2.2.2.2.1, x7.2.2.2.2.2.2.2.2.2.1, x7.2.2.2.2.2.2.2.2.2.2.1, x7.2.2.2.2.2.2.2.2.2.2.2.1, x7.2.2.2.2.2.2.2.2.2.2.2.2, decide (r12 < (0 : Int))))
 else
 (some (x7.1, x7.2.1, x7.2.2.1, x7.2.2.2.1, x7.2.2.2.2.1, x7.2.2.2.2.2.1, x7.2.2.2.2.2.2.1, r11, x7.2.2.2.2.2.2.2.1, x7.2.2.2.2.2.2.2.2.1, x7.2.2.2.2.2.2.2.2.2.1, x7.2.2.2.2.2.2.2.2.2.2.1, x7.2.2.2.2.2.2.2.2.2.2.2.1, x7.2.2.2.2.2.2.2.2.2.2.2.2, false))).bind fun x13 =>
 (bif x13.2.2.2.2.2.2.2.2.2.2.2.2.2.2 then
 (bif decide (List.length x13.2.2.2.2.1 + List.length ([x13.2.2.2.2.2.2.2.1] : List LI) ≤ maxRows) then
 some (x13.1, x13.2.1, x13.2.2.1, x13.2.2.2.1, List.append x13.2.2.2.2.1 ([x13.2.2.2.2.2.2.2.1] : List LI), x13.2.2.2.2.2.1, x13.2.2.2.2.2.2.1, x13.2.2.2.2.2.2.2.2.1, x13.2.2.2.2.2.2.2.2.2.1, x13.2.2.2.2.2.2.2.2.2.2.1, x13.2.2.2.2.2.2.2.2.2.2.2.1, x13.2.2.2.2.2.2.2.2.2.2.2.2.1, x13.2.2.2.2.2.2.2.2.2.2.2.2.2.1)
 else none)
 else
 (some (x13.1, x13.2.1, x13.2.2.1, x13.2.2.2.1, x13.2.2.2.2.1, x13.2.2.2.2.2.1, x13.2.2.2.2.2.2.1, x13.2.2.2.2.2.2.2.2.1, x13.2.2.2.2.2.2.2.2.2.1, x13.2.2.2.2.2.2.2.2.2.2.1, x13.2.2.2.2.2.2.2.2.2.2.2.1, x13.2.2.2.2.2.2.2.2.2.2.2.2.1, x13.2.2.2.2.2.2.2.2.2.2.2.2.2.1))).bind fun x14 =>
 rec8 (x14.1, x14.2.1, x14.2.2.1, x14.2.2.2.1, x14.2.2.2.2.1, x14.2.2.2.2.2.1, x14.2.2.2.2.2.2.1, x14.2.2.2.2.2.2.2.1, x14.2.2.2.2.2.2.2.2.1, x14.2.2.2.2.2.2.2.2.2.1, x14.2.2.2.2.2.2.2.2.2.2.1, x14.2.2.2.2.2.2.2.2.2.2.2.1, IntKind.wrap .i64 (x14.2.2.2.2.2.2.2.2.2.2.2.2 + (1 : Int)))
 else none
 else none)
 else
 (some (x7.1, x7.2.1, x7.2.2.1, x7.2.2.2.1, x7.2.2.2.2.1, x7.2.2.2.2.2.1, x7.2.2.2.2.2.2.2.1, x7.2.2.2.2.2.2.2.2.1, x7.2.2.2.2.2.2.2.2.2.1))
def ref04_Sets.L2 (f_ref04_Lists : (A11) → Option LL) (f_ref04_pick : (A59) → Option LL) (f_ref03_Step : (A14) → Option LI) (f_ref04_place : (A59) → Option Int) (n : Nat) (x3 : A43) (rec4 : (A43) → Option (A120)) : Option (A120) :=
 bif decide (x3.2.2.2.2.2.2.2.2 < x3.2.2.2.2.2.2.2.1) then
 ((nth? x3.2.2.2.2.2.2.1 x3.2.2.2.2.2.2.2.2).bind fun e5 =>
 (f_ref04_Lists (x3.2.2.2.2.2.1, e5)).bind fun r6 =>
 (loopN (ref04_Sets.L1 f_ref04_pick f_ref03_Step f_ref04_place) n (x3.1, x3.2.1, x3.2.2.1, x3.2.2.2.1, x3.2.2.2.2.1, x3.2.2.2.2.2.1, x3.2.2.2.2.2.2.2.2, x3.2.2.2.2.2.2.1, x3.2.2.2.2.2.2.2.1, x3.2.2.2.2.2.2.2.2, r6, ((List.length r6 : Nat) : Int), (0 : Int))).bind fun x15 =>
 rec4 (x15.1, x15.2.1, x15.2.2.1, x15.2.2.2.1, x15.2.2.2.2.1, x15.2.2.2.2.2.1, x15.2.2.2.2.2.2.1, x15.2.2.2.2.2.2.2.1, IntKind.wrap .i64 (x15.2.2.2.2.2.2.2.2 + (1 : Int))))
 else
 (some (x3.1, x3.2.1, x3.2.2.1, x3.2.2.2.1, x3.2.2.2.2.1, x3.2.2.2.2.2.1))
def ref04_Sets.L3 (f_ref04_Lists : (A11) → Option LL) (f_ref04_pick : (A59) → Option LL) (f_ref03_Step : (A14) → Option LI) (f_ref04_place : (A59) → Option Int) (n : Nat) (x1 : A127) (rec2 : (A127) → Option (Sum Unit (A128))) : Option (Sum Unit (A128)) :=
 (loopN (ref04_Sets.L2 f_ref04_Lists f_ref04_pick f_ref03_Step f_ref04_place n) n (x1.1, x1.2.1, x1.2.2.1, x1.2.2.2.1, x1.2.2.2.2, ((List.length x1.2.2.2.2 : Nat) : Int), x1.1, ((List.length x1.1 : Nat) : Int), (0 : Int))).bind fun x16 =>
 bif decide ((300 : Int) < ((List.length x16.2.2.2.2.1 : Nat) : Int)) then
 ((some (([] : List LI), false)).bind fun r => some (Sum.inr r))
 else
 (bif decide (((List.length x16.2.2.2.2.1 : Nat) : Int) = x16.2.2.2.2.2) then
 ((some (x16.2.2.2.2.1, true)).bind fun r => some (Sum.inr r))
 else
 (rec2 (x16.1, x16.2.1, x16.2.2.1, x16.2.2.2.1, x16.2.2.2.2.1)))
def ref04_Sets.P (f_ref03_Step : (A14) → Option LI) (f_ref04_Lists : (A11) → Option LL) (f_ref04_pick : (A59) → Option LL) (f_ref04_place : (A59) → Option Int) (n : Nat) (x : A2) : Option (A128) :=
 (loopN (ref04_Sets.L3 f_ref04_Lists f_ref04_pick f_ref03_Step f_ref04_place n) n (x.1, x.2.1, x.2.2.1, x.2.2.2, ([] : List LI))).bind fun q => match q with
 | Sum.inl (_ : Unit) => none
 | Sum.inr r => some r
def ref04_Subset.L1 (f_ref03_Meet : (A19) → Option Bool) (x3 : A63) (rec4 : (A63) → Option (A84)) : Option (A84) :=
 bif decide (x3.2.2.2.2.2.2.2.2.2.2.2.2.2 < x3.2.2.2.2.2.2.2.2.2.2.2.2.1) then
 ((nth? x3.2.2.2.2.2.2.2.2.2.2.2.1 x3.2.2.2.2.2.2.2.2.2.2.2.2.2).bind fun e5 =>
 (f_ref03_Meet (e5, x3.2.2.1)).bind fun r6 =>
 (bif r6 then
 (bif decide (List.length x3.2.2.2.2.2.2.2.2.2.1 + List.length ([x3.2.2.2.2.2.2.2.2.2.2.2.2.2] : List Int) ≤ maxRows) then
 some (x3.1, x3.2.1, x3.2.2.1, x3.2.2.2.1, x3.2.2.2.2.1, x3.2.2.2.2.2.1, x3.2.2.2.2.2.2.1, x3.2.2.2.2.2.2.2.1, x3.2.2.2.2.2.2.2.2.1, List.append x3.2.2.2.2.2.2.2.2.2.1 ([x3.2.2.2.2.2.2.2.2.2.2.2.2.2] : List Int), x3.2.2.2.2.2.2.2.2.2.2.1, x3.2.2.2.2.2.2.2.2.2.2.2.1, x3.2.2.2.2.2.2.2.2.2.2.2.2.1, x3.2.2.2.2.2.2.2.2.2.2.2.2.2)
 else none)
 else
 (some (x3.1, x3.2.1, x3.2.2.1, x3.2.2.2.1, x3.2.2.2.2.1, x3.2.2.2.2.2.1, x3.2.2.2.2.2.2.1, x3.2.2.2.2.2.2.2.1, x3.2.2.2.2.2.2.2.2.1, x3.2.2.2.2.2.2.2.2.2.1, x3.2.2.2.2.2.2.2.2.2.2.1, x3.2.2.2.2.2.2.2.2.2.2.2.1, x3.2.2.2.2.2.2.2.2.2.2.2.2.1, x3.2.2.2.2.2.2.2.2.2.2.2.2.2))).bind fun x7 =>
 rec4 (x7.1, x7.2.1, x7.2.2.1, x7.2.2.2.1, x7.2.2.2.2.1, x7.2.2.2.2.2.1, x7.2.2.2.2.2.2.1, x7.2.2.2.2.2.2.2.1, x7.2.2.2.2.2.2.2.2.1, x7.2.2.2.2.2.2.2.2.2.1, x7.2.2.2.2.2.2.2.2.2.2.1, x7.2.2.2.2.2.2.2.2.2.2.2.1, x7.2.2.2.2.2.2.2.2.2.2.2.2.1, IntKind.wrap .i64 (x7.2.2.2.2.2.2.2.2.2.2.2.2.2 + (1 : Int))))
 else
 (some (x3.1, x3.2.1, x3.2.2.1, x3.2.2.2.1, x3.2.2.2.2.1, x3.2.2.2.2.2.1, x3.2.2.2.2.2.2.1, x3.2.2.2.2.2.2.2.1, x3.2.2.2.2.2.2.2.2.1, x3.2.2.2.2.2.2.2.2.2.1, x3.2.2.2.2.2.2.2.2.2.2.1))
def ref04_Subset.L2 (f_ref04_pick : (A59) → Option LL) (f_ref03_Step : (A14) → Option LI) (f_ref04_place : (A59) → Option Int) (x13 : A46) (rec14 : (A46) → Option (A17)) : Option (A17) :=
 bif decide (x13.2.2.2.2.2.2.2.2.2.2.2.2.2.2.2.2 < x13.2.2.2.2.2.2.2.2.2.2.2.2.2.2.2.1) then
 (bif decide (0 ≤ x13.2.2.2.2.2.2.2.2.2.2.2.2.2.2.2.2) && decide (x13.2.2.2.2.2.2.2.2.2.2.2.2.2.2.2.2 < ((List.length x13.2.2.2.2.2.2.2.2.2.2.2.2.2.2.1 : Nat) : Int)) then
 (at? x13.2.2.2.2.2.2.2.2.2.2.2.2.2.2.1 (Int.toNat x13.2.2.2.2.2.2.2.2.2.2.2.2.2.2.2.2)).bind fun e15 =>
 (f_ref04_pick (x13.2.2.2.2.2.2.1, e15)).bind fun r16 =>
 (f_ref03_Step (x13.1, x13.2.1, x13.2.2.1, x13.2.2.2.2.2.2.2.2.2.2.1, r16)).bind fun r17 =>
 (bif decide ((0 : Int) < ((List.length r17 : Nat) : Int)) then
 ((f_ref04_place (x13.2.2.2.2.2.2.1, r17)).bind fun r18 =>
 bif decide (List.length x13.2.2.2.2.2.2.2.2.2.1 + List.length ([(x13.2.2.2.2.2.2.2.2.2.2.1, e15, r18)] : List Ru) ≤ maxRows) then
 some (x13.1, x13.2.1, x13.2.2.1, x13.2.2.2.1, x13.2.2.2.2.1, x13.2.2.2.2.2.1, x13.2.2.2.2.2.2.1, x13.2.2.2.2.2.2.2.1, x13.2.2.2.2.2.2.2.2.1, List.append x13.2.2.2.2.2.2.2.2.2.1 ([(x13.2.2.2.2.2.2.2.2.2.2.1, e15, r18)] : List Ru), x13.2.2.2.2.2.2.2.2.2.2.1, x13.2.2.2.2.2.2.2.2.2.2.2.1, x13.2.2.2.2.2.2.2.2.2.2.2.2.1, x13.2.2.2.2.2.2.2.2.2.2.2.2.2.1, x13.2.2.2.2.2.2.2.2.2.2.2.2.2.2.1, x13.2.2.2.2.2.2.2.2.2.2.2.2.2.2.2.1, x13.2.2.2.2.2.2.2.2.2.2.2.2.2.2.2.2)
 else none)
 else
 (some (x13.1, x13.2.1, x13.2.2.1, x13.2.2.2.1, x13.2.2.2.2.1, x13.2.2.2.2.2.1, x13.2.2.2.2.2.2.1, x13.2.2.2.2.2.2.2.1, x13.2.2.2.2.2.2.2.2.1, x13.2.2.2.2.2.2.2.2.2.1, x13.2.2.2.2.2.2.2.2.2.2.1, x13.2.2.2.2.2.2.2.2.2.2.2.1, x13.2.2.2.2.2.2.2.2.2.2.2.2.1, x13.2.2.2.2.2.2.2.2.2.2.2.2.2.1, x13.2.2.2.2.2.2.2.2.2.2.2.2.2.2.1, x13.2.2.2.2.2.2.2.2.2.2.2.2.2.2.2.1, x13.2.2.2.2.2.2.2.2.2.2.2.2.2.2.2.2))).bind fun x19 =>
 rec14 (x19.1, x19.2.1, x19.2.2.1, x19.2.2.2.1, x19.2.2.2.2.1, x19.2.2.2.2.2.1, x19.2.2.2.2.2.2.1, x19.2.2.2.2.2.2.2.1, x19.2.2.2.2.2.2.2.2.1, x19.2.2.2.2.2.2.2.2.2.1, x19.2.2.2.2.2.2.2.2.2.2.1, x19.2.2.2.2.2.2.2.2.2.2.2.1, x19.2.2.2.2.2.2.2.2.2.2.2.2.1, x19.2.2.2.2.2.2.2.2.2.2.2.2.2.1, x19.2.2.2.2.2.2.2.2.2.2.2.2.2.2.1, x19.2.2.2.2.2.2.2.2.2.2.2.2.2.2.2.1, IntKind.wrap .i64 (x19.2.2.2.2.2.2.2.2.2.2.2.2.2.2.2.2 + (1 : Int)))
 else none)
 else
 (some (x13.1, x13.2.1, x13.2.2.1, x13.2.2.2.1, x13.2.2.2.2.1, x13.2.2.2.2.2.1, x13.2.2.2.2.2.2.1, x13.2.2.2.2.2.2.2.1, x13.2.2.2.2.2.2.2.2.1, x13.2.2.2.2.2.2.2.2.2.1, x13.2.2.2.2.2.2.2.2.2.2.2.1, x13.2.2.2.2.2.2.2.2.2.2.2.2.1, x13.2.2.2.2.2.2.2.2.2.2.2.2.2.1))
def ref04_Subset.L3 (f_ref04_Lists : (A11) → Option LL) (f_ref04_pick : (A59) → Option LL) (f_ref03_Step : (A14) → Option LI) (f_ref04_place : (A59) → Option Int) (n : Nat) (x9 : A17) (rec10 : (A17) → Option (A112)) : Option (A112) :=
 bif decide (x9.2.2.2.2.2.2.2.2.2.2.2.2 < x9.2.2.2.2.2.2.2.2.2.2.2.1) then
 ((nth? x9.2.2.2.2.2.2.2.2.2.2.1 x9.2.2.2.2.2.2.2.2.2.2.2.2).bind fun e11 =>
 (f_ref04_Lists (((List.length x9.2.2.2.2.2.2.1 : Nat) : Int), e11)).bind fun r12 =>
 (loopN (ref04_Subset.L2 f_ref04_pick f_ref03_Step f_ref04_place) n (x9.1, x9.2.1, x9.2.2.1, x9.2.2.2.1, x9.2.2.2.2.1, x9.2.2.2.2.2.1, x9.2.2.2.2.2.2.1, x9.2.2.2.2.2.2.2.1, x9.2.2.2.2.2.2.2.2.1, x9.2.2.2.2.2.2.2.2.2.1, x9.2.2.2.2.2.2.2.2.2.2.2.2, x9.2.2.2.2.2.2.2.2.2.2.1, x9.2.2.2.2.2.2.2.2.2.2.2.1, x9.2.2.2.2.2.2.2.2.2.2.2.2, r12, ((List.length r12 : Nat) : Int), (0 : Int))).bind fun x20 =>
 rec10 (x20.1, x20.2.1, x20.2.2.1, x20.2.2.2.1, x20.2.2.2.2.1, x20.2.2.2.2.2.1, x20.2.2.2.2.2.2.1, x20.2.2.2.2.2.2.2.1, x20.2.2.2.2.2.2.2.2.1, x20.2.2.2.2.2.2.2.2.2.1, x20.2.2.2.2.2.2.2.2.2.2.1, x20.2.2.2.2.2.2.2.2.2.2.2.1, IntKind.wrap .i64 (x20.2.2.2.2.2.2.2.2.2.2.2.2 + (1 : Int))))
 else
 (some (x9.2.2.2.1, x9.2.2.2.2.1, x9.2.2.2.2.2.1, x9.2.2.2.2.2.2.1, x9.2.2.2.2.2.2.2.1, x9.2.2.2.2.2.2.2.2.1, x9.2.2.2.2.2.2.2.2.2.1))
def ref04_Subset.P (f_ref03_Meet : (A19) → Option Bool) (f_ref03_Step : (A14) → Option LI) (f_ref03_Valid : (A2) → Option Bool) (f_ref04_Lists : (A11) → Option LL) (f_ref04_Sets : (A2) → Option (A128)) (f_ref04_pick : (A59) → Option LL) (f_ref04_place : (A59) → Option Int) (n : Nat) (x : A2) : Option (A110) :=
 (f_ref03_Valid (x.1, x.2.1, x.2.2.1, x.2.2.2)).bind fun r1 =>
 bif !r1 then
 (some ((0 : Int), ([] : List Int), ([] : List Ru), ([] : List LI), (1 : Int)))
 else
 ((f_ref04_Sets (x.1, x.2.1, x.2.2.1, x.2.2.2)).bind fun r2 =>
 bif !r2.2 then
 (some ((0 : Int), ([] : List Int), ([] : List Ru), ([] : List LI), (3 : Int)))
 else
 ((loopN (ref04_Subset.L1 f_ref03_Meet) n (x.1, x.2.1, x.2.2.1, x.2.2.2, (0 : Int), ([] : List Int), ([] : List Ru), r2.1, ((List.length r2.1 : Nat) : Int), ([] : List Int), ([] : List Ru), r2.1, ((List.length r2.1 : Nat) : Int), (0 : Int))).bind fun x8 =>
 (loopN (ref04_Subset.L3 f_ref04_Lists f_ref04_pick f_ref03_Step f_ref04_place n) n (x8.2.1, x8.2.2.1, x8.2.2.2.1, x8.2.2.2.2.1, x8.2.2.2.2.2.1, x8.2.2.2.2.2.2.1, x8.2.2.2.2.2.2.2.1, x8.2.2.2.2.2.2.2.2.1, x8.2.2.2.2.2.2.2.2.2.1, x8.2.2.2.2.2.2.2.2.2.2, x8.1, ((List.length x8.1 : Nat) : Int), (0 : Int))).bind fun x21 =>
 bif decide ((20000 : Int) < ((List.length x21.2.2.2.2.2.2 : Nat) : Int)) then
 (some ((0 : Int), ([] : List Int), ([] : List Ru), ([] : List LI), (3 : Int)))
 else
 (some (x21.2.2.2.2.1, x21.2.2.2.2.2.1, x21.2.2.2.2.2.2, x21.2.2.2.1, (0 : Int)))))
def ref04_Over.P (f_ref03_Full : (A18) → Option Int) (n : Nat) (x : A18) : Option Bool :=
 (bif decide ((300 : Int) < x.2) then
 (some true)
 else
 ((f_ref03_Full (x.1, x.2)).bind fun r1 =>
 some (decide ((20000 : Int) < r1)))).bind fun x2 =>
 some x2
def ref04_Filled.L1 (f_ref01_List : (A19) → Option Bool) (x8 : A28) (rec9 : (A28) → Option (A39)) : Option (A39) :=
 bif decide (x8.2.2.2.2.2.2.2.2.2.2.2.2.2.2.2.2.2.2.2.2 < x8.2.2.2.2.2.2.2.2.2.2.2.2.2.2.2.2.2.2.2.1) then
 ((nth? x8.2.2.2.2.2.2.2.2.2.2.2.2.2.2.2.2.2.2.1 x8.2.2.2.2.2.2.2.2.2.2.2.2.2.2.2.2.2.2.2.2).bind fun e10 =>
 (bif x8.2.2.2.2.2.2.2.2.2.2.2.1 then
 (bif decide (e10.1 = x8.2.2.2.2.2.2.2.2.2.1) then
 ((f_ref01_List (e10.2.1, x8.2.2.2.2.2.2.2.2.2.2.1)).bind fun r11 =>
 some (x8.1, x8.2.1, x8.2.2.1, x8.2.2.2.1, x8.2.2.2.2.1, x8.2.2.2.2.2.1, x8.2.2.2.2.2.2.1, x8.2.2.2.2.2.2.2.1, x8.2.2.2.2.2.2.2.2.1, x8.2.2.2.2.2.2.2.2.2.1, x8.2.2.2.2.2.2.2.2.2.2.1, !r11, x8.2.2.2.2.2.2.2.2.2.2.2.2.1, x8.2.2.2.2.2.2.2.2.2.2.2.2.2.1, x8.2.2.2.2.2.2.2.2.2.2.2.2.2.2.1, x8.2.2.2.2.2.2.2.2.2.2.2.2.2.2.2.1, x8.2.2.2.2.2.2.2.2.2.2.2.2.2.2.2.2.1, x8.2.2.2.2.2.2.2.2.2.2.2.2.2.2.2.2.2.1, x8.2.2.2.2.2.2.2.2.2.2.2.2.2.2.2.2.2.2.1, x8.2.2.2.2.2.2.2.2.2.2.2.2.2.2.2.2.2.2.2.1, x8.2.2.2.2.2.2.2.2.2.2.2.2.2.2.2.2.2.2.2.2))
 else
 (some (x8.1, x8.2.1, x8.2.2.1, x8.2.2.2.1, x8.2.2.2.2.1, x8.2.2.2.2.2.1, x8.2.2.2.2.2.2.1, x8.2.2.2.2.2.2.2.1, x8.2.2.2.2.2.2.2.2.1, x8.2.2.2.2.2.2.2.2.2.1, x8.2.2.2.2.2.2.2.2.2.2.1, !false, x8.2.2.2.2.2.2.2.2.2.2.2.2.1, x8.2.2.2.2.2.2.2.2.2.2.2.2.2.1, x8.2.2.2.2.2.2.2.2.2.2.2.2.2.2.1, x8.2.2.2.2.2.2.2.2.2.2.2.2.2.2.2.1, x8.2.2.2.2.2.2.2.2.2.2.2.2.2.2.2.2.1, x8.2.2.2.2.2.2.2.2.2.2.2.2.2.2.2.2.2.1, x8.2.2.2.2.2.2.2.2.2.2.2.2.2.2.2.2.2.2.1, x8.2.2.2.2.2.2.2.2.2.2.2.2.2.2.2.2.2.2.2.1, x8.2.2.2.2.2.2.2.2.2.2.2.2.2.2.2.2.2.2.2.2)))
 else
 (some (x8.1, x8.2.1, x8.2.2.1, x8.2.2.2.1, x8.2.2.2.2.1, x8.2.2.2.2.2.1, x8.2.2.2.2.2.2.1, x8.2.2.2.2.2.2.2.1, x8.2.2.2.2.2.2.2.2.1, x8.2.2.2.2.2.2.2.2.2.1, x8.2.2.2.2.2.2.2.2.2.2.1, false, x8.2.2.2.2.2.2.2.2.2.2.2.2.1, x8.2.2.2.2.2.2.2.2.2.2.2.2.2.1, x8.2.2.2.2.2.2.2.2.2.2.2.2.2.2.1, x8.2.2.2.2.2.2.2.2.2.2.2.2.2.2.2.1, x8.2.2.2.2.2.2.2.2.2.2.2.2.2.2.2.2.1, x8.2.2.2.2.2.2.2.2.2.2.2.2.2.2.2.2.2.1, x8.2.2.2.2.2.2.2.2.2.2.2.2.2.2.2.2.2.2.1, x8.2.2.2.2.2.2.2.2.2.2.2.2.2.2.2.2.2.2.2.1, x8.2.2.2.2.2.2.2.2.2.2.2.2.2.2.2.2.2.2.2.2))).bind fun x12 =>
 rec9 (x12.1, x12.2.1, x12.2.2.1, x12.2.2.2.1, x12.2.2.2.2.1, x12.2.2.2.2.2.1, x12.2.2.2.2.2.2.1, x12.2.2.2.2.2.2.2.1, x12.2.2.2.2.2.2.2.2.1, x12.2.2.2.2.2.2.2.2.2.1, x12.2.2.2.2.2.2.2.2.2.2.1, x12.2.2.2.2.2.2.2.2.2.2.2.1, x12.2.2.2.2.2.2.2.2.2.2.2.2.1, x12.2.2.2.2.2.2.2.2.2.2.2.2.2.1, x12.2.2.2.2.2.2.2.2.2.2.2.2.2.2.1, x12.2.2.2.2.2.2.2.2.2.2.2.2.2.2.2.1, x12.2.2.2.2.2.2.2.2.2.2.2.2.2.2.2.2.1, x12.2.2.2.2.2.2.2.2.2.2.2.2.2.2.2.2.2.1, x12.2.2.2.2.2.2.2.2.2.2.2.2.2.2.2.2.2.2.1, x12.2.2.2.2.2.2.2.2.2.2.2.2.2.2.2.2.2.2.2.1, IntKind.wrap .i64 (x12.2.2.2.2.2.2.2.2.2.2.2.2.2.2.2.2.2.2.2.2 + (1 : Int))))
 else
 (some (x8.1, x8.2.1, x8.2.2.1, x8.2.2.2.1, x8.2.2.2.2.1, x8.2.2.2.2.2.1, x8.2.2.2.2.2.2.1, x8.2.2.2.2.2.2.2.1, x8.2.2.2.2.2.2.2.2.1, x8.2.2.2.2.2.2.2.2.2.1, x8.2.2.2.2.2.2.2.2.2.2.1, x8.2.2.2.2.2.2.2.2.2.2.2.1, x8.2.2.2.2.2.2.2.2.2.2.2.2.1, x8.2.2.2.2.2.2.2.2.2.2.2.2.2.1, x8.2.2.2.2.2.2.2.2.2.2.2.2.2.2.1, x8.2.2.2.2.2.2.2.2.2.2.2.2.2.2.2.1, x8.2.2.2.2.2.2.2.2.2.2.2.2.2.2.2.2.1, x8.2.2.2.2.2.2.2.2.2.2.2.2.2.2.2.2.2.1))
def ref04_Filled.L2 (f_ref01_List : (A19) → Option Bool) (n : Nat) (x5 : A52) (rec6 : (A52) → Option (A24)) : Option (A24) :=
 bif decide (x5.2.2.2.2.2.2.2.2.2.2.2.2.2.2.2 < x5.2.2.2.2.2.2.2.2.2.2.2.2.2.2.1) then
 (bif decide (0 ≤ x5.2.2.2.2.2.2.2.2.2.2.2.2.2.2.2) && decide (x5.2.2.2.2.2.2.2.2.2.2.2.2.2.2.2 < ((List.length x5.2.2.2.2.2.2.2.2.2.2.2.2.2.1 : Nat) : Int)) then
 (at? x5.2.2.2.2.2.2.2.2.2.2.2.2.2.1 (Int.toNat x5.2.2.2.2.2.2.2.2.2.2.2.2.2.2.2)).bind fun e7 =>
 (loopN (ref04_Filled.L1 f_ref01_List) n (x5.1, x5.2.1, x5.2.2.1, x5.2.2.2.1, x5.2.2.2.2.1, x5.2.2.2.2.2.1, x5.2.2.2.2.2.2.1, x5.2.2.2.2.2.2.2.1, x5.2.2.2.2.2.2.2.2.1, x5.2.2.2.2.2.2.2.2.2.1, e7, true, x5.2.2.2.2.2.2.2.2.2.2.1, x5.2.2.2.2.2.2.2.2.2.2.2.1, x5.2.2.2.2.2.2.2.2.2.2.2.2.1, x5.2.2.2.2.2.2.2.2.2.2.2.2.2.1, x5.2.2.2.2.2.2.2.2.2.2.2.2.2.2.1, x5.2.2.2.2.2.2.2.2.2.2.2.2.2.2.2, x5.2.2.1, ((List.length x5.2.2.1 : Nat) : Int), (0 : Int))).bind fun x13 =>
 (bif x13.2.2.2.2.2.2.2.2.2.2.2.1 then
 (bif decide (List.length x13.2.2.2.2.2.2.2.2.1 + List.length ([(x13.2.2.2.2.2.2.2.2.2.1, x13.2.2.2.2.2.2.2.2.2.2.1, x13.1)] : List Ru) ≤ maxRows) then
 some (x13.1, x13.2.1, x13.2.2.1, x13.2.2.2.1, x13.2.2.2.2.1, x13.2.2.2.2.2.1, x13.2.2.2.2.2.2.1, x13.2.2.2.2.2.2.2.1, List.append x13.2.2.2.2.2.2.2.2.1 ([(x13.2.2.2.2.2.2.2.2.2.1, x13.2.2.2.2.2.2.2.2.2.2.1, x13.1)] : List Ru), x13.2.2.2.2.2.2.2.2.2.1, x13.2.2.2.2.2.2.2.2.2.2.2.2.1, x13.2.2.2.2.2.2.2.2.2.2.2.2.2.1, x13.2.2.2.2.2.2.2.2.2.2.2.2.2.2.1, x13.2.2.2.2.2.2.2.2.2.2.2.2.2.2.2.1, x13.2.2.2.2.2.2.2.2.2.2.2.2.2.2.2.2.1, x13.2.2.2.2.2.2.2.2.2.2.2.2.2.2.2.2.2)
 else none)
 else
 (some (x13.1, x13.2.1, x13.2.2.1, x13.2.2.2.1, x13.2.2.2.2.1, x13.2.2.2.2.2.1, x13.2.2.2.2.2.2.1, x13.2.2.2.2.2.2.2.1, x13.2.2.2.2.2.2.2.2.1, x13.2.2.2.2.2.2.2.2.2.1, x13.2.2.2.2.2.2.2.2.2.2.2.2.1, x13.2.2.2.2.2.2.2.2.2.2.2.2.2.1, x13.2.2.2.2.2.2.2.2.2.2.2.2.2.2.1, x13.2.2.2.2.2.2.2.2.2.2.2.2.2.2.2.1, x13.2.2.2.2.2.2.2.2.2.2.2.2.2.2.2.2.1, x13.2.2.2.2.2.2.2.2.2.2.2.2.2.2.2.2.2))).bind fun x14 =>
 rec6 (x14.1, x14.2.1, x14.2.2.1, x14.2.2.2.1, x14.2.2.2.2.1, x14.2.2.2.2.2.1, x14.2.2.2.2.2.2.1, x14.2.2.2.2.2.2.2.1, x14.2.2.2.2.2.2.2.2.1, x14.2.2.2.2.2.2.2.2.2.1, x14.2.2.2.2.2.2.2.2.2.2.1, x14.2.2.2.2.2.2.2.2.2.2.2.1, x14.2.2.2.2.2.2.2.2.2.2.2.2.1, x14.2.2.2.2.2.2.2.2.2.2.2.2.2.1, x14.2.2.2.2.2.2.2.2.2.2.2.2.2.2.1, IntKind.wrap .i64 (x14.2.2.2.2.2.2.2.2.2.2.2.2.2.2.2 + (1 : Int)))
 else none)
 else
 (some (x5.1, x5.2.1, x5.2.2.1, x5.2.2.2.1, x5.2.2.2.2.1, x5.2.2.2.2.2.1, x5.2.2.2.2.2.2.1, x5.2.2.2.2.2.2.2.1, x5.2.2.2.2.2.2.2.2.1, x5.2.2.2.2.2.2.2.2.2.2.1, x5.2.2.2.2.2.2.2.2.2.2.2.1, x5.2.2.2.2.2.2.2.2.2.2.2.2.1))
def ref04_Filled.L3 (f_ref04_Lists : (A11) → Option LL) (f_ref01_List : (A19) → Option Bool) (n : Nat) (x1 : A24) (rec2 : (A24) → Option (A6)) : Option (A6) :=
 bif decide (x1.2.2.2.2.2.2.2.2.2.2.2 < x1.2.2.2.2.2.2.2.2.2.2.1) then
 ((nth? x1.2.2.2.2.2.2.2.2.2.1 x1.2.2.2.2.2.2.2.2.2.2.2).bind fun e3 =>
 (f_ref04_Lists (IntKind.wrap .i64 (x1.1 + (1 : Int)), e3)).bind fun r4 =>
 (loopN (ref04_Filled.L2 f_ref01_List n) n (x1.1, x1.2.1, x1.2.2.1, x1.2.2.2.1, x1.2.2.2.2.1, x1.2.2.2.2.2.1, x1.2.2.2.2.2.2.1, x1.2.2.2.2.2.2.2.1, x1.2.2.2.2.2.2.2.2.1, x1.2.2.2.2.2.2.2.2.2.2.2, x1.2.2.2.2.2.2.2.2.2.1, x1.2.2.2.2.2.2.2.2.2.2.1, x1.2.2.2.2.2.2.2.2.2.2.2, r4, ((List.length r4 : Nat) : Int), (0 : Int))).bind fun x15 =>
 rec2 (x15.1, x15.2.1, x15.2.2.1, x15.2.2.2.1, x15.2.2.2.2.1, x15.2.2.2.2.2.1, x15.2.2.2.2.2.2.1, x15.2.2.2.2.2.2.2.1, x15.2.2.2.2.2.2.2.2.1, x15.2.2.2.2.2.2.2.2.2.1, x15.2.2.2.2.2.2.2.2.2.2.1, IntKind.wrap .i64 (x15.2.2.2.2.2.2.2.2.2.2.2 + (1 : Int))))
 else
 (some (x1.2.2.2.1, x1.2.2.2.2.1, x1.2.2.2.2.2.1, x1.2.2.2.2.2.2.1, x1.2.2.2.2.2.2.2.1, x1.2.2.2.2.2.2.2.2.1))
def ref04_Filled.P (f_ref01_List : (A19) → Option Bool) (f_ref04_Lists : (A11) → Option LL) (n : Nat) (x : A2) : Option (A3) :=
 bif decide (List.length ([] : List Int) + List.length x.2.2.1 ≤ maxRows) then
 bif decide (List.length ([] : List Ru) + List.length x.2.2.2 ≤ maxRows) then
 (loopN (ref04_Filled.L3 f_ref04_Lists f_ref01_List n) n (x.2.1, x.2.2.1, x.2.2.2, (0 : Int), ([] : List Int), ([] : List Ru), IntKind.wrap .i64 (x.2.1 + (1 : Int)), List.append ([] : List Int) x.2.2.1, List.append ([] : List Ru) x.2.2.2, x.1, ((List.length x.1 : Nat) : Int), (0 : Int))).bind fun x16 =>
 some (x16.2.2.2.1, x16.2.2.2.2.1, x16.2.2.2.2.2)
 else none
 else none
def ref04_Table_index.L1 (x1 : A114) (rec2 : (A114) → Option Int) : Option Int :=
 bif decide (x1.2.2.2.2.2 < x1.2.2.2.2.1) then
 ((nth? x1.2.2.2.1 x1.2.2.2.2.2).bind fun e3 =>
 rec2 (x1.1, x1.2.1, IntKind.wrap .i64 ((IntKind.wrap .i64 (x1.2.2.1 * x1.1)) + e3), x1.2.2.2.1, x1.2.2.2.2.1, IntKind.wrap .i64 (x1.2.2.2.2.2 + (1 : Int))))
 else
 (some x1.2.2.1)
def ref04_Table_index.P (n : Nat) (x : A100) : Option Int :=
 (loopN (ref04_Table_index.L1) n (x.1, x.2.1, (0 : Int), x.2.2, ((List.length x.2.2 : Nat) : Int), (0 : Int))).bind fun x4 =>
 some x4
def ref04_Make.L1 (x5 : Int × LI × LR × Int × LL × Int × (List (Option LI)) × LI × LI × Int × Int × Int × Int) (rec6 : (Int × LI × LR × Int × LL × Int × (List (Option LI)) × LI × LI × Int × Int × Int × Int) → Option (Int × LI × LR × Int × LL × Int × (List (Option LI)) × LI × LI × Int × Int)) : Option (Int × LI × LR × Int × LL × Int × (List (Option LI)) × LI × LI × Int × Int) :=
 bif decide (x5.2.2.2.2.2.2.2.2.2.2.2.2 < x5.2.2.2.2.2.2.2.2.2.2.2.1) then
 (bif decide (0 ≤ x5.2.2.2.2.2.2.2.2.2.2.2.2) && decide (x5.2.2.2.2.2.2.2.2.2.2.2.2 < ((List.length x5.2.2.2.2.2.2.2.1 : Nat) : Int)) then
 (at? x5.2.2.2.2.2.2.2.1 (Int.toNat x5.2.2.2.2.2.2.2.2.2.2.2.2)).bind fun e7 =>
 rec6 (x5.1, x5.2.1, x5.2.2.1, x5.2.2.2.1, x5.2.2.2.2.1, x5.2.2.2.2.2.1, x5.2.2.2.2.2.2.1, List.set x5.2.2.2.2.2.2.2.1 (Int.toNat x5.2.2.2.2.2.2.2.2.2.2.2.2) (-1 : Int), x5.2.2.2.2.2.2.2.2.1, x5.2.2.2.2.2.2.2.2.2.1, x5.2.2.2.2.2.2.2.2.2.2.1, x5.2.2.2.2.2.2.2.2.2.2.2.1, IntKind.wrap .i64 (x5.2.2.2.2.2.2.2.2.2.2.2.2 + (1 : Int)))
 else none)
 else
 (some (x5.1, x5.2.1, x5.2.2.1, x5.2.2.2.1, x5.2.2.2.2.1, x5.2.2.2.2.2.1, x5.2.2.2.2.2.2.1, x5.2.2.2.2.2.2.2.1, x5.2.2.2.2.2.2.2.2.1, x5.2.2.2.2.2.2.2.2.2.1, x5.2.2.2.2.2.2.2.2.2.2.1))
def ref04_Make.L2 (f_ref03_Power : (A11) → Option Int) (n : Nat) (x1 : Int × LI × LR × Int × LL × Int × (List (Option LI)) × LI × Int × Int) (rec2 : (Int × LI × LR × Int × LL × Int × (List (Option LI)) × LI × Int × Int) → Option (Int × LI × LR × Int × LL × Int × (List (Option LI)))) : Option (Int × LI × LR × Int × LL × Int × (List (Option LI))) :=
 bif decide (x1.2.2.2.2.2.2.2.2.2 < x1.2.2.2.2.2.2.2.2.1) then
 ((nth? x1.2.2.2.2.2.2.2.1 x1.2.2.2.2.2.2.2.2.2).bind fun e3 =>
 (f_ref03_Power (x1.1, e3)).bind fun r4 =>
 bif decide (0 ≤ r4) && decide (r4 ≤ r4) && decide (r4 ≤ ((maxRows : Nat) : Int)) then
 (loopN (ref04_Make.L1) n (x1.1, x1.2.1, x1.2.2.1, x1.2.2.2.1, x1.2.2.2.2.1, x1.2.2.2.2.2.1, x1.2.2.2.2.2.2.1, List.replicate (Int.toNat r4) ((0 : Int) : Int), x1.2.2.2.2.2.2.2.1, x1.2.2.2.2.2.2.2.2.1, x1.2.2.2.2.2.2.2.2.2, ((List.length (List.replicate (Int.toNat r4) ((0 : Int) : Int)) : Nat) : Int), (0 : Int))).bind fun x8 =>
 bif decide (List.length x8.2.2.2.2.2.2.1 + List.length ([x8.2.2.2.2.2.2.2.1] : List LI) ≤ maxRows) then
 rec2 (x8.1, x8.2.1, x8.2.2.1, x8.2.2.2.1, x8.2.2.2.2.1, x8.2.2.2.2.2.1, List.append x8.2.2.2.2.2.2.1 (List.map some ([x8.2.2.2.2.2.2.2.1] : List LI)), x8.2.2.2.2.2.2.2.2.1, x8.2.2.2.2.2.2.2.2.2.1, IntKind.wrap .i64 (x8.2.2.2.2.2.2.2.2.2.2 + (1 : Int)))
 else none
 else none)
 else
 (some (x1.1, x1.2.1, x1.2.2.1, x1.2.2.2.1, x1.2.2.2.2.1, x1.2.2.2.2.2.1, x1.2.2.2.2.2.2.1))
def ref04_Make.L3 (f_ref04_Table_index : (A100) → Option Int) (x10 : Int × LL × Int × (List (Option LI)) × LR × Int × Int) (rec11 : (Int × LL × Int × (List (Option LI)) × LR × Int × Int) → Option (Int × LL × Int × (List (Option LI)))) : Option (Int × LL × Int × (List (Option LI))) :=
 bif decide (x10.2.2.2.2.2.2 < x10.2.2.2.2.2.1) then
 ((nth? x10.2.2.2.2.1 x10.2.2.2.2.2.2).bind fun e12 =>
 bif decide (0 ≤ e12.1) && decide (e12.1 < ((List.length x10.2.2.2.1 : Nat) : Int)) then
 (rowAt? x10.2.2.2.1 (Int.toNat e12.1)).bind fun e13 =>
 (rowsAll x10.2.2.2.1).bind fun e14 =>
 (f_ref04_Table_index (x10.2.2.1, e14, e12.2.1)).bind fun r15 =>
 (rowAt? x10.2.2.2.1 (Int.toNat e12.1)).bind fun e16 =>
 bif decide (0 ≤ r15) && decide (r15 < ((List.length e16 : Nat) : Int)) then
 (rowAt? x10.2.2.2.1 (Int.toNat e12.1)).bind fun e17 =>
 (at? e17 (Int.toNat r15)).bind fun e18 =>
 rec11 (x10.1, x10.2.1, x10.2.2.1, List.set x10.2.2.2.1 (Int.toNat e12.1) (some (List.set e17 (Int.toNat r15) e12.2.2)), x10.2.2.2.2.1, x10.2.2.2.2.2.1, IntKind.wrap .i64 (x10.2.2.2.2.2.2 + (1 : Int)))
 else none
 else none)
 else
 (some (x10.1, x10.2.1, x10.2.2.1, x10.2.2.2.1))
def ref04_Make.P (f_ref03_Power : (A11) → Option Int) (f_ref04_Table_index : (A100) → Option Int) (n : Nat) (x : A2) : Option (Int × LL) :=
 (loopN (ref04_Make.L2 f_ref03_Power n) n (x.2.1, x.2.2.1, x.2.2.2, (0 : Int), ([] : List LI), x.2.1, ([] : List (Option LI)), x.1, ((List.length x.1 : Nat) : Int), (0 : Int))).bind fun x9 =>
 (loopN (ref04_Make.L3 f_ref04_Table_index) n (x9.2.2.2.1, x9.2.2.2.2.1, x9.2.2.2.2.2.1, x9.2.2.2.2.2.2, x9.2.2.1, ((List.length x9.2.2.1 : Nat) : Int), (0 : Int))).bind fun x19 =>
 (rowsAll x19.2.2.2).bind fun e20 =>
 some (x19.2.2.1, e20)
def ref04_Table_Next.P (f_ref04_Table_index : (A100) → Option Int) (n : Nat) (x : A29) : Option Int :=
 (nth? x.2.1 x.2.2.1).bind fun e1 =>
 (f_ref04_Table_index (x.1, x.2.1, x.2.2.2)).bind fun r2 =>
 (nth? e1 r2).bind fun e3 =>
 some e3
end Go.Bk
end
noncomputable section
namespace Go.Bk
open Go Go.AM
set_option maxRecDepth 100000
set_option linter.unusedVariables false
def ref04_alike.L1 (f_ref04_Table_Next : (A29) → Option Int) (x8 : A49) (rec9 : (A49) → Option (Sum (A15) (Sum (A22) (Sum Unit Bool)))) : Option (Sum (A15) (Sum (A22) (Sum Unit Bool))) :=
 bif decide (x8.2.2.2.2.2.2.2.2.2.2.2.2.2.2.2 < x8.2.2.2.2.2.2.2.2.2.2.2.2.2.2.1) then
 (bif decide (0 ≤ 0) && decide (0 ≤ x8.2.2.2.2.2.2.2.2.2.2.2.2.2.2.2) && decide (x8.2.2.2.2.2.2.2.2.2.2.2.2.2.2.2 ≤ ((List.length x8.2.2.2.2.2.2.2.1 : Nat) : Int)) then
 bif decide (List.length ([] : List Int) + List.length (List.drop (Int.toNat 0) (List.take (Int.toNat x8.2.2.2.2.2.2.2.2.2.2.2.2.2.2.2) x8.2.2.2.2.2.2.2.1)) ≤ maxRows) then
 bif decide (List.length (List.append ([] : List Int) (List.drop (Int.toNat 0) (List.take (Int.toNat x8.2.2.2.2.2.2.2.2.2.2.2.2.2.2.2) x8.2.2.2.2.2.2.2.1))) + List.length ([x8.2.1] : List Int) ≤ maxRows) then
 bif decide (0 ≤ x8.2.2.2.2.2.2.2.2.2.2.2.2.2.2.2) && decide (x8.2.2.2.2.2.2.2.2.2.2.2.2.2.2.2 ≤ ((List.length x8.2.2.2.2.2.2.2.1 : Nat) : Int)) && decide (((List.length x8.2.2.2.2.2.2.2.1 : Nat) : Int) ≤ ((List.length x8.2.2.2.2.2.2.2.1 : Nat) : Int)) then
 bif decide (List.length (List.append (List.append ([] : List Int) (List.drop (Int.toNat 0) (List.take (Int.toNat x8.2.2.2.2.2.2.2.2.2.2.2.2.2.2.2) x8.2.2.2.2.2.2.2.1))) ([x8.2.1] : List Int)) + List.length (List.drop (Int.toNat x8.2.2.2.2.2.2.2.2.2.2.2.2.2.2.2) (List.take (Int.toNat ((List.length x8.2.2.2.2.2.2.2.1 : Nat) : Int)) x8.2.2.2.2.2.2.2.1)) ≤ maxRows) then
 bif decide (0 ≤ 0) && decide (0 ≤ x8.2.2.2.2.2.2.2.2.2.2.2.2.2.2.2) && decide (x8.2.2.2.2.2.2.2.2.2.2.2.2.2.2.2 ≤ ((List.length x8.2.2.2.2.2.2.2.1 : Nat) : Int)) then
 bif decide (List.length ([] : List Int) + List.length (List.drop (Int.toNat 0) (List.take (Int.toNat x8.2.2.2.2.2.2.2.2.2.2.2.2.2.2.2) x8.2.2.2.2.2.2.2.1)) ≤ maxRows) then
 bif decide (List.length (List.append ([] : List Int) (List.drop (Int.toNat 0) (List.take (Int.toNat x8.2.2.2.2.2.2.2.2.2.2.2.2.2.2.2) x8.2.2.2.2.2.2.2.1))) + List.length ([x8.2.2.1] : List Int) ≤ maxRows) then
 bif decide (0 ≤ x8.2.2.2.2.2.2.2.2.2.2.2.2.2.2.2) && decide (x8.2.2.2.2.2.2.2.2.2.2.2.2.2.2.2 ≤ ((List.length x8.2.2.2.2.2.2.2.1 : Nat) : Int)) && decide (((List.length x8.2.2.2.2.2.2.2.1 : Nat) : Int) ≤ ((List.length x8.2.2.2.2.2.2.2.1 : Nat) : Int)) then
 bif decide (List.length (List.append (List.append ([] : List Int) (List.drop (Int.toNat 0) (List.take (Int.toNat x8.2.2.2.2.2.2.2.2.2.2.2.2.2.2.2) x8.2.2.2.2.2.2.2.1))) ([x8.2.2.1] : List Int)) + List.length (List.drop (Int.toNat x8.2.2.2.2.2.2.2.2.2.2.2.2.2.2.2) (List.take (Int.toNat ((List.length x8.2.2.2.2.2.2.2.1 : Nat) : Int)) x8.2.2.2.2.2.2.2.1)) ≤ maxRows) then
 (f_ref04_Table_Next (x8.2.2.2.1, x8.2.2.2.2.1, x8.2.2.2.2.2.1, List.append (List.append (List.append ([] : List Int) (List.drop (Int.toNat 0) (List.take (Int.toNat x8.2.2.2.2.2.2.2.2.2.2.2.2.2.2.2) x8.2.2.2.2.2.2.2.1))) ([x8.2.1] : List Int)) (List.drop (Int.toNat x8.2.2.2.2.2.2.2.2.2.2.2.2.2.2.2) (List.take (Int.toNat ((List.length x8.2.2.2.2.2.2.2.1 : Nat) : Int)) x8.2.2.2.2.2.2.2.1)))).bind fun r10 =>
 (nth? x8.1 r10).bind fun e11 =>
 (f_ref04_Table_Next (x8.2.2.2.1, x8.2.2.2.2.1, x8.2.2.2.2.2.1, List.append (List.append (List.append ([] : List Int) (List.drop (Int.toNat 0) (List.take (Int.toNat x8.2.2.2.2.2.2.2.2.2.2.2.2.2.2.2) x8.2.2.2.2.2.2.2.1))) ([x8.2.2.1] : List Int)) (List.drop (Int.toNat x8.2.2.2.2.2.2.2.2.2.2.2.2.2.2.2) (List.take (Int.toNat ((List.length x8.2.2.2.2.2.2.2.1 : Nat) : Int)) x8.2.2.2.2.2.2.2.1)))).bind fun r12 =>
 (nth? x8.1 r12).bind fun e13 =>
 bif !decide (e11 = e13) then
 ((((some false).bind fun r => some (Sum.inr r)).bind fun r => some (Sum.inr r)).bind fun r => some (Sum.inr r))
 else
 (rec9 (x8.1, x8.2.1, x8.2.2.1, x8.2.2.2.1, x8.2.2.2.2.1, x8.2.2.2.2.2.1, x8.2.2.2.2.2.2.1, x8.2.2.2.2.2.2.2.1, x8.2.2.2.2.2.2.2.2.1, x8.2.2.2.2.2.2.2.2.2.1, x8.2.2.2.2.2.2.2.2.2.2.1, x8.2.2.2.2.2.2.2.2.2.2.2.1, x8.2.2.2.2.2.2.2.2.2.2.2.2.1, x8.2.2.2.2.2.2.2.2.2.2.2.2.2.1, x8.2.2.2.2.2.2.2.2.2.2.2.2.2.2.1, IntKind.wrap .i64 (x8.2.2.2.2.2.2.2.2.2.2.2.2.2.2.2 + (1 : Int))))
 else none
 else none
 else none
 else none
 else none
 else none
 else none
 else none
 else none
 else none)
 else
 (some (Sum.inl (x8.1, x8.2.1, x8.2.2.1, x8.2.2.2.1, x8.2.2.2.2.1, x8.2.2.2.2.2.1, x8.2.2.2.2.2.2.1, x8.2.2.2.2.2.2.2.2.1, x8.2.2.2.2.2.2.2.2.2.1, x8.2.2.2.2.2.2.2.2.2.2.1, x8.2.2.2.2.2.2.2.2.2.2.2.1, x8.2.2.2.2.2.2.2.2.2.2.2.2.1, x8.2.2.2.2.2.2.2.2.2.2.2.2.2.1)))
def ref04_alike.L2 (f_ref04_Table_Next : (A29) → Option Int) (n : Nat) (x5 : A15) (rec6 : (A15) → Option (Sum (A22) (Sum Unit Bool))) : Option (Sum (A22) (Sum Unit Bool)) :=
 bif decide (x5.2.2.2.2.2.2.2.2.2.2.2.2 < x5.2.2.2.2.2.2.2.2.2.2.2.1) then
 (bif decide (0 ≤ x5.2.2.2.2.2.2.2.2.2.2.2.2) && decide (x5.2.2.2.2.2.2.2.2.2.2.2.2 < ((List.length x5.2.2.2.2.2.2.2.2.2.2.1 : Nat) : Int)) then
 (at? x5.2.2.2.2.2.2.2.2.2.2.1 (Int.toNat x5.2.2.2.2.2.2.2.2.2.2.2.2)).bind fun e7 =>
 (loopN (ref04_alike.L1 f_ref04_Table_Next) n (x5.1, x5.2.1, x5.2.2.1, x5.2.2.2.1, x5.2.2.2.2.1, x5.2.2.2.2.2.1, x5.2.2.2.2.2.2.1, e7, x5.2.2.2.2.2.2.2.1, x5.2.2.2.2.2.2.2.2.1, x5.2.2.2.2.2.2.2.2.2.1, x5.2.2.2.2.2.2.2.2.2.2.1, x5.2.2.2.2.2.2.2.2.2.2.2.1, x5.2.2.2.2.2.2.2.2.2.2.2.2, x5.2.2.2.2.2.2.1, (0 : Int))).bind fun q => match q with
 | Sum.inl x14 => (rec6 (x14.1, x14.2.1, x14.2.2.1, x14.2.2.2.1, x14.2.2.2.2.1, x14.2.2.2.2.2.1, x14.2.2.2.2.2.2.1, x14.2.2.2.2.2.2.2.1, x14.2.2.2.2.2.2.2.2.1, x14.2.2.2.2.2.2.2.2.2.1, x14.2.2.2.2.2.2.2.2.2.2.1, x14.2.2.2.2.2.2.2.2.2.2.2.1, IntKind.wrap .i64 (x14.2.2.2.2.2.2.2.2.2.2.2.2 + (1 : Int))))
 | Sum.inr r => some r
 else none)
 else
 (some (Sum.inl (x5.1, x5.2.1, x5.2.2.1, x5.2.2.2.1, x5.2.2.2.2.1, x5.2.2.2.2.2.2.2.1, x5.2.2.2.2.2.2.2.2.1, x5.2.2.2.2.2.2.2.2.2.1)))
def ref04_alike.L3 (f_ref04_Lists : (A11) → Option LL) (f_ref04_Table_Next : (A29) → Option Int) (n : Nat) (x1 : A22) (rec2 : (A22) → Option (Sum Unit Bool)) : Option (Sum Unit Bool) :=
 bif decide (x1.2.2.2.2.2.2.2 < x1.2.2.2.2.2.2.1) then
 ((nth? x1.2.2.2.2.2.1 x1.2.2.2.2.2.2.2).bind fun e3 =>
 bif decide (e3 = (0 : Int)) then
 (rec2 (x1.1, x1.2.1, x1.2.2.1, x1.2.2.2.1, x1.2.2.2.2.1, x1.2.2.2.2.2.1, x1.2.2.2.2.2.2.1, IntKind.wrap .i64 (x1.2.2.2.2.2.2.2 + (1 : Int))))
 else
 ((f_ref04_Lists (x1.2.2.2.1, IntKind.wrap .i64 (e3 - (1 : Int)))).bind fun r4 =>
 (loopN (ref04_alike.L2 f_ref04_Table_Next n) n (x1.1, x1.2.1, x1.2.2.1, x1.2.2.2.1, x1.2.2.2.2.1, x1.2.2.2.2.2.2.2, e3, x1.2.2.2.2.2.1, x1.2.2.2.2.2.2.1, x1.2.2.2.2.2.2.2, r4, ((List.length r4 : Nat) : Int), (0 : Int))).bind fun q => match q with
 | Sum.inl x15 => (rec2 (x15.1, x15.2.1, x15.2.2.1, x15.2.2.2.1, x15.2.2.2.2.1, x15.2.2.2.2.2.1, x15.2.2.2.2.2.2.1, IntKind.wrap .i64 (x15.2.2.2.2.2.2.2 + (1 : Int))))
 | Sum.inr r => some r))
 else
 (some (Sum.inl ()))
def ref04_alike.P (f_ref04_Lists : (A11) → Option LL) (f_ref04_Table_Next : (A29) → Option Int) (n : Nat) (x : A27) : Option Bool :=
 (loopN (ref04_alike.L3 f_ref04_Lists f_ref04_Table_Next n) n (x.2.2.2.1, x.2.2.2.2.1, x.2.2.2.2.2, x.2.1, x.2.2.1, x.1, ((List.length x.1 : Nat) : Int), (0 : Int))).bind fun q => match q with
 | Sum.inl x16 => (some true)
 | Sum.inr r => some r
def ref04_many.L1 (f_ref03_Insert : (A18) → Option LI) (x1 : A57) (rec2 : (A57) → Option LI) : Option LI :=
 bif decide (x1.2.2.2 < x1.2.2.1) then
 ((nth? x1.2.1 x1.2.2.2).bind fun e3 =>
 (f_ref03_Insert (x1.1, e3)).bind fun r4 =>
 rec2 (r4, x1.2.1, x1.2.2.1, IntKind.wrap .i64 (x1.2.2.2 + (1 : Int))))
 else
 (some x1.1)
def ref04_many.P (f_ref03_Insert : (A18) → Option LI) (n : Nat) (x : List Int) : Option Int :=
 (loopN (ref04_many.L1 f_ref03_Insert) n (([] : List Int), x, ((List.length x : Nat) : Int), (0 : Int))).bind fun x5 =>
 some ((List.length x5 : Nat) : Int)
def ref04_classes.L1 (x2 : A90) (rec3 : (A90) → Option (A69)) : Option (A69) :=
 bif decide (x2.2.2.2.2.2.2.2.2.2 < x2.2.2.2.2.2.2.2.2.1) then
 ((nth? x2.2.2.2.2.2.2.2.1 x2.2.2.2.2.2.2.2.2.2).bind fun e4 =>
 bif decide (0 ≤ e4) && decide (e4 < ((List.length x2.2.2.2.2.2.2.1 : Nat) : Int)) then
 (at? x2.2.2.2.2.2.2.1 (Int.toNat e4)).bind fun e5 =>
 rec3 (x2.1, x2.2.1, x2.2.2.1, x2.2.2.2.1, x2.2.2.2.2.1, x2.2.2.2.2.2.1, List.set x2.2.2.2.2.2.2.1 (Int.toNat e4) (1 : Int), x2.2.2.2.2.2.2.2.1, x2.2.2.2.2.2.2.2.2.1, IntKind.wrap .i64 (x2.2.2.2.2.2.2.2.2.2 + (1 : Int)))
 else none)
 else
 (some (x2.1, x2.2.1, x2.2.2.1, x2.2.2.2.1, x2.2.2.2.2.1, x2.2.2.2.2.2.1, x2.2.2.2.2.2.2.1))
def ref04_classes.L2 (f_ref04_alike : (A27) → Option Bool) (x12 : A61) (rec13 : (A61) → Option (A77)) : Option (A77) :=
 bif decide (x12.2.2.2.2.2.2.2.2.2.2.2.2.2 < x12.2.2.2.2.2.2.2.2.2.2.2.2.1) then
 (bif decide (0 ≤ x12.2.2.2.2.2.2.2.2.2.2.2.2.2) && decide (x12.2.2.2.2.2.2.2.2.2.2.2.2.2 < ((List.length x12.2.2.2.2.2.2.2.1 : Nat) : Int)) then
 (at? x12.2.2.2.2.2.2.2.1 (Int.toNat x12.2.2.2.2.2.2.2.2.2.2.2.2.2)).bind fun e14 =>
 (bif decide (0 ≤ x12.2.2.2.2.2.2.2.2.2.1) && decide (x12.2.2.2.2.2.2.2.2.2.1 < ((List.length x12.2.2.2.2.2.2.1 : Nat) : Int)) then
 (at? x12.2.2.2.2.2.2.1 (Int.toNat x12.2.2.2.2.2.2.2.2.2.1)).bind fun e15 =>
 bif decide (0 ≤ e14) && decide (e14 < ((List.length x12.2.2.2.2.2.2.1 : Nat) : Int)) then
 (at? x12.2.2.2.2.2.2.1 (Int.toNat e14)).bind fun e16 =>
 bif decide (e15 = e16) then
 ((f_ref04_alike (x12.1, x12.2.2.2.2.1, x12.2.2.2.2.2.1, x12.2.2.2.2.2.2.1, x12.2.2.2.2.2.2.2.2.2.1, e14)).bind fun r17 =>
 some (x12.1, x12.2.1, x12.2.2.1, x12.2.2.2.1, x12.2.2.2.2.1, x12.2.2.2.2.2.1, x12.2.2.2.2.2.2.1, x12.2.2.2.2.2.2.2.1, x12.2.2.2.2.2.2.2.2.1, x12.2.2.2.2.2.2.2.2.2.1, x12.2.2.2.2.2.2.2.2.2.2.2.2.2, x12.2.2.2.2.2.2.2.2.2.2.1, x12.2.2.2.2.2.2.2.2.2.2.2.1, x12.2.2.2.2.2.2.2.2.2.2.2.2.1, x12.2.2.2.2.2.2.2.2.2.2.2.2.2, r17))
 else
 (some (x12.1, x12.2.1, x12.2.2.1, x12.2.2.2.1, x12.2.2.2.2.1, x12.2.2.2.2.2.1, x12.2.2.2.2.2.2.1, x12.2.2.2.2.2.2.2.1, x12.2.2.2.2.2.2.2.2.1, x12.2.2.2.2.2.2.2.2.2.1, x12.2.2.2.2.2.2.2.2.2.2.2.2.2, x12.2.2.2.2.2.2.2.2.2.2.1, x12.2.2.2.2.2.2.2.2.2.2.2.1, x12.2.2.2.2.2.2.2.2.2.2.2.2.1, x12.2.2.2.2.2.2.2.2.2.2.2.2.2, false))
 else none
 else none).bind fun x18 =>
 bif x18.2.2.2.2.2.2.2.2.2.2.2.2.2.2.2 then
 (bif decide (0 ≤ x18.2.2.2.2.2.2.2.2.2.1) && decide (x18.2.2.2.2.2.2.2.2.2.1 < ((List.length x18.2.2.2.2.2.2.2.2.1 : Nat) : Int)) then
 (at? x18.2.2.2.2.2.2.2.2.1 (Int.toNat x18.2.2.2.2.2.2.2.2.2.1)).bind fun e19 =>
 some (x18.1, x18.2.1, x18.2.2.1, x18.2.2.2.1, x18.2.2.2.2.1, x18.2.2.2.2.2.1, x18.2.2.2.2.2.2.1, x18.2.2.2.2.2.2.2.1, List.set x18.2.2.2.2.2.2.2.2.1 (Int.toNat x18.2.2.2.2.2.2.2.2.2.1) x18.2.2.2.2.2.2.2.2.2.2.1, x18.2.2.2.2.2.2.2.2.2.1, x18.2.2.2.2.2.2.2.2.2.2.2.1, x18.2.2.2.2.2.2.2.2.2.2.2.2.1)
 else none)
 else
 (rec13 (x18.1, x18.2.1, x18.2.2.1, x18.2.2.2.1, x18.2.2.2.2.1, x18.2.2.2.2.2.1, x18.2.2.2.2.2.2.1, x18.2.2.2.2.2.2.2.1, x18.2.2.2.2.2.2.2.2.1, x18.2.2.2.2.2.2.2.2.2.1, x18.2.2.2.2.2.2.2.2.2.2.2.1, x18.2.2.2.2.2.2.2.2.2.2.2.2.1, x18.2.2.2.2.2.2.2.2.2.2.2.2.2.1, IntKind.wrap .i64 (x18.2.2.2.2.2.2.2.2.2.2.2.2.2.2.1 + (1 : Int))))
 else none)
 else
 (some (x12.1, x12.2.1, x12.2.2.1, x12.2.2.2.1, x12.2.2.2.2.1, x12.2.2.2.2.2.1, x12.2.2.2.2.2.2.1, x12.2.2.2.2.2.2.2.1, x12.2.2.2.2.2.2.2.2.1, x12.2.2.2.2.2.2.2.2.2.1, x12.2.2.2.2.2.2.2.2.2.2.1, x12.2.2.2.2.2.2.2.2.2.2.2.1))
def ref04_classes.L3 (f_ref04_alike : (A27) → Option Bool) (n : Nat) (x9 : A82) (rec10 : (A82) → Option (A106)) : Option (A106) :=
 bif decide (x9.2.2.2.2.2.2.2.2.2.2 < x9.2.2.2.2.2.2.2.2.2.1) then
 (bif decide (0 ≤ x9.2.2.2.2.2.2.2.2.2.2) && decide (x9.2.2.2.2.2.2.2.2.2.2 < ((List.length x9.2.2.2.2.2.2.2.2.1 : Nat) : Int)) then
 (at? x9.2.2.2.2.2.2.2.2.1 (Int.toNat x9.2.2.2.2.2.2.2.2.2.2)).bind fun e11 =>
 (loopN (ref04_classes.L2 f_ref04_alike) n (x9.1, x9.2.1, x9.2.2.1, x9.2.2.2.1, x9.2.2.2.2.1, x9.2.2.2.2.2.1, x9.2.2.2.2.2.2.1, x9.2.2.2.2.2.2.2.1, List.set x9.2.2.2.2.2.2.2.2.1 (Int.toNat x9.2.2.2.2.2.2.2.2.2.2) ((List.length x9.2.2.2.2.2.2.2.1 : Nat) : Int), x9.2.2.2.2.2.2.2.2.2.2, x9.2.2.2.2.2.2.2.2.2.1, x9.2.2.2.2.2.2.2.2.2.2, ((List.length x9.2.2.2.2.2.2.2.1 : Nat) : Int), (0 : Int))).bind fun x20 =>
 bif decide (0 ≤ x20.2.2.2.2.2.2.2.2.2.1) && decide (x20.2.2.2.2.2.2.2.2.2.1 < ((List.length x20.2.2.2.2.2.2.2.2.1 : Nat) : Int)) then
 (at? x20.2.2.2.2.2.2.2.2.1 (Int.toNat x20.2.2.2.2.2.2.2.2.2.1)).bind fun e21 =>
 (bif decide (e21 = ((List.length x20.2.2.2.2.2.2.2.1 : Nat) : Int)) then
 (bif decide (List.length x20.2.2.2.2.2.2.2.1 + List.length ([x20.2.2.2.2.2.2.2.2.2.1] : List Int) ≤ maxRows) then
 some (x20.1, x20.2.1, x20.2.2.1, x20.2.2.2.1, x20.2.2.2.2.1, x20.2.2.2.2.2.1, x20.2.2.2.2.2.2.1, List.append x20.2.2.2.2.2.2.2.1 ([x20.2.2.2.2.2.2.2.2.2.1] : List Int), x20.2.2.2.2.2.2.2.2.1, x20.2.2.2.2.2.2.2.2.2.2.1, x20.2.2.2.2.2.2.2.2.2.2.2)
 else none)
 else
 (some (x20.1, x20.2.1, x20.2.2.1, x20.2.2.2.1, x20.2.2.2.2.1, x20.2.2.2.2.2.1, x20.2.2.2.2.2.2.1, x20.2.2.2.2.2.2.2.1, x20.2.2.2.2.2.2.2.2.1, x20.2.2.2.2.2.2.2.2.2.2.1, x20.2.2.2.2.2.2.2.2.2.2.2))).bind fun x22 =>
 rec10 (x22.1, x22.2.1, x22.2.2.1, x22.2.2.2.1, x22.2.2.2.2.1, x22.2.2.2.2.2.1, x22.2.2.2.2.2.2.1, x22.2.2.2.2.2.2.2.1, x22.2.2.2.2.2.2.2.2.1, x22.2.2.2.2.2.2.2.2.2.1, IntKind.wrap .i64 (x22.2.2.2.2.2.2.2.2.2.2 + (1 : Int)))
 else none
 else none)
 else
 (some (x9.1, x9.2.1, x9.2.2.1, x9.2.2.2.1, x9.2.2.2.2.1, x9.2.2.2.2.2.1, x9.2.2.2.2.2.2.1, x9.2.2.2.2.2.2.2.2.1))
def ref04_classes.L4 (f_ref04_alike : (A27) → Option Bool) (n : Nat) (f_ref04_many : List Int → Option Int) (x7 : A69) (rec8 : (A69) → Option (Sum Unit LI)) : Option (Sum Unit LI) :=
 bif decide (0 ≤ x7.2.1) && decide (x7.2.1 ≤ x7.2.1) && decide (x7.2.1 ≤ ((maxRows : Nat) : Int)) then
 (loopN (ref04_classes.L3 f_ref04_alike n) n (x7.1, x7.2.1, x7.2.2.1, x7.2.2.2.1, x7.2.2.2.2.1, x7.2.2.2.2.2.1, x7.2.2.2.2.2.2, ([] : List Int), List.replicate (Int.toNat x7.2.1) ((0 : Int) : Int), ((List.length (List.replicate (Int.toNat x7.2.1) ((0 : Int) : Int)) : Nat) : Int), (0 : Int))).bind fun x23 =>
 (f_ref04_many x23.2.2.2.2.2.2.2).bind fun r24 =>
 (f_ref04_many x23.2.2.2.2.2.2.1).bind fun r25 =>
 bif decide (r24 = r25) then
 ((some x23.2.2.2.2.2.2.2).bind fun r => some (Sum.inr r))
 else
 (rec8 (x23.1, x23.2.1, x23.2.2.1, x23.2.2.2.1, x23.2.2.2.2.1, x23.2.2.2.2.2.1, x23.2.2.2.2.2.2.2))
 else none
def ref04_classes.P (f_ref04_Make : (A2) → Option (Int × LL)) (f_ref04_alike : (A27) → Option Bool) (f_ref04_many : List Int → Option Int) (n : Nat) (x : A2) : Option LI :=
 (f_ref04_Make (x.1, x.2.1, x.2.2.1, x.2.2.2)).bind fun r1 =>
 bif decide (0 ≤ x.2.1) && decide (x.2.1 ≤ x.2.1) && decide (x.2.1 ≤ ((maxRows : Nat) : Int)) then
 (loopN (ref04_classes.L1) n (x.1, x.2.1, x.2.2.1, x.2.2.2, r1.1, r1.2, List.replicate (Int.toNat x.2.1) ((0 : Int) : Int), x.2.2.1, ((List.length x.2.2.1 : Nat) : Int), (0 : Int))).bind fun x6 =>
 (loopN (ref04_classes.L4 f_ref04_alike n f_ref04_many) n (x6.1, x6.2.1, x6.2.2.1, x6.2.2.2.1, x6.2.2.2.2.1, x6.2.2.2.2.2.1, x6.2.2.2.2.2.2)).bind fun q => match q with
 | Sum.inl (_ : Unit) => none
 | Sum.inr r => some r
 else none
def ref04_Renumber.L1 (x2 : A78) (rec3 : (A78) → Option (A92)) : Option (A92) :=
 bif decide (x2.2.2.2.2.2.2.2.2.2.2.2 < x2.2.2.2.2.2.2.2.2.2.2.1) then
 (bif decide (0 ≤ x2.2.2.2.2.2.2.2.2.2.2.2) && decide (x2.2.2.2.2.2.2.2.2.2.2.2 < ((List.length x2.2.2.2.2.2.2.2.2.2.1 : Nat) : Int)) then
 (at? x2.2.2.2.2.2.2.2.2.2.1 (Int.toNat x2.2.2.2.2.2.2.2.2.2.2.2)).bind fun e4 =>
 rec3 (x2.1, x2.2.1, x2.2.2.1, x2.2.2.2.1, x2.2.2.2.2.1, x2.2.2.2.2.2.1, x2.2.2.2.2.2.2.1, x2.2.2.2.2.2.2.2.1, x2.2.2.2.2.2.2.2.2.1, List.set x2.2.2.2.2.2.2.2.2.2.1 (Int.toNat x2.2.2.2.2.2.2.2.2.2.2.2) (-1 : Int), x2.2.2.2.2.2.2.2.2.2.2.1, IntKind.wrap .i64 (x2.2.2.2.2.2.2.2.2.2.2.2 + (1 : Int)))
 else none)
 else
 (some (x2.1, x2.2.1, x2.2.2.1, x2.2.2.2.1, x2.2.2.2.2.1, x2.2.2.2.2.2.1, x2.2.2.2.2.2.2.1, x2.2.2.2.2.2.2.2.1, x2.2.2.2.2.2.2.2.2.1, x2.2.2.2.2.2.2.2.2.2.1))
def ref04_Renumber.L2 (x15 : A25) (rec16 : (A25) → Option (A32)) : Option (A32) :=
 bif decide (x15.2.2.2.2.2.2.2.2.2.2.2.2.2.2.2.2.2.2.2.2.2.2 < x15.2.2.2.2.2.2.2.2.2.2.2.2.2.2.2.2.2.2.2.2.2.1) then
 ((nth? x15.2.2.2.2.2.2.2.2.2.2.2.2.2.2.2.2.2.2.2.2.1 x15.2.2.2.2.2.2.2.2.2.2.2.2.2.2.2.2.2.2.2.2.2.2).bind fun e17 =>
 bif decide (0 ≤ e17) && decide (e17 < ((List.length x15.2.2.2.2.2.2.2.2.2.2.1 : Nat) : Int)) then
 (at? x15.2.2.2.2.2.2.2.2.2.2.1 (Int.toNat e17)).bind fun e18 =>
 bif decide (List.length x15.2.2.2.2.2.2.2.2.2.2.2.2.2.1 + List.length ([e18] : List Int) ≤ maxRows) then
 rec16 (x15.1, x15.2.1, x15.2.2.1, x15.2.2.2.1, x15.2.2.2.2.1, x15.2.2.2.2.2.1, x15.2.2.2.2.2.2.1, x15.2.2.2.2.2.2.2.1, x15.2.2.2.2.2.2.2.2.1, x15.2.2.2.2.2.2.2.2.2.1, x15.2.2.2.2.2.2.2.2.2.2.1, x15.2.2.2.2.2.2.2.2.2.2.2.1, x15.2.2.2.2.2.2.2.2.2.2.2.2.1, List.append x15.2.2.2.2.2.2.2.2.2.2.2.2.2.1 ([e18] : List Int), x15.2.2.2.2.2.2.2.2.2.2.2.2.2.2.1, x15.2.2.2.2.2.2.2.2.2.2.2.2.2.2.2.1, x15.2.2.2.2.2.2.2.2.2.2.2.2.2.2.2.2.1, x15.2.2.2.2.2.2.2.2.2.2.2.2.2.2.2.2.2.1, x15.2.2.2.2.2.2.2.2.2.2.2.2.2.2.2.2.2.2.1, x15.2.2.2.2.2.2.2.2.2.2.2.2.2.2.2.2.2.2.2.1, x15.2.2.2.2.2.2.2.2.2.2.2.2.2.2.2.2.2.2.2.2.1, x15.2.2.2.2.2.2.2.2.2.2.2.2.2.2.2.2.2.2.2.2.2.1, IntKind.wrap .i64 (x15.2.2.2.2.2.2.2.2.2.2.2.2.2.2.2.2.2.2.2.2.2.2 + (1 : Int)))
 else none
 else none)
 else
 (some (x15.1, x15.2.1, x15.2.2.1, x15.2.2.2.1, x15.2.2.2.2.1, x15.2.2.2.2.2.1, x15.2.2.2.2.2.2.1, x15.2.2.2.2.2.2.2.1, x15.2.2.2.2.2.2.2.2.1, x15.2.2.2.2.2.2.2.2.2.1, x15.2.2.2.2.2.2.2.2.2.2.1, x15.2.2.2.2.2.2.2.2.2.2.2.1, x15.2.2.2.2.2.2.2.2.2.2.2.2.1, x15.2.2.2.2.2.2.2.2.2.2.2.2.2.1, x15.2.2.2.2.2.2.2.2.2.2.2.2.2.2.1, x15.2.2.2.2.2.2.2.2.2.2.2.2.2.2.2.1, x15.2.2.2.2.2.2.2.2.2.2.2.2.2.2.2.2.1, x15.2.2.2.2.2.2.2.2.2.2.2.2.2.2.2.2.2.1, x15.2.2.2.2.2.2.2.2.2.2.2.2.2.2.2.2.2.2.1, x15.2.2.2.2.2.2.2.2.2.2.2.2.2.2.2.2.2.2.2.1))
def ref04_Renumber.L3 (n : Nat) (f_ref04_Table_Next : (A29) → Option Int) (x12 : A35) (rec13 : (A35) → Option (A13)) : Option (A13) :=
 bif decide (x12.2.2.2.2.2.2.2.2.2.2.2.2.2.2.2.2.2.2 < x12.2.2.2.2.2.2.2.2.2.2.2.2.2.2.2.2.2.1) then
 (bif decide (0 ≤ x12.2.2.2.2.2.2.2.2.2.2.2.2.2.2.2.2.2.2) && decide (x12.2.2.2.2.2.2.2.2.2.2.2.2.2.2.2.2.2.2 < ((List.length x12.2.2.2.2.2.2.2.2.2.2.2.2.2.2.2.2.1 : Nat) : Int)) then
 (at? x12.2.2.2.2.2.2.2.2.2.2.2.2.2.2.2.2.1 (Int.toNat x12.2.2.2.2.2.2.2.2.2.2.2.2.2.2.2.2.2.2)).bind fun e14 =>
 (loopN (ref04_Renumber.L2) n (x12.1, x12.2.1, x12.2.2.1, x12.2.2.2.1, x12.2.2.2.2.1, x12.2.2.2.2.2.1, x12.2.2.2.2.2.2.1, x12.2.2.2.2.2.2.2.1, x12.2.2.2.2.2.2.2.2.1, x12.2.2.2.2.2.2.2.2.2.1, x12.2.2.2.2.2.2.2.2.2.2.1, x12.2.2.2.2.2.2.2.2.2.2.2.1, x12.2.2.2.2.2.2.2.2.2.2.2.2.1, ([] : List Int), x12.2.2.2.2.2.2.2.2.2.2.2.2.2.1, x12.2.2.2.2.2.2.2.2.2.2.2.2.2.2.1, x12.2.2.2.2.2.2.2.2.2.2.2.2.2.2.2.1, x12.2.2.2.2.2.2.2.2.2.2.2.2.2.2.2.2.1, x12.2.2.2.2.2.2.2.2.2.2.2.2.2.2.2.2.2.1, x12.2.2.2.2.2.2.2.2.2.2.2.2.2.2.2.2.2.2, e14, ((List.length e14 : Nat) : Int), (0 : Int))).bind fun x19 =>
 (f_ref04_Table_Next (x19.2.2.2.2.2.2.2.1, x19.2.2.2.2.2.2.2.2.1, x19.2.2.2.2.2.2.2.2.2.2.2.2.1, x19.2.2.2.2.2.2.2.2.2.2.2.2.2.1)).bind fun r20 =>
 (bif decide ((0 : Int) ≤ r20) then
 (bif decide (0 ≤ r20) && decide (r20 < ((List.length x19.2.2.2.2.2.2.2.2.2.1 : Nat) : Int)) then
 (at? x19.2.2.2.2.2.2.2.2.2.1 (Int.toNat r20)).bind fun e21 =>
 some (x19.1, x19.2.1, x19.2.2.1, x19.2.2.2.1, x19.2.2.2.2.1, x19.2.2.2.2.2.1, x19.2.2.2.2.2.2.1, x19.2.2.2.2.2.2.2.1, x19.2.2.2.2.2.2.2.2.1, x19.2.2.2.2.2.2.2.2.2.1, x19.2.2.2.2.2.2.2.2.2.2.1, x19.2.2.2.2.2.2.2.2.2.2.2.1, x19.2.2.2.2.2.2.2.2.2.2.2.2.1, r20, x19.2.2.2.2.2.2.2.2.2.2.2.2.2.2.1, x19.2.2.2.2.2.2.2.2.2.2.2.2.2.2.2.1, x19.2.2.2.2.2.2.2.2.2.2.2.2.2.2.2.2.1, x19.2.2.2.2.2.2.2.2.2.2.2.2.2.2.2.2.2.1, x19.2.2.2.2.2.2.2.2.2.2.2.2.2.2.2.2.2.2.1, x19.2.2.2.2.2.2.2.2.2.2.2.2.2.2.2.2.2.2.2, decide (e21 < (0 : Int)))
 else none)
 else
 (some (x19.1, x19.2.1, x19.2.2.1, x19.2.2.2.1, x19.2.2.2.2.1, x19.2.2.2.2.2.1, x19.2.2.2.2.2.2.1, x19.2.2.2.2.2.2.2.1, x19.2.2.2.2.2.2.2.2.1, x19.2.2.2.2.2.2.2.2.2.1, x19.2.2.2.2.2.2.2.2.2.2.1, x19.2.2.2.2.2.2.2.2.2.2.2.1, x19.2.2.2.2.2.2.2.2.2.2.2.2.1, r20, x19.2.2.2.2.2.2.2.2.2.2.2.2.2.2.1, x19.2.2.2.2.2.2.2.2.2.2.2.2.2.2.2.1, x19.2.2.2.2.2.2.2.2.2.2.2.2.2.2.2.2.1, x19.2.2.2.2.2.2.2.2.2.2.2.2.2.2.2.2.2.1, x19.2.2.2.2.2.2.2.2.2.2.2.2.2.2.2.2.2.2.1, x19.2.2.2.2.2.2.2.2.2.2.2.2.2.2.2.2.2.2.2, false))).bind fun x22 =>
 (bif x22.2.2.2.2.2.2.2.2.2.2.2.2.2.2.2.2.2.2.2.2 then
 (bif decide (0 ≤ x22.2.2.2.2.2.2.2.2.2.2.2.2.2.1) && decide (x22.2.2.2.2.2.2.2.2.2.2.2.2.2.1 < ((List.length x22.2.2.2.2.2.2.2.2.2.1 : Nat) : Int)) then
 (at? x22.2.2.2.2.2.2.2.2.2.1 (Int.toNat x22.2.2.2.2.2.2.2.2.2.2.2.2.2.1)).bind fun e23 =>
 bif decide (List.length x22.2.2.2.2.2.2.2.2.2.2.1 + List.length ([x22.2.2.2.2.2.2.2.2.2.2.2.2.2.1] : List Int) ≤ maxRows) then
 some (x22.1, x22.2.1, x22.2.2.1, x22.2.2.2.1, x22.2.2.2.2.1, x22.2.2.2.2.2.1, x22.2.2.2.2.2.2.1, x22.2.2.2.2.2.2.2.1, x22.2.2.2.2.2.2.2.2.1, List.set x22.2.2.2.2.2.2.2.2.2.1 (Int.toNat x22.2.2.2.2.2.2.2.2.2.2.2.2.2.1) ((List.length x22.2.2.2.2.2.2.2.2.2.2.1 : Nat) : Int), List.append x22.2.2.2.2.2.2.2.2.2.2.1 ([x22.2.2.2.2.2.2.2.2.2.2.2.2.2.1] : List Int), x22.2.2.2.2.2.2.2.2.2.2.2.1, x22.2.2.2.2.2.2.2.2.2.2.2.2.1, x22.2.2.2.2.2.2.2.2.2.2.2.2.2.2.1, x22.2.2.2.2.2.2.2.2.2.2.2.2.2.2.2.1, x22.2.2.2.2.2.2.2.2.2.2.2.2.2.2.2.2.1, x22.2.2.2.2.2.2.2.2.2.2.2.2.2.2.2.2.2.1, x22.2.2.2.2.2.2.2.2.2.2.2.2.2.2.2.2.2.2.1, x22.2.2.2.2.2.2.2.2.2.2.2.2.2.2.2.2.2.2.2.1)
 else none
 else none)
 else
 (some (x22.1, x22.2.1, x22.2.2.1, x22.2.2.2.1, x22.2.2.2.2.1, x22.2.2.2.2.2.1, x22.2.2.2.2.2.2.1, x22.2.2.2.2.2.2.2.1, x22.2.2.2.2.2.2.2.2.1, x22.2.2.2.2.2.2.2.2.2.1, x22.2.2.2.2.2.2.2.2.2.2.1, x22.2.2.2.2.2.2.2.2.2.2.2.1, x22.2.2.2.2.2.2.2.2.2.2.2.2.1, x22.2.2.2.2.2.2.2.2.2.2.2.2.2.2.1, x22.2.2.2.2.2.2.2.2.2.2.2.2.2.2.2.1, x22.2.2.2.2.2.2.2.2.2.2.2.2.2.2.2.2.1, x22.2.2.2.2.2.2.2.2.2.2.2.2.2.2.2.2.2.1, x22.2.2.2.2.2.2.2.2.2.2.2.2.2.2.2.2.2.2.1, x22.2.2.2.2.2.2.2.2.2.2.2.2.2.2.2.2.2.2.2.1))).bind fun x24 =>
 rec13 (x24.1, x24.2.1, x24.2.2.1, x24.2.2.2.1, x24.2.2.2.2.1, x24.2.2.2.2.2.1, x24.2.2.2.2.2.2.1, x24.2.2.2.2.2.2.2.1, x24.2.2.2.2.2.2.2.2.1, x24.2.2.2.2.2.2.2.2.2.1, x24.2.2.2.2.2.2.2.2.2.2.1, x24.2.2.2.2.2.2.2.2.2.2.2.1, x24.2.2.2.2.2.2.2.2.2.2.2.2.1, x24.2.2.2.2.2.2.2.2.2.2.2.2.2.1, x24.2.2.2.2.2.2.2.2.2.2.2.2.2.2.1, x24.2.2.2.2.2.2.2.2.2.2.2.2.2.2.2.1, x24.2.2.2.2.2.2.2.2.2.2.2.2.2.2.2.2.1, x24.2.2.2.2.2.2.2.2.2.2.2.2.2.2.2.2.2.1, IntKind.wrap .i64 (x24.2.2.2.2.2.2.2.2.2.2.2.2.2.2.2.2.2.2 + (1 : Int)))
 else none)
 else
 (some (x12.1, x12.2.1, x12.2.2.1, x12.2.2.2.1, x12.2.2.2.2.1, x12.2.2.2.2.2.1, x12.2.2.2.2.2.2.1, x12.2.2.2.2.2.2.2.1, x12.2.2.2.2.2.2.2.2.1, x12.2.2.2.2.2.2.2.2.2.1, x12.2.2.2.2.2.2.2.2.2.2.1, x12.2.2.2.2.2.2.2.2.2.2.2.1, x12.2.2.2.2.2.2.2.2.2.2.2.2.2.1, x12.2.2.2.2.2.2.2.2.2.2.2.2.2.2.1, x12.2.2.2.2.2.2.2.2.2.2.2.2.2.2.2.1))
def ref04_Renumber.L4 (f_ref04_Lists : (A11) → Option LL) (n : Nat) (f_ref04_Table_Next : (A29) → Option Int) (x8 : A13) (rec9 : (A13) → Option (A79)) : Option (A79) :=
 bif decide (x8.2.2.2.2.2.2.2.2.2.2.2.2.2.2 < x8.2.2.2.2.2.2.2.2.2.2.2.2.2.1) then
 ((nth? x8.2.2.2.2.2.2.2.2.2.2.2.2.1 x8.2.2.2.2.2.2.2.2.2.2.2.2.2.2).bind fun e10 =>
 (f_ref04_Lists (x8.2.2.2.2.2.2.2.2.2.2.2.1, e10)).bind fun r11 =>
 (loopN (ref04_Renumber.L3 n f_ref04_Table_Next) n (x8.1, x8.2.1, x8.2.2.1, x8.2.2.2.1, x8.2.2.2.2.1, x8.2.2.2.2.2.1, x8.2.2.2.2.2.2.1, x8.2.2.2.2.2.2.2.1, x8.2.2.2.2.2.2.2.2.1, x8.2.2.2.2.2.2.2.2.2.1, x8.2.2.2.2.2.2.2.2.2.2.1, x8.2.2.2.2.2.2.2.2.2.2.2.1, x8.2.2.2.2.2.2.2.2.2.2.2.2.2.2, x8.2.2.2.2.2.2.2.2.2.2.2.2.1, x8.2.2.2.2.2.2.2.2.2.2.2.2.2.1, x8.2.2.2.2.2.2.2.2.2.2.2.2.2.2, r11, ((List.length r11 : Nat) : Int), (0 : Int))).bind fun x25 =>
 rec9 (x25.1, x25.2.1, x25.2.2.1, x25.2.2.2.1, x25.2.2.2.2.1, x25.2.2.2.2.2.1, x25.2.2.2.2.2.2.1, x25.2.2.2.2.2.2.2.1, x25.2.2.2.2.2.2.2.2.1, x25.2.2.2.2.2.2.2.2.2.1, x25.2.2.2.2.2.2.2.2.2.2.1, x25.2.2.2.2.2.2.2.2.2.2.2.1, x25.2.2.2.2.2.2.2.2.2.2.2.2.1, x25.2.2.2.2.2.2.2.2.2.2.2.2.2.1, IntKind.wrap .i64 (x25.2.2.2.2.2.2.2.2.2.2.2.2.2.2 + (1 : Int))))
 else
 (some (x8.1, x8.2.1, x8.2.2.1, x8.2.2.2.1, x8.2.2.2.2.1, x8.2.2.2.2.2.1, x8.2.2.2.2.2.2.1, x8.2.2.2.2.2.2.2.1, x8.2.2.2.2.2.2.2.2.1, x8.2.2.2.2.2.2.2.2.2.1, x8.2.2.2.2.2.2.2.2.2.2.1, x8.2.2.2.2.2.2.2.2.2.2.2.1))
def ref04_Renumber.L5 (f_ref04_Lists : (A11) → Option LL) (n : Nat) (f_ref04_Table_Next : (A29) → Option Int) (x6 : A85) (rec7 : (A85) → Option (A107)) : Option (A107) :=
 (loopN (ref04_Renumber.L4 f_ref04_Lists n f_ref04_Table_Next) n (x6.1, x6.2.1, x6.2.2.1, x6.2.2.2.1, x6.2.2.2.2.1, x6.2.2.2.2.2.1, x6.2.2.2.2.2.2.1, x6.2.2.2.2.2.2.2.1, x6.2.2.2.2.2.2.2.2.1, x6.2.2.2.2.2.2.2.2.2.1, x6.2.2.2.2.2.2.2.2.2.2, ((List.length x6.2.2.2.2.2.2.2.2.2.2 : Nat) : Int), x6.1, ((List.length x6.1 : Nat) : Int), (0 : Int))).bind fun x26 =>
 bif decide (((List.length x26.2.2.2.2.2.2.2.2.2.2.1 : Nat) : Int) = x26.2.2.2.2.2.2.2.2.2.2.2) then
 (some (x26.2.1, x26.2.2.1, x26.2.2.2.1, x26.2.2.2.2.1, x26.2.2.2.2.2.1, x26.2.2.2.2.2.2.1, x26.2.2.2.2.2.2.2.2.2.1, x26.2.2.2.2.2.2.2.2.2.2.1))
 else
 (rec7 (x26.1, x26.2.1, x26.2.2.1, x26.2.2.2.1, x26.2.2.2.2.1, x26.2.2.2.2.2.1, x26.2.2.2.2.2.2.1, x26.2.2.2.2.2.2.2.1, x26.2.2.2.2.2.2.2.2.1, x26.2.2.2.2.2.2.2.2.2.1, x26.2.2.2.2.2.2.2.2.2.2.1))
def ref04_Renumber.L6 (f_ref03_In : (A18) → Option Bool) (x28 : A71) (rec29 : (A71) → Option (A93)) : Option (A93) :=
 bif decide (x28.2.2.2.2.2.2.2.2.2.2.2.2 < x28.2.2.2.2.2.2.2.2.2.2.2.1) then
 (bif decide (0 ≤ x28.2.2.2.2.2.2.2.2.2.2.2.2) && decide (x28.2.2.2.2.2.2.2.2.2.2.2.2 < ((List.length x28.2.2.2.2.2.2.2.1 : Nat) : Int)) then
 (at? x28.2.2.2.2.2.2.2.1 (Int.toNat x28.2.2.2.2.2.2.2.2.2.2.2.2)).bind fun e30 =>
 (f_ref03_In (x28.2.1, e30)).bind fun r31 =>
 (bif r31 then
 (bif decide (List.length x28.2.2.2.2.2.2.2.2.2.1 + List.length ([x28.2.2.2.2.2.2.2.2.2.2.2.2] : List Int) ≤ maxRows) then
 some (x28.1, x28.2.1, x28.2.2.1, x28.2.2.2.1, x28.2.2.2.2.1, x28.2.2.2.2.2.1, x28.2.2.2.2.2.2.1, x28.2.2.2.2.2.2.2.1, x28.2.2.2.2.2.2.2.2.1, List.append x28.2.2.2.2.2.2.2.2.2.1 ([x28.2.2.2.2.2.2.2.2.2.2.2.2] : List Int), x28.2.2.2.2.2.2.2.2.2.2.1, x28.2.2.2.2.2.2.2.2.2.2.2.1, x28.2.2.2.2.2.2.2.2.2.2.2.2)
 else none)
 else
 (some (x28.1, x28.2.1, x28.2.2.1, x28.2.2.2.1, x28.2.2.2.2.1, x28.2.2.2.2.2.1, x28.2.2.2.2.2.2.1, x28.2.2.2.2.2.2.2.1, x28.2.2.2.2.2.2.2.2.1, x28.2.2.2.2.2.2.2.2.2.1, x28.2.2.2.2.2.2.2.2.2.2.1, x28.2.2.2.2.2.2.2.2.2.2.2.1, x28.2.2.2.2.2.2.2.2.2.2.2.2))).bind fun x32 =>
 rec29 (x32.1, x32.2.1, x32.2.2.1, x32.2.2.2.1, x32.2.2.2.2.1, x32.2.2.2.2.2.1, x32.2.2.2.2.2.2.1, x32.2.2.2.2.2.2.2.1, x32.2.2.2.2.2.2.2.2.1, x32.2.2.2.2.2.2.2.2.2.1, x32.2.2.2.2.2.2.2.2.2.2.1, x32.2.2.2.2.2.2.2.2.2.2.2.1, IntKind.wrap .i64 (x32.2.2.2.2.2.2.2.2.2.2.2.2 + (1 : Int)))
 else none)
 else
 (some (x28.1, x28.2.1, x28.2.2.1, x28.2.2.2.1, x28.2.2.2.2.1, x28.2.2.2.2.2.1, x28.2.2.2.2.2.2.1, x28.2.2.2.2.2.2.2.2.1, x28.2.2.2.2.2.2.2.2.2.1, x28.2.2.2.2.2.2.2.2.2.2.1))
def ref04_Renumber.L7 (x38 : A53) (rec39 : (A53) → Option (A70)) : Option (A70) :=
 bif decide (x38.2.2.2.2.2.2.2.2.2.2.2.2.2.2.2 < x38.2.2.2.2.2.2.2.2.2.2.2.2.2.2.1) then
 ((nth? x38.2.2.2.2.2.2.2.2.2.2.2.2.2.1 x38.2.2.2.2.2.2.2.2.2.2.2.2.2.2.2).bind fun e40 =>
 bif decide (0 ≤ e40) && decide (e40 < ((List.length x38.2.2.2.1 : Nat) : Int)) then
 (at? x38.2.2.2.1 (Int.toNat e40)).bind fun e41 =>
 bif decide (List.length x38.2.2.2.2.2.2.2.2.1 + List.length ([e41] : List Int) ≤ maxRows) then
 rec39 (x38.1, x38.2.1, x38.2.2.1, x38.2.2.2.1, x38.2.2.2.2.1, x38.2.2.2.2.2.1, x38.2.2.2.2.2.2.1, x38.2.2.2.2.2.2.2.1, List.append x38.2.2.2.2.2.2.2.2.1 ([e41] : List Int), x38.2.2.2.2.2.2.2.2.2.1, x38.2.2.2.2.2.2.2.2.2.2.1, x38.2.2.2.2.2.2.2.2.2.2.2.1, x38.2.2.2.2.2.2.2.2.2.2.2.2.1, x38.2.2.2.2.2.2.2.2.2.2.2.2.2.1, x38.2.2.2.2.2.2.2.2.2.2.2.2.2.2.1, IntKind.wrap .i64 (x38.2.2.2.2.2.2.2.2.2.2.2.2.2.2.2 + (1 : Int)))
 else none
 else none)
 else
 (some (x38.1, x38.2.1, x38.2.2.1, x38.2.2.2.1, x38.2.2.2.2.1, x38.2.2.2.2.2.1, x38.2.2.2.2.2.2.1, x38.2.2.2.2.2.2.2.1, x38.2.2.2.2.2.2.2.2.1, x38.2.2.2.2.2.2.2.2.2.1, x38.2.2.2.2.2.2.2.2.2.2.1, x38.2.2.2.2.2.2.2.2.2.2.2.1, x38.2.2.2.2.2.2.2.2.2.2.2.2.1))
def ref04_Renumber.L8 (n : Nat) (x34 : A91) (rec35 : (A91) → Option (A6)) : Option (A6) :=
 bif decide (x34.2.2.2.2.2.2.2.2.2 < x34.2.2.2.2.2.2.2.2.1) then
 ((nth? x34.2.2.2.2.2.2.2.1 x34.2.2.2.2.2.2.2.2.2).bind fun e36 =>
 bif decide (0 ≤ e36.2.2) && decide (e36.2.2 < ((List.length x34.2.2.2.1 : Nat) : Int)) then
 (at? x34.2.2.2.1 (Int.toNat e36.2.2)).bind fun e37 =>
 (loopN (ref04_Renumber.L7) n (x34.1, x34.2.1, x34.2.2.1, x34.2.2.2.1, x34.2.2.2.2.1, x34.2.2.2.2.2.1, x34.2.2.2.2.2.2.1, e36.1, ([] : List Int), e37, x34.2.2.2.2.2.2.2.1, x34.2.2.2.2.2.2.2.2.1, x34.2.2.2.2.2.2.2.2.2, e36.2.1, ((List.length e36.2.1 : Nat) : Int), (0 : Int))).bind fun x42 =>
 bif decide (List.length x42.2.2.2.2.2.2.1 + List.length ([(x42.2.2.2.2.2.2.2.1, x42.2.2.2.2.2.2.2.2.1, x42.2.2.2.2.2.2.2.2.2.1)] : List Ru) ≤ maxRows) then
 rec35 (x42.1, x42.2.1, x42.2.2.1, x42.2.2.2.1, x42.2.2.2.2.1, x42.2.2.2.2.2.1, List.append x42.2.2.2.2.2.2.1 ([(x42.2.2.2.2.2.2.2.1, x42.2.2.2.2.2.2.2.2.1, x42.2.2.2.2.2.2.2.2.2.1)] : List Ru), x42.2.2.2.2.2.2.2.2.2.2.1, x42.2.2.2.2.2.2.2.2.2.2.2.1, IntKind.wrap .i64 (x42.2.2.2.2.2.2.2.2.2.2.2.2 + (1 : Int)))
 else none
 else none)
 else
 (some (x34.1, x34.2.1, x34.2.2.1, x34.2.2.2.2.1, x34.2.2.2.2.2.1, x34.2.2.2.2.2.2.1))
def ref04_Renumber.P (f_ref03_In : (A18) → Option Bool) (f_ref03_Sort : List Ru → Option LR) (f_ref04_Lists : (A11) → Option LL) (f_ref04_Make : (A2) → Option (Int × LL)) (f_ref04_Table_Next : (A29) → Option Int) (n : Nat) (x : A2) : Option (A3) :=
 (f_ref04_Make (x.1, x.2.1, x.2.2.1, x.2.2.2)).bind fun r1 =>
 bif decide (0 ≤ x.2.1) && decide (x.2.1 ≤ x.2.1) && decide (x.2.1 ≤ ((maxRows : Nat) : Int)) then
 (loopN (ref04_Renumber.L1) n (x.1, x.2.1, x.2.2.1, x.2.2.2, (0 : Int), ([] : List Int), ([] : List Ru), r1.1, r1.2, List.replicate (Int.toNat x.2.1) ((0 : Int) : Int), ((List.length (List.replicate (Int.toNat x.2.1) ((0 : Int) : Int)) : Nat) : Int), (0 : Int))).bind fun x5 =>
 (loopN (ref04_Renumber.L5 f_ref04_Lists n f_ref04_Table_Next) n (x5.1, x5.2.1, x5.2.2.1, x5.2.2.2.1, x5.2.2.2.2.1, x5.2.2.2.2.2.1, x5.2.2.2.2.2.2.1, x5.2.2.2.2.2.2.2.1, x5.2.2.2.2.2.2.2.2.1, x5.2.2.2.2.2.2.2.2.2, ([] : List Int))).bind fun x27 =>
 (loopN (ref04_Renumber.L6 f_ref03_In) n (x27.1, x27.2.1, x27.2.2.1, x27.2.2.2.1, x27.2.2.2.2.1, x27.2.2.2.2.2.1, x27.2.2.2.2.2.2.1, x27.2.2.2.2.2.2.2, ((List.length x27.2.2.2.2.2.2.2 : Nat) : Int), ([] : List Int), ([] : List Ru), ((List.length x27.2.2.2.2.2.2.2 : Nat) : Int), (0 : Int))).bind fun x33 =>
 (loopN (ref04_Renumber.L8 n) n (x33.2.2.2.1, x33.2.2.2.2.1, x33.2.2.2.2.2.1, x33.2.2.2.2.2.2.1, x33.2.2.2.2.2.2.2.1, x33.2.2.2.2.2.2.2.2.1, x33.2.2.2.2.2.2.2.2.2, x33.2.2.1, ((List.length x33.2.2.1 : Nat) : Int), (0 : Int))).bind fun x43 =>
 (f_ref03_Sort x43.2.2.2.2.2).bind fun r44 =>
 some (x43.2.2.2.1, x43.2.2.2.2.1, r44)
 else none
def ref04_Minimal.L1 (x7 : A10) (rec8 : (A10) → Option (A30)) : Option (A30) :=
 bif decide (x7.2.2.2.2.2.2.2.2.2.2.2.2 < x7.2.2.2.2.2.2.2.2.2.2.2.1) then
 (bif decide (0 ≤ x7.2.2.2.2.2.2.2.2.2.2.2.2) && decide (x7.2.2.2.2.2.2.2.2.2.2.2.2 < ((List.length x7.2.2.2.2.2.2.2.1 : Nat) : Int)) then
 (at? x7.2.2.2.2.2.2.2.1 (Int.toNat x7.2.2.2.2.2.2.2.2.2.2.2.2)).bind fun e9 =>
 rec8 (x7.1, x7.2.1, x7.2.2.1, x7.2.2.2.1, x7.2.2.2.2.1, x7.2.2.2.2.2.1, x7.2.2.2.2.2.2.1, x7.2.2.2.2.2.2.2.1, max x7.2.2.2.2.2.2.2.2.1 (IntKind.wrap .i64 (e9 + (1 : Int))), x7.2.2.2.2.2.2.2.2.2.1, x7.2.2.2.2.2.2.2.2.2.2.1, x7.2.2.2.2.2.2.2.2.2.2.2.1, IntKind.wrap .i64 (x7.2.2.2.2.2.2.2.2.2.2.2.2 + (1 : Int)))
 else none)
 else
 (some (x7.1, x7.2.1, x7.2.2.1, x7.2.2.2.1, x7.2.2.2.2.1, x7.2.2.2.2.2.1, x7.2.2.2.2.2.2.1, x7.2.2.2.2.2.2.2.1, x7.2.2.2.2.2.2.2.2.1, x7.2.2.2.2.2.2.2.2.2.1, x7.2.2.2.2.2.2.2.2.2.2.1))
def ref04_Minimal.L2 (f_ref03_In : (A18) → Option Bool) (f_ref03_Insert : (A18) → Option LI) (x11 : A10) (rec12 : (A10) → Option (A30)) : Option (A30) :=
 bif decide (x11.2.2.2.2.2.2.2.2.2.2.2.2 < x11.2.2.2.2.2.2.2.2.2.2.2.1) then
 (bif decide (0 ≤ x11.2.2.2.2.2.2.2.2.2.2.2.2) && decide (x11.2.2.2.2.2.2.2.2.2.2.2.2 < ((List.length x11.2.2.2.2.2.2.2.1 : Nat) : Int)) then
 (at? x11.2.2.2.2.2.2.2.1 (Int.toNat x11.2.2.2.2.2.2.2.2.2.2.2.2)).bind fun e13 =>
 (f_ref03_In (x11.2.2.2.2.2.1, x11.2.2.2.2.2.2.2.2.2.2.2.2)).bind fun r14 =>
 (bif r14 then
 ((f_ref03_Insert (x11.2.2.2.2.2.2.2.2.2.1, e13)).bind fun r15 =>
 some (x11.1, x11.2.1, x11.2.2.1, x11.2.2.2.1, x11.2.2.2.2.1, x11.2.2.2.2.2.1, x11.2.2.2.2.2.2.1, x11.2.2.2.2.2.2.2.1, x11.2.2.2.2.2.2.2.2.1, r15, x11.2.2.2.2.2.2.2.2.2.2.1, x11.2.2.2.2.2.2.2.2.2.2.2.1, x11.2.2.2.2.2.2.2.2.2.2.2.2))
 else
 (some (x11.1, x11.2.1, x11.2.2.1, x11.2.2.2.1, x11.2.2.2.2.1, x11.2.2.2.2.2.1, x11.2.2.2.2.2.2.1, x11.2.2.2.2.2.2.2.1, x11.2.2.2.2.2.2.2.2.1, x11.2.2.2.2.2.2.2.2.2.1, x11.2.2.2.2.2.2.2.2.2.2.1, x11.2.2.2.2.2.2.2.2.2.2.2.1, x11.2.2.2.2.2.2.2.2.2.2.2.2))).bind fun x16 =>
 rec12 (x16.1, x16.2.1, x16.2.2.1, x16.2.2.2.1, x16.2.2.2.2.1, x16.2.2.2.2.2.1, x16.2.2.2.2.2.2.1, x16.2.2.2.2.2.2.2.1, x16.2.2.2.2.2.2.2.2.1, x16.2.2.2.2.2.2.2.2.2.1, x16.2.2.2.2.2.2.2.2.2.2.1, x16.2.2.2.2.2.2.2.2.2.2.2.1, IntKind.wrap .i64 (x16.2.2.2.2.2.2.2.2.2.2.2.2 + (1 : Int)))
 else none)
 else
 (some (x11.1, x11.2.1, x11.2.2.1, x11.2.2.2.1, x11.2.2.2.2.1, x11.2.2.2.2.2.1, x11.2.2.2.2.2.2.1, x11.2.2.2.2.2.2.2.1, x11.2.2.2.2.2.2.2.2.1, x11.2.2.2.2.2.2.2.2.2.1, x11.2.2.2.2.2.2.2.2.2.2.1))
def ref04_Minimal.L3 (x22 : A36) (rec23 : (A36) → Option (A54)) : Option (A54) :=
 bif decide (x22.2.2.2.2.2.2.2.2.2.2.2.2.2.2.2.2.2.2 < x22.2.2.2.2.2.2.2.2.2.2.2.2.2.2.2.2.2.1) then
 ((nth? x22.2.2.2.2.2.2.2.2.2.2.2.2.2.2.2.2.1 x22.2.2.2.2.2.2.2.2.2.2.2.2.2.2.2.2.2.2).bind fun e24 =>
 bif decide (0 ≤ e24) && decide (e24 < ((List.length x22.2.2.2.2.2.2.2.1 : Nat) : Int)) then
 (at? x22.2.2.2.2.2.2.2.1 (Int.toNat e24)).bind fun e25 =>
 bif decide (List.length x22.2.2.2.2.2.2.2.2.2.2.2.2.1 + List.length ([e25] : List Int) ≤ maxRows) then
 rec23 (x22.1, x22.2.1, x22.2.2.1, x22.2.2.2.1, x22.2.2.2.2.1, x22.2.2.2.2.2.1, x22.2.2.2.2.2.2.1, x22.2.2.2.2.2.2.2.1, x22.2.2.2.2.2.2.2.2.1, x22.2.2.2.2.2.2.2.2.2.1, x22.2.2.2.2.2.2.2.2.2.2.1, x22.2.2.2.2.2.2.2.2.2.2.2.1, List.append x22.2.2.2.2.2.2.2.2.2.2.2.2.1 ([e25] : List Int), x22.2.2.2.2.2.2.2.2.2.2.2.2.2.1, x22.2.2.2.2.2.2.2.2.2.2.2.2.2.2.1, x22.2.2.2.2.2.2.2.2.2.2.2.2.2.2.2.1, x22.2.2.2.2.2.2.2.2.2.2.2.2.2.2.2.2.1, x22.2.2.2.2.2.2.2.2.2.2.2.2.2.2.2.2.2.1, IntKind.wrap .i64 (x22.2.2.2.2.2.2.2.2.2.2.2.2.2.2.2.2.2.2 + (1 : Int)))
 else none
 else none)
 else
 (some (x22.1, x22.2.1, x22.2.2.1, x22.2.2.2.1, x22.2.2.2.2.1, x22.2.2.2.2.2.1, x22.2.2.2.2.2.2.1, x22.2.2.2.2.2.2.2.1, x22.2.2.2.2.2.2.2.2.1, x22.2.2.2.2.2.2.2.2.2.1, x22.2.2.2.2.2.2.2.2.2.2.1, x22.2.2.2.2.2.2.2.2.2.2.2.1, x22.2.2.2.2.2.2.2.2.2.2.2.2.1, x22.2.2.2.2.2.2.2.2.2.2.2.2.2.1, x22.2.2.2.2.2.2.2.2.2.2.2.2.2.2.1, x22.2.2.2.2.2.2.2.2.2.2.2.2.2.2.2.1))
def ref04_Minimal.L4 (n : Nat) (x18 : A10) (rec19 : (A10) → Option (A9)) : Option (A9) :=
 bif decide (x18.2.2.2.2.2.2.2.2.2.2.2.2 < x18.2.2.2.2.2.2.2.2.2.2.2.1) then
 ((nth? x18.2.2.2.2.2.2.1 x18.2.2.2.2.2.2.2.2.2.2.2.2).bind fun e20 =>
 bif decide (0 ≤ e20.2.2) && decide (e20.2.2 < ((List.length x18.2.2.2.2.2.2.2.1 : Nat) : Int)) then
 (at? x18.2.2.2.2.2.2.2.1 (Int.toNat e20.2.2)).bind fun e21 =>
 (loopN (ref04_Minimal.L3) n (x18.1, x18.2.1, x18.2.2.1, x18.2.2.2.1, x18.2.2.2.2.1, x18.2.2.2.2.2.1, x18.2.2.2.2.2.2.1, x18.2.2.2.2.2.2.2.1, x18.2.2.2.2.2.2.2.2.1, x18.2.2.2.2.2.2.2.2.2.1, x18.2.2.2.2.2.2.2.2.2.2.1, e20.1, ([] : List Int), e21, x18.2.2.2.2.2.2.2.2.2.2.2.1, x18.2.2.2.2.2.2.2.2.2.2.2.2, e20.2.1, ((List.length e20.2.1 : Nat) : Int), (0 : Int))).bind fun x26 =>
 bif decide (List.length x26.2.2.2.2.2.2.2.2.2.2.1 + List.length ([(x26.2.2.2.2.2.2.2.2.2.2.2.1, x26.2.2.2.2.2.2.2.2.2.2.2.2.1, x26.2.2.2.2.2.2.2.2.2.2.2.2.2.1)] : List Ru) ≤ maxRows) then
 rec19 (x26.1, x26.2.1, x26.2.2.1, x26.2.2.2.1, x26.2.2.2.2.1, x26.2.2.2.2.2.1, x26.2.2.2.2.2.2.1, x26.2.2.2.2.2.2.2.1, x26.2.2.2.2.2.2.2.2.1, x26.2.2.2.2.2.2.2.2.2.1, List.append x26.2.2.2.2.2.2.2.2.2.2.1 ([(x26.2.2.2.2.2.2.2.2.2.2.2.1, x26.2.2.2.2.2.2.2.2.2.2.2.2.1, x26.2.2.2.2.2.2.2.2.2.2.2.2.2.1)] : List Ru), x26.2.2.2.2.2.2.2.2.2.2.2.2.2.2.1, IntKind.wrap .i64 (x26.2.2.2.2.2.2.2.2.2.2.2.2.2.2.2 + (1 : Int)))
 else none
 else none)
 else
 (some (x18.1, x18.2.1, x18.2.2.1, x18.2.2.2.1, x18.2.2.2.2.2.2.2.2.1, x18.2.2.2.2.2.2.2.2.2.1, x18.2.2.2.2.2.2.2.2.2.2.1))
def ref04_Minimal.P (f_ref03_In : (A18) → Option Bool) (f_ref03_Insert : (A18) → Option LI) (f_ref03_Trimmed : (A3) → Option (A3)) (f_ref04_Filled : (A2) → Option (A3)) (f_ref04_Over : (A18) → Option Bool) (f_ref04_Renumber : (A2) → Option (A3)) (f_ref04_Subset : (A2) → Option (A110)) (f_ref04_classes : (A2) → Option LI) (n : Nat) (x : A2) : Option (A118) :=
 (f_ref03_Trimmed (x.2.1, x.2.2.1, x.2.2.2)).bind fun r1 =>
 (f_ref04_Subset (x.1, r1.1, r1.2.1, r1.2.2)).bind fun r2 =>
 (bif !decide (r2.2.2.2.2 = (0 : Int)) then
 (some (x.1, (0 : Int), ([] : List Int), ([] : List Ru), r2.1, r2.2.1, r2.2.2.1, true))
 else
 ((f_ref04_Over (x.1, IntKind.wrap .i64 (r2.1 + (1 : Int)))).bind fun r3 =>
 some (x.1, (0 : Int), ([] : List Int), ([] : List Ru), r2.1, r2.2.1, r2.2.2.1, r3))).bind fun x4 =>
 bif x4.2.2.2.2.2.2.2 then
 (some ((0 : Int), ([] : List Int), ([] : List Ru), false))
 else
 ((f_ref04_Filled (x4.1, x4.2.2.2.2.1, x4.2.2.2.2.2.1, x4.2.2.2.2.2.2.1)).bind fun r5 =>
 (f_ref04_classes (x4.1, r5.1, r5.2.1, r5.2.2)).bind fun r6 =>
 (loopN (ref04_Minimal.L1) n (x4.1, x4.2.1, x4.2.2.1, x4.2.2.2.1, r5.1, r5.2.1, r5.2.2, r6, (0 : Int), ([] : List Int), ([] : List Ru), ((List.length r6 : Nat) : Int), (0 : Int))).bind fun x10 =>
 (loopN (ref04_Minimal.L2 f_ref03_In f_ref03_Insert) n (x10.1, x10.2.1, x10.2.2.1, x10.2.2.2.1, x10.2.2.2.2.1, x10.2.2.2.2.2.1, x10.2.2.2.2.2.2.1, x10.2.2.2.2.2.2.2.1, x10.2.2.2.2.2.2.2.2.1, x10.2.2.2.2.2.2.2.2.2.1, x10.2.2.2.2.2.2.2.2.2.2, ((List.length x10.2.2.2.2.2.2.2.1 : Nat) : Int), (0 : Int))).bind fun x17 =>
 (loopN (ref04_Minimal.L4 n) n (x17.1, x17.2.1, x17.2.2.1, x17.2.2.2.1, x17.2.2.2.2.1, x17.2.2.2.2.2.1, x17.2.2.2.2.2.2.1, x17.2.2.2.2.2.2.2.1, x17.2.2.2.2.2.2.2.2.1, x17.2.2.2.2.2.2.2.2.2.1, x17.2.2.2.2.2.2.2.2.2.2, ((List.length x17.2.2.2.2.2.2.1 : Nat) : Int), (0 : Int))).bind fun x27 =>
 (f_ref03_Trimmed (x27.2.2.2.2.1, x27.2.2.2.2.2.1, x27.2.2.2.2.2.2)).bind fun r28 =>
 (f_ref04_Renumber (x27.1, r28.1, r28.2.1, r28.2.2)).bind fun r29 =>
 some (r29.1, r29.2.1, r29.2.2, true))
def ref03_Same.L1 (f_ref01_List : (A19) → Option Bool) (x3 : A47) (rec4 : (A47) → Option (Sum Unit Bool)) : Option (Sum Unit Bool) :=
 bif decide (x3.2.2.2.2.2 < x3.2.2.2.2.1) then
 ((nth? x3.2.2.2.1 x3.2.2.2.2.2).bind fun e5 =>
 ((nth? x3.2.2.1 x3.2.2.2.2.2).bind fun e6 =>
 bif !decide (e5.1 = e6.1) then
 (some (x3.1, x3.2.1, x3.2.2.1, x3.2.2.2.1, x3.2.2.2.2.1, x3.2.2.2.2.2, true))
 else
 ((nth? x3.2.2.1 x3.2.2.2.2.2).bind fun e7 =>
 bif !decide (e5.2.2 = e7.2.2) then
 (some (x3.1, x3.2.1, x3.2.2.1, x3.2.2.2.1, x3.2.2.2.2.1, x3.2.2.2.2.2, true))
 else
 ((nth? x3.2.2.1 x3.2.2.2.2.2).bind fun e8 =>
 (f_ref01_List (e5.2.1, e8.2.1)).bind fun r9 =>
 some (x3.1, x3.2.1, x3.2.2.1, x3.2.2.2.1, x3.2.2.2.2.1, x3.2.2.2.2.2, !r9)))).bind fun x10 =>
 bif x10.2.2.2.2.2.2 then
 ((some false).bind fun r => some (Sum.inr r))
 else
 (rec4 (x10.1, x10.2.1, x10.2.2.1, x10.2.2.2.1, x10.2.2.2.2.1, IntKind.wrap .i64 (x10.2.2.2.2.2.1 + (1 : Int)))))
 else
 (some (Sum.inl ()))
def ref03_Same.P (f_ref01_List : (A19) → Option Bool) (n : Nat) (x : A6) : Option Bool :=
 (bif !decide (x.1 = x.2.2.2.1) then
 (some (x.1, x.2.1, x.2.2.1, x.2.2.2.1, x.2.2.2.2.1, x.2.2.2.2.2, true))
 else
 ((f_ref01_List (x.2.1, x.2.2.2.2.1)).bind fun r1 =>
 bif !r1 then
 (some (x.1, x.2.1, x.2.2.1, x.2.2.2.1, x.2.2.2.2.1, x.2.2.2.2.2, true))
 else
 (some (x.1, x.2.1, x.2.2.1, x.2.2.2.1, x.2.2.2.2.1, x.2.2.2.2.2, !decide (((List.length x.2.2.1 : Nat) : Int) = ((List.length x.2.2.2.2.2 : Nat) : Int)))))).bind fun x2 =>
 bif x2.2.2.2.2.2.2 then
 (some false)
 else
 ((loopN (ref03_Same.L1 f_ref01_List) n (x2.2.2.2.1, x2.2.2.2.2.1, x2.2.2.2.2.2.1, x2.2.2.1, ((List.length x2.2.2.1 : Nat) : Int), (0 : Int))).bind fun q => match q with
 | Sum.inl x11 => (some true)
 | Sum.inr r => some r)
def ref04_Equal.P (f_ref03_Same : (A6) → Option Bool) (f_ref04_Minimal : (A2) → Option (A118)) (n : Nat) (x : A9) : Option (Bool × Bool) :=
 (f_ref04_Minimal (x.1, x.2.1, x.2.2.1, x.2.2.2.1)).bind fun r1 =>
 (f_ref04_Minimal (x.1, x.2.2.2.2.1, x.2.2.2.2.2.1, x.2.2.2.2.2.2)).bind fun r2 =>
 (bif r1.2.2.2 then
 (bif r2.2.2.2 then
 ((f_ref03_Same (r1.1, r1.2.1, r1.2.2.1, r2.1, r2.2.1, r2.2.2.1)).bind fun r3 =>
 bif r1.2.2.2 then
 (some (r3, r2.2.2.2))
 else
 (some (r3, false)))
 else
 (bif r1.2.2.2 then
 (some (false, r2.2.2.2))
 else
 (some (false, false))))
 else
 (bif r1.2.2.2 then
 (some (false, r2.2.2.2))
 else
 (some (false, false)))).bind fun x4 =>
 some (x4.1, x4.2)
def ref04_Alike.P (f_ref04_Equal : (A9) → Option (Bool × Bool)) (f_ref04_Light : (A20) → Option Bool) (n : Nat) (x : A9) : Option Bool :=
 (f_ref04_Light (x.1, ([(x.2.1, x.2.2.1, x.2.2.2.1), (x.2.2.2.2.1, x.2.2.2.2.2.1, x.2.2.2.2.2.2)] : List (A3)))).bind fun r1 =>
 bif !r1 then
 (some true)
 else
 ((f_ref04_Equal (x.1, x.2.1, x.2.2.1, x.2.2.2.1, x.2.2.2.2.1, x.2.2.2.2.2.1, x.2.2.2.2.2.2)).bind fun r2 =>
 (bif r2.1 then
 (some true)
 else
 (some (!r2.2))).bind fun x3 =>
 some x3)
def law05_BooleanRelabels.P (f_boolean_Relabel : (A65) → Option (A121)) (f_law05_awake : Unit → Option Bool) (f_law05_few : (A26) → Option Bool) (f_law05_valid : (A20) → Option Bool) (f_ref01_Valid : (A7) → Option Bool) (f_ref01_ValidAlphabet : List Int → Option Bool) (f_ref03_Has : (A8) → Option Bool) (f_ref04_Alike : (A9) → Option Bool) (f_ref05_Map : (A7) → Option (A97)) (f_ref05_Mapped : (A81) → Option Int) (f_ref05_Relabel : (A2) → Option (A3)) (n : Nat) (x : A37) : Option Bool :=
 ((f_law05_few (x.1, x.2.2.2.2.2.2.1, x.2.2.2.2.2.2.2, ([(x.2.2.2.1, x.2.2.2.2.1, x.2.2.2.2.2.1)] : List (A3)))).bind fun r1 =>
 bif !r1 then
 (some (x.2.2.1, x.1, x.2.1, x.2.2.2.1, x.2.2.2.2.1, x.2.2.2.2.2.1, x.2.2.2.2.2.2.1, x.2.2.2.2.2.2.2, true))
 else
 (bif decide ((40 : Int) < ((List.length x.2.1 : Nat) : Int)) then
 (some (x.2.2.1, x.1, x.2.1, x.2.2.2.1, x.2.2.2.2.1, x.2.2.2.2.2.1, x.2.2.2.2.2.2.1, x.2.2.2.2.2.2.2, true))
 else
 (some (x.2.2.1, x.1, x.2.1, x.2.2.2.1, x.2.2.2.2.1, x.2.2.2.2.2.1, x.2.2.2.2.2.2.1, x.2.2.2.2.2.2.2, decide ((40 : Int) < ((List.length x.2.2.1 : Nat) : Int)))))).bind fun x2 =>
 bif x2.2.2.2.2.2.2.2.2 then
 ((f_law05_awake ()).bind fun r3 =>
 some r3)
 else
 ((f_boolean_Relabel (x2.2.1, x2.2.2.1, x2.1, x2.2.2.2.1, x2.2.2.2.2.1, x2.2.2.2.2.2.1)).bind fun r4 =>
 ((f_law05_valid (x2.2.1, ([(x2.2.2.2.1, x2.2.2.2.2.1, x2.2.2.2.2.2.1)] : List (A3)))).bind fun r5 =>
 bif !r5 then
 (some (x2.1, x2.2.1, x2.2.2.1, x2.2.2.2.1, x2.2.2.2.2.1, x2.2.2.2.2.2.1, x2.2.2.2.2.2.2.1, x2.2.2.2.2.2.2.2.1, r4.1, r4.2.1, r4.2.2.1, r4.2.2.2, true))
 else
 ((f_ref01_ValidAlphabet x2.2.2.1).bind fun r6 =>
 some (x2.1, x2.2.1, x2.2.2.1, x2.2.2.2.1, x2.2.2.2.2.1, x2.2.2.2.2.2.1, x2.2.2.2.2.2.2.1, x2.2.2.2.2.2.2.2.1, r4.1, r4.2.1, r4.2.2.1, r4.2.2.2, !r6))).bind fun x7 =>
 bif x7.2.2.2.2.2.2.2.2.2.2.2.2 then
 ((bif decide (x7.2.2.2.2.2.2.2.2.2.2.2.1 = (1 : Int)) then
 ((f_law05_awake ()).bind fun r8 =>
 some r8)
 else
 (some false)).bind fun x9 =>
 some x9)
 else
 ((f_ref05_Mapped (x7.2.1, x7.2.2.1, x7.1)).bind fun r10 =>
 bif !decide (r10 = (0 : Int)) then
 ((bif decide (x7.2.2.2.2.2.2.2.2.2.2.2.1 = r10) then
 ((f_law05_awake ()).bind fun r11 =>
 some r11)
 else
 (some false)).bind fun x12 =>
 some x12)
 else
 ((bif !decide (x7.2.2.2.2.2.2.2.2.2.2.2.1 = (0 : Int)) then
 (some (x7.1, x7.2.1, x7.2.2.1, x7.2.2.2.1, x7.2.2.2.2.1, x7.2.2.2.2.2.1, x7.2.2.2.2.2.2.1, x7.2.2.2.2.2.2.2.1, x7.2.2.2.2.2.2.2.2.1, x7.2.2.2.2.2.2.2.2.2.1, x7.2.2.2.2.2.2.2.2.2.2.1, true))
 else
 ((f_law05_valid (x7.2.2.1, ([(x7.2.2.2.2.2.2.2.2.1, x7.2.2.2.2.2.2.2.2.2.1, x7.2.2.2.2.2.2.2.2.2.2.1)] : List (A3)))).bind fun r13 =>
 some (x7.1, x7.2.1, x7.2.2.1, x7.2.2.2.1, x7.2.2.2.2.1, x7.2.2.2.2.2.1, x7.2.2.2.2.2.2.1, x7.2.2.2.2.2.2.2.1, x7.2.2.2.2.2.2.2.2.1, x7.2.2.2.2.2.2.2.2.2.1, x7.2.2.2.2.2.2.2.2.2.2.1, !r13))).bind fun x14 =>
 bif x14.2.2.2.2.2.2.2.2.2.2.2 then
 (some false)
 else
 (((f_ref01_Valid (x14.2.1, x14.2.2.2.2.2.2.1, x14.2.2.2.2.2.2.2.1)).bind fun r15 =>
 bif r15 then
 ((f_ref03_Has (x14.2.2.2.1, x14.2.2.2.2.1, x14.2.2.2.2.2.1, x14.2.2.2.2.2.2.1, x14.2.2.2.2.2.2.2.1)).bind fun r16 =>
 bif r16 then
 ((f_ref05_Map (x14.1, x14.2.2.2.2.2.2.1, x14.2.2.2.2.2.2.2.1)).bind fun r17 =>
 (f_ref03_Has (x14.2.2.2.2.2.2.2.2.1, x14.2.2.2.2.2.2.2.2.2.1, x14.2.2.2.2.2.2.2.2.2.2.1, r17.1, r17.2)).bind fun r18 =>
 some (x14.1, x14.2.2.1, x14.2.2.2.1, x14.2.2.2.2.1, x14.2.2.2.2.2.1, x14.2.2.2.2.2.2.2.2.1, x14.2.2.2.2.2.2.2.2.2.1, x14.2.2.2.2.2.2.2.2.2.2.1, !r18))
 else
 (some (x14.1, x14.2.2.1, x14.2.2.2.1, x14.2.2.2.2.1, x14.2.2.2.2.2.1, x14.2.2.2.2.2.2.2.2.1, x14.2.2.2.2.2.2.2.2.2.1, x14.2.2.2.2.2.2.2.2.2.2.1, false)))
 else
 (some (x14.1, x14.2.2.1, x14.2.2.2.1, x14.2.2.2.2.1, x14.2.2.2.2.2.1, x14.2.2.2.2.2.2.2.2.1, x14.2.2.2.2.2.2.2.2.2.1, x14.2.2.2.2.2.2.2.2.2.2.1, false))).bind fun x19 =>
 bif x19.2.2.2.2.2.2.2.2 then
 (some false)
 else
 (((f_ref05_Relabel (x19.1, x19.2.2.1, x19.2.2.2.1, x19.2.2.2.2.1)).bind fun r20 =>
 (f_ref04_Alike (x19.2.1, x19.2.2.2.2.2.1, x19.2.2.2.2.2.2.1, x19.2.2.2.2.2.2.2.1, r20.1, r20.2.1, r20.2.2)).bind fun r21 =>
 bif r21 then
 ((f_law05_awake ()).bind fun r22 =>
 some r22)
 else
 (some false)).bind fun x23 =>
 some x23)))))
end Go.Bk
end
