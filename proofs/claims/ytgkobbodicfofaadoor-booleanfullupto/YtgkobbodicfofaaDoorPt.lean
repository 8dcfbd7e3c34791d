import Derived.Test.YtgkobbodicfofaaDoorMd
import Derived.Test.YtgkobbodicfofaaDoorProg
import Derived.KernelRfl
noncomputable section
namespace Go.Proofs.YtgkobbodicfofaaDoor.Am
open Go Go.AM
/-- slices.Clone at a list of ints -/
noncomputable def cloneX (x : List Int) : Option (List Int) := bif decide (List.length x ≤ maxRows) then some x else none
end Go.Proofs.YtgkobbodicfofaaDoor.Am
end
noncomputable section
namespace Go.Proofs.YtgkobbodicfofaaDoor.Am
open Go Go.AM
set_option maxRecDepth 100000
set_option linter.unusedVariables false
noncomputable def tyTab : List (Nat × TyI) := [(2, ⟨false, [.int .i64], [], [], none⟩),
  (3, ⟨false, [.int .i64], [], [], none⟩),
  (4, ⟨false, [.bool], [], [], none⟩),
  (5, ⟨false, [.int .u8], [], [], none⟩),
  (6, ⟨false, [.int .u8], [], [], none⟩),
  (7, ⟨true, [.int .i64, .int .i64, .bool, .int .u8], [(0, 1), (1, 1), (2, 1), (3, 1)], [2, 3, 4, 6], none⟩),
  (8, ⟨true, [.int .i64, .int .i64, .bool, .int .u8], [(0, 1), (1, 1), (2, 1), (3, 1)], [2, 3, 4, 6], none⟩),
  (9, ⟨false, [.str], [], [], none⟩),
  (10, ⟨false, [.str], [], [], none⟩),
  (11, ⟨false, [.str], [], [], none⟩),
  (12, ⟨false, [.int .u64], [], [], none⟩),
  (13, ⟨true, [.str, .int .u64], [(0, 1), (1, 1)], [9, 12], none⟩),
  (14, ⟨true, [.str, .int .u64], [(0, 1), (1, 1)], [9, 12], none⟩),
  (21, ⟨false, [.int .i32], [], [], none⟩),
  (22, ⟨false, [.sl [.int .i64]], [], [], (some 3)⟩),
  (23, ⟨true, [.sl [.int .i64]], [(0, 1)], [22], none⟩),
  (24, ⟨true, [.sl [.int .i64]], [(0, 1)], [22], none⟩),
  (25, ⟨false, [.sl [.int .i64, .sl [.int .i64], .int .i64]], [], [], (some 66)⟩),
  (26, ⟨true, [.int .i64, .sl [.int .i64], .sl [.int .i64, .sl [.int .i64], .int .i64]], [(0, 1), (1, 1), (2, 1)], [3, 22, 25], none⟩),
  (27, ⟨true, [.int .i64, .sl [.int .i64], .sl [.int .i64, .sl [.int .i64], .int .i64]], [(0, 1), (1, 1), (2, 1)], [3, 22, 25], none⟩),
  (28, ⟨false, [.rsl [.int .i64]], [], [], (some 30)⟩),
  (29, ⟨true, [.int .i64, .rsl [.int .i64]], [(0, 1), (1, 1)], [3, 28], none⟩),
  (30, ⟨true, [.int .i64, .rsl [.int .i64]], [(0, 1), (1, 1)], [3, 28], none⟩),
  (33, ⟨false, [.int .i64], [], [], none⟩),
  (55, ⟨false, [.sl [.int .i64, .sl [.int .i64], .sl [.int .i64, .sl [.int .i64], .int .i64]]], [], [], (some 27)⟩),
  (63, ⟨false, [.sl [.bool]], [], [], (some 4)⟩),
  (65, ⟨true, [.int .i64, .sl [.int .i64], .int .i64], [(0, 1), (1, 1), (2, 1)], [3, 22, 3], none⟩),
  (66, ⟨true, [.int .i64, .sl [.int .i64], .int .i64], [(0, 1), (1, 1), (2, 1)], [3, 22, 3], none⟩),
  (69, ⟨false, [.sl [.sl [.int .i64]]], [], [], (some 22)⟩),
  (81, ⟨false, [.int .u64], [], [], none⟩),
  (96, ⟨false, [.int .u32], [], [], none⟩),
  (99, ⟨false, [.int .u64], [], [], none⟩),
  (119, ⟨true, [.int .i64, .sl [.sl [.int .i64]]], [(0, 1), (1, 1)], [3, 69], none⟩),
  (120, ⟨true, [.int .i64, .sl [.sl [.int .i64]]], [(0, 1), (1, 1)], [3, 69], none⟩),
  (126, ⟨false, [.int .i64], [], [], none⟩),
  (136, ⟨false, [.int .u64], [], [], none⟩),
  (152, ⟨false, [.int .u8], [], [], none⟩),
  (153, ⟨false, [.int .u8], [], [], none⟩),
  (156, ⟨false, [.int .i32], [], [], none⟩),
  (157, ⟨false, [.int .i32], [], [], none⟩)]
/-- boskage/boskageref03.Few -/
noncomputable def g28 : AM.Sig := ⟨28, [.val true [(.sl [.int .i64], .pure)], .val false [(.int .i64, .pure)], .val false [(.int .i64, .pure)], .val false [(.sl [.int .i64, .sl [.int .i64], .sl [.int .i64, .sl [.int .i64], .int .i64]], .pure)]], [(false, [(.bool, .pure)])]⟩
noncomputable def s28 : AM.Spec := ⟨g28, Go.Proofs.Tryd.f28, .s .o (.s (.s .o (.jr [.bx 4 [(.sl [.int .i64], .pure)], .adr 4 (.box 4) 0] (.j [.tm 1 false [(.int .i64, .pure)], .tm 2 false [(.int .i64, .pure)], .bx 4 [(.sl [.int .i64], .pure)], .adr 4 (.box 4) 0, .tm 13 false [(.sl [.int .i64, .sl [.int .i64], .sl [.int .i64, .sl [.int .i64], .int .i64]], .pure)], .tm 14 false [(.int .i64, .pure)], .tm 15 false [(.int .i64, .pure)]] (.s .o (.s (.s .o .o) (.s (.s (.s .o (.s (.s (.j [.tm 1 false [(.int .i64, .pure)], .tm 2 false [(.int .i64, .pure)], .bx 4 [(.sl [.int .i64], .pure)], .adr 4 (.box 4) 0, .bx 10 [(.int .i64, .pure), (.sl [.int .i64], .pure), (.sl [.int .i64, .sl [.int .i64], .int .i64], .pure)], .adr 10 (.box 10) 0, .tm 13 false [(.sl [.int .i64, .sl [.int .i64], .sl [.int .i64, .sl [.int .i64], .int .i64]], .pure)], .tm 14 false [(.int .i64, .pure)], .tm 15 false [(.int .i64, .pure)], .tm 41 false [(.bool, .pure)]] .o) (.s (.s .o .o) .o)) (.s .o (.jr [.tm 1 false [(.int .i64, .pure)], .tm 2 false [(.int .i64, .pure)], .bx 4 [(.sl [.int .i64], .pure)], .adr 4 (.box 4) 0, .tm 13 false [(.sl [.int .i64, .sl [.int .i64], .sl [.int .i64, .sl [.int .i64], .int .i64]], .pure)], .tm 14 false [(.int .i64, .pure)], .tm 15 false [(.int .i64, .pure)]] (.j [.tm 1 false [(.int .i64, .pure)], .tm 2 false [(.int .i64, .pure)], .bx 4 [(.sl [.int .i64], .pure)], .adr 4 (.box 4) 0, .tm 13 false [(.sl [.int .i64, .sl [.int .i64], .sl [.int .i64, .sl [.int .i64], .int .i64]], .pure)], .tm 14 false [(.int .i64, .pure)], .tm 15 false [(.int .i64, .pure)], .tm 43 false [(.sl [.int .i64, .sl [.int .i64], .int .i64], .pure)], .tm 44 false [(.int .i64, .pure)], .tm 45 false [(.int .i64, .pure)]] (.s .o (.s (.s .o .o) (.s (.s (.s .o (.s .o (.s (.s .o .o) .o))) .o) .o)))))))) .o) .o)))))) (.s .o .o)), [], none⟩
/-- boskage/boskageref01.count -/
noncomputable def g51 : AM.Sig := ⟨51, [.val true [(.int .i64, .pure), (.rsl [.int .i64], .pure)], .val false [(.int .i64, .pure)]], [(false, [(.int .i64, .pure)])]⟩
noncomputable def s51 : AM.Spec := ⟨g51, Go.Proofs.Tryd.f51, .s .o (.s .o (.s (.s .o (.j [.tm 5 false [(.int .i64, .pure)]] (.j [.tm 1 false [(.int .i64, .pure)], .tm 5 false [(.int .i64, .pure)], .tm 9 false [(.rsl [.int .i64], .pure)], .tm 10 false [(.int .i64, .pure)], .tm 11 false [(.int .i64, .pure)]] (.s .o (.s (.s .o .o) (.s (.s (.s .o (.s .o (.j [.tm 1 false [(.int .i64, .pure)], .tm 5 false [(.int .i64, .pure)], .tm 9 false [(.rsl [.int .i64], .pure)], .tm 10 false [(.int .i64, .pure)], .tm 11 false [(.int .i64, .pure)]] (.s .o .o)))) .o) .o)))))) (.s .o .o))), [(23, 51)], none⟩
/-- boskage/boskageref01.Few -/
noncomputable def g29 : AM.Sig := ⟨29, [.val true [(.int .i64, .pure), (.rsl [.int .i64], .pure)], .val false [(.int .i64, .pure)]], [(false, [(.bool, .pure)])]⟩
noncomputable def s29 : AM.Spec := ⟨g29, Go.Proofs.Tryd.f29, .s .o (.s .o .o), [(7, 51)], none⟩
/-- boskage/boskagelaw05.few -/
noncomputable def g8 : AM.Sig := ⟨8, [.val true [(.sl [.int .i64], .pure)], .val true [(.int .i64, .pure), (.rsl [.int .i64], .pure)], .val false [(.sl [.int .i64, .sl [.int .i64], .sl [.int .i64, .sl [.int .i64], .int .i64]], .pure)]], [(false, [(.bool, .pure)])]⟩
noncomputable def s8 : AM.Spec := ⟨g8, Go.Proofs.Tryd.f8, .s .o (.s (.j [.tm 6 false [(.bool, .pure)]] .o) .o), [(9, 28), (12, 29)], none⟩
/-- boskage/boskagelaw05.even -/
noncomputable def g30 : AM.Sig := ⟨30, [], [(true, [(.int .i64, .pure), (.sl [.int .i64], .own), (.sl [.int .i64, .sl [.int .i64], .int .i64], .own)])]⟩
noncomputable def s30 : AM.Spec := ⟨g30, Go.Proofs.Tryd.f30, .s .o (.s .o .o), [], none⟩
/-- boskage/tree.ValidAlphabet$1 -/
noncomputable def g62 : AM.Sig := ⟨62, [.val false [(.int .i64, .pure)]], [(false, [(.bool, .pure)])]⟩
noncomputable def s62 : AM.Spec := ⟨g62, Go.Proofs.Tryd.f62, .s .o (.s (.j [.tm 2 false [(.bool, .pure)]] .o) .o), [], none⟩
/-- slices.IndexFunc[[]int,int] -/
noncomputable def g1001 : AM.Sig := ⟨78, [.val false [(.sl [.int .i64], .pure)], .fn 62], [(false, [(.int .i64, .pure)])]⟩
noncomputable def s1001 : AM.Spec := ⟨g1001, Go.Proofs.Tryd.f78, .s .o (.s (.s .o (.jr [] (.j [.tm 0 false [(.sl [.int .i64], .pure)], .fn 1 62, .tm 7 false [(.int .i64, .pure)], .tm 8 false [(.int .i64, .pure)]] (.s .o (.s (.s .o .o) (.s (.s (.s .o (.s .o (.s (.s .o .o) .o))) .o) .o)))))) (.s .o .o)), [(16, 62)], none⟩
/-- slices.ContainsFunc[[]int,int] -/
noncomputable def g1000 : AM.Sig := ⟨61, [.val false [(.sl [.int .i64], .pure)], .fn 62], [(false, [(.bool, .pure)])]⟩
noncomputable def s1000 : AM.Spec := ⟨g1000, Go.Proofs.Tryd.f61, .s .o (.s .o .o), [(7, 1001)], none⟩
/-- boskage/tree.ValidAlphabet -/
noncomputable def g47 : AM.Sig := ⟨47, [.val true [(.sl [.int .i64], .pure)]], [(false, [(.bool, .pure)])]⟩
noncomputable def s47 : AM.Spec := ⟨g47, Go.Proofs.Tryd.f47, .s .o (.s (.j [.tm 2 false [(.bool, .pure)]] .o) .o), [(10, 1000)], none⟩
/-- boskage/auto.Valid$1 -/
noncomputable def g52 : AM.Sig := ⟨52, [.val false [(.int .i64, .pure)], .rptr [(.int .i64, .pure), (.sl [.int .i64], .pure), (.sl [.int .i64, .sl [.int .i64], .int .i64], .pure)]], [(false, [(.bool, .pure)])]⟩
noncomputable def s52 : AM.Spec := ⟨g52, Go.Proofs.Tryd.f52, .s .o (.s (.j [.tm 3 false [(.bool, .pure)]] .o) .o), [], none⟩
/-- boskage/auto.Valid -/
noncomputable def g34 : AM.Sig := ⟨34, [.val true [(.sl [.int .i64], .pure)], .val true [(.int .i64, .pure), (.sl [.int .i64], .pure), (.sl [.int .i64, .sl [.int .i64], .int .i64], .pure)]], [(false, [(.bool, .pure)])]⟩
noncomputable def s34 : AM.Spec := ⟨g34, Go.Proofs.Tryd.f34, .s .o (.s (.s (.j [.bx 2 [(.sl [.int .i64], .pure)], .adr 2 (.box 2) 0, .bx 3 [(.int .i64, .pure), (.sl [.int .i64], .pure), (.sl [.int .i64, .sl [.int .i64], .int .i64], .pure)], .adr 3 (.box 3) 0, .tm 30 false [(.bool, .pure)]] .o) (.s (.s .o .o) .o)) (.s .o (.s (.s .o (.jr [.bx 2 [(.sl [.int .i64], .pure)], .adr 2 (.box 2) 0, .bx 3 [(.int .i64, .pure), (.sl [.int .i64], .pure), (.sl [.int .i64, .sl [.int .i64], .int .i64], .pure)], .adr 3 (.box 3) 0, .clo 5 52 [(.box 3, 0)]] (.j [.bx 2 [(.sl [.int .i64], .pure)], .adr 2 (.box 2) 0, .bx 3 [(.int .i64, .pure), (.sl [.int .i64], .pure), (.sl [.int .i64, .sl [.int .i64], .int .i64], .pure)], .adr 3 (.box 3) 0, .clo 5 52 [(.box 3, 0)], .tm 33 false [(.sl [.int .i64], .pure)], .tm 34 false [(.int .i64, .pure)], .tm 35 false [(.int .i64, .pure)]] (.s .o (.s (.s .o .o) (.s (.s (.s .o (.s (.j [.bx 2 [(.sl [.int .i64], .pure)], .adr 2 (.box 2) 0, .bx 3 [(.int .i64, .pure), (.sl [.int .i64], .pure), (.sl [.int .i64, .sl [.int .i64], .int .i64], .pure)], .adr 3 (.box 3) 0, .clo 5 52 [(.box 3, 0)], .tm 33 false [(.sl [.int .i64], .pure)], .tm 34 false [(.int .i64, .pure)], .tm 35 false [(.int .i64, .pure)], .tm 57 false [(.bool, .pure)]] .o) (.s (.s .o .o) .o))) .o) .o)))))) (.s (.s .o (.jr [] (.j [.bx 2 [(.sl [.int .i64], .pure)], .adr 2 (.box 2) 0, .bx 3 [(.int .i64, .pure), (.sl [.int .i64], .pure), (.sl [.int .i64, .sl [.int .i64], .int .i64], .pure)], .clo 5 52 [(.box 3, 0)], .tm 60 false [(.sl [.int .i64, .sl [.int .i64], .int .i64], .pure)], .tm 61 false [(.int .i64, .pure)], .tm 62 false [(.int .i64, .pure)]] (.s .o (.s (.s .o .o) (.s (.s (.s .o (.s (.s (.j [.bx 2 [(.sl [.int .i64], .pure)], .adr 2 (.box 2) 0, .bx 3 [(.int .i64, .pure), (.sl [.int .i64], .pure), (.sl [.int .i64, .sl [.int .i64], .int .i64], .pure)], .clo 5 52 [(.box 3, 0)], .bx 9 [(.int .i64, .pure), (.sl [.int .i64], .pure), (.int .i64, .pure)], .adr 9 (.box 9) 0, .tm 60 false [(.sl [.int .i64, .sl [.int .i64], .int .i64], .pure)], .tm 61 false [(.int .i64, .pure)], .tm 62 false [(.int .i64, .pure)], .tm 95 false [(.bool, .pure)]] .o) (.s (.s .o .o) .o)) (.s .o (.jr [.bx 2 [(.sl [.int .i64], .pure)], .adr 2 (.box 2) 0, .bx 3 [(.int .i64, .pure), (.sl [.int .i64], .pure), (.sl [.int .i64, .sl [.int .i64], .int .i64], .pure)], .clo 5 52 [(.box 3, 0)], .tm 60 false [(.sl [.int .i64, .sl [.int .i64], .int .i64], .pure)], .tm 61 false [(.int .i64, .pure)], .tm 62 false [(.int .i64, .pure)]] (.j [.bx 2 [(.sl [.int .i64], .pure)], .adr 2 (.box 2) 0, .bx 3 [(.int .i64, .pure), (.sl [.int .i64], .pure), (.sl [.int .i64, .sl [.int .i64], .int .i64], .pure)], .clo 5 52 [(.box 3, 0)], .tm 60 false [(.sl [.int .i64, .sl [.int .i64], .int .i64], .pure)], .tm 61 false [(.int .i64, .pure)], .tm 62 false [(.int .i64, .pure)], .tm 97 false [(.sl [.int .i64], .pure)], .tm 98 false [(.int .i64, .pure)], .tm 99 false [(.int .i64, .pure)]] (.s .o (.s (.s .o .o) (.s (.s (.s .o (.s .o (.s (.s .o .o) .o))) .o) .o)))))))) .o) .o)))))) (.s .o .o))))), [(13, 47), (42, 52), (93, 52), (105, 52)], none⟩
/-- slices.Clone[[]int,int] -/
noncomputable def g37 : AM.Sig := ⟨37, [.val false [(.sl [.int .i64], .pure)]], [(false, [(.sl [.int .i64], .own)])]⟩
noncomputable def s37 : AM.Spec := ⟨g37, Go.Proofs.Tryd.f37, .o, [], (some cloneX)⟩
/-- boskage/auto.Copy -/
noncomputable def g35 : AM.Sig := ⟨35, [.val true [(.int .i64, .pure), (.sl [.int .i64], .pure), (.sl [.int .i64, .sl [.int .i64], .int .i64], .pure)]], [(true, [(.int .i64, .pure), (.sl [.int .i64], .own), (.sl [.int .i64, .sl [.int .i64], .int .i64], .own)])]⟩
noncomputable def s35 : AM.Spec := ⟨g35, Go.Proofs.Tryd.f35, .s .o (.s .o (.s (.s .o (.j [.bx 2 [(.int .i64, .pure), (.sl [.int .i64], .own), (.sl [.int .i64, .sl [.int .i64], .int .i64], .own)], .adr 2 (.box 2) 0, .bx 3 [(.int .i64, .pure), (.sl [.int .i64], .own), (.sl [.int .i64, .sl [.int .i64], .int .i64], .own)], .adr 3 (.box 3) 0] (.j [.bx 2 [(.int .i64, .pure), (.sl [.int .i64], .own), (.sl [.int .i64, .sl [.int .i64], .int .i64], .own)], .adr 2 (.box 2) 0, .bx 3 [(.int .i64, .pure), (.sl [.int .i64], .own), (.sl [.int .i64, .sl [.int .i64], .int .i64], .own)], .adr 3 (.box 3) 0, .tm 13 false [(.sl [.int .i64, .sl [.int .i64], .int .i64], .pure)], .tm 14 false [(.int .i64, .pure)], .tm 15 false [(.int .i64, .pure)]] (.s .o (.s (.s .o .o) (.s (.s (.s .o .o) .o) .o)))))) (.s .o .o))), [(10, 37), (25, 37)], none⟩
/-- boskage/auto.Final -/
noncomputable def g36 : AM.Sig := ⟨36, [.val true [(.int .i64, .pure), (.sl [.int .i64], .pure), (.sl [.int .i64, .sl [.int .i64], .int .i64], .pure)]], [(false, [(.sl [.bool], .own)])]⟩
noncomputable def s36 : AM.Spec := ⟨g36, Go.Proofs.Tryd.f36, .s .o (.s .o (.s (.s .o (.j [.tm 3 false [(.sl [.bool], .own)]] (.j [.tm 3 false [(.sl [.bool], .own)], .tm 10 false [(.sl [.int .i64], .pure)], .tm 11 false [(.int .i64, .pure)], .tm 12 false [(.int .i64, .pure)]] (.s .o (.s (.s .o .o) (.s (.s (.s .o .o) .o) .o)))))) (.s .o .o))), [], none⟩
/-- math/bits.Mul64 -/
noncomputable def g68 : AM.Sig := ⟨68, [.val false [(.int .u64, .pure)], .val false [(.int .u64, .pure)]], [(false, [(.int .u64, .pure)]), (false, [(.int .u64, .pure)])]⟩
noncomputable def s68 : AM.Spec := ⟨g68, Go.Proofs.Tryd.f68, .s .o (.s .o (.s .o (.s .o (.s .o (.s .o (.s .o (.s .o (.s .o (.s .o (.s .o (.s .o .o))))))))))), [], none⟩
/-- math/bits.Mul -/
noncomputable def g53 : AM.Sig := ⟨53, [.val false [(.int .u64, .pure)], .val false [(.int .u64, .pure)]], [(false, [(.int .u64, .pure)]), (false, [(.int .u64, .pure)])]⟩
noncomputable def s53 : AM.Spec := ⟨g53, Go.Proofs.Tryd.f53, .s .o (.s (.s (.s .o (.s .o .o)) .o) (.s .o (.s .o .o))), [(25, 68)], none⟩
/-- slices.Repeat[[]int,int] -/
noncomputable def g38 : AM.Sig := ⟨38, [.val false [(.sl [.int .i64], .pure)], .val false [(.int .i64, .pure)]], [(false, [(.sl [.int .i64], .own)])]⟩
noncomputable def s38 : AM.Spec := ⟨g38, Go.Proofs.Tryd.f38, .s .o (.s (.s .o (.j [.tm 0 false [(.sl [.int .i64], .pure)], .tm 1 false [(.int .i64, .pure)]] (.s .o .o))) (.s .o (.s (.s (.j [.tm 0 false [(.sl [.int .i64], .pure)], .tm 6 false [(.int .u64, .pure)], .tm 26 false [(.bool, .pure)]] .o) (.j [.tm 0 false [(.sl [.int .i64], .pure)], .tm 6 false [(.int .u64, .pure)]] (.s .o .o))) (.s .o (.s .o (.s (.j [.tm 7 false [(.sl [.int .i64], .own)]] (.j [.tm 7 false [(.sl [.int .i64], .own)], .tm 8 false [(.int .i64, .pure)]] (.s (.s .o (.s .o .o)) (.s .o .o)))) (.s .o .o))))))), [(18, 53)], none⟩
/-- boskage/boolean.Under -/
noncomputable def g10 : AM.Sig := ⟨10, [.val true [(.sl [.int .i64], .pure)], .val true [(.int .i64, .pure), (.sl [.int .i64], .pure), (.sl [.int .i64, .sl [.int .i64], .int .i64], .pure)], .val false [(.int .i64, .pure)]], [(true, [(.int .i64, .pure), (.sl [.int .i64], .pure), (.sl [.int .i64, .sl [.int .i64], .int .i64], .pure)]), (false, [(.int .i64, .pure)])]⟩
noncomputable def s10 : AM.Spec := ⟨g10, Go.Proofs.Tryd.f10, .s .o (.s (.s .o (.s (.s .o .o) .o)) (.s (.s (.j [.tm 2 false [(.int .i64, .pure)], .bx 3 [(.sl [.int .i64], .pure)], .adr 3 (.box 3) 0, .bx 4 [(.int .i64, .pure), (.sl [.int .i64], .pure), (.sl [.int .i64, .sl [.int .i64], .int .i64], .pure)], .adr 4 (.box 4) 0, .bx 6 [(.int .i64, .pure), (.sl [.int .i64], .own), (.sl [.int .i64, .sl [.int .i64], .int .i64], .own)], .adr 6 (.box 6) 0, .tm 31 false [(.bool, .pure)]] .o) (.s (.s .o .o) .o)) (.s .o (.s .o (.s .o (.s .o (.s (.s .o (.j [.bx 3 [(.sl [.int .i64], .pure)], .adr 3 (.box 3) 0, .bx 6 [(.int .i64, .pure), (.sl [.int .i64], .own), (.sl [.int .i64, .sl [.int .i64], .int .i64], .own)], .adr 6 (.box 6) 0, .bx 8 [(.int .i64, .pure), (.sl [.int .i64], .own), (.sl [.int .i64, .sl [.int .i64], .int .i64], .own)], .adr 8 (.box 8) 0, .tm 9 false [(.int .i64, .pure)], .tm 10 false [(.int .i64, .pure)]] (.j [.tm 2 false [(.int .i64, .pure)], .bx 3 [(.sl [.int .i64], .pure)], .adr 3 (.box 3) 0, .bx 6 [(.int .i64, .pure), (.sl [.int .i64], .own), (.sl [.int .i64, .sl [.int .i64], .int .i64], .own)], .adr 6 (.box 6) 0, .bx 8 [(.int .i64, .pure), (.sl [.int .i64], .own), (.sl [.int .i64, .sl [.int .i64], .int .i64], .own)], .adr 8 (.box 8) 0, .tm 9 false [(.int .i64, .pure)], .tm 10 false [(.int .i64, .pure)], .tm 11 false [(.sl [.bool], .own)], .tm 47 false [(.sl [.int .i64, .sl [.int .i64], .int .i64], .pure)], .tm 48 false [(.int .i64, .pure)], .tm 49 false [(.int .i64, .pure)]] (.s .o (.s (.s .o .o) (.s (.s (.s .o (.s (.j [.tm 2 false [(.int .i64, .pure)], .bx 3 [(.sl [.int .i64], .pure)], .adr 3 (.box 3) 0, .bx 6 [(.int .i64, .pure), (.sl [.int .i64], .own), (.sl [.int .i64, .sl [.int .i64], .int .i64], .own)], .adr 6 (.box 6) 0, .bx 8 [(.int .i64, .pure), (.sl [.int .i64], .own), (.sl [.int .i64, .sl [.int .i64], .int .i64], .own)], .adr 8 (.box 8) 0, .tm 9 false [(.int .i64, .pure)], .tm 10 false [(.int .i64, .pure)], .tm 11 false [(.sl [.bool], .own)], .bx 13 [(.int .i64, .pure), (.sl [.int .i64], .pure), (.int .i64, .pure)], .adr 13 (.box 13) 0, .tm 47 false [(.sl [.int .i64, .sl [.int .i64], .int .i64], .pure)], .tm 48 false [(.int .i64, .pure)], .tm 49 false [(.int .i64, .pure)], .tm 63 false [(.bool, .pure)]] .o) (.j [.tm 2 false [(.int .i64, .pure)], .bx 3 [(.sl [.int .i64], .pure)], .adr 3 (.box 3) 0, .bx 6 [(.int .i64, .pure), (.sl [.int .i64], .own), (.sl [.int .i64, .sl [.int .i64], .int .i64], .own)], .adr 6 (.box 6) 0, .bx 8 [(.int .i64, .pure), (.sl [.int .i64], .own), (.sl [.int .i64, .sl [.int .i64], .int .i64], .own)], .adr 8 (.box 8) 0, .tm 9 false [(.int .i64, .pure)], .tm 10 false [(.int .i64, .pure)], .tm 11 false [(.sl [.bool], .own)], .tm 47 false [(.sl [.int .i64, .sl [.int .i64], .int .i64], .pure)], .tm 48 false [(.int .i64, .pure)], .tm 49 false [(.int .i64, .pure)]] (.s .o .o)))) .o) .o)))))) (.s (.s .o (.j [.bx 6 [(.int .i64, .pure), (.sl [.int .i64], .own), (.sl [.int .i64, .sl [.int .i64], .int .i64], .own)], .adr 6 (.box 6) 0, .bx 8 [(.int .i64, .pure), (.sl [.int .i64], .own), (.sl [.int .i64, .sl [.int .i64], .int .i64], .own)], .adr 8 (.box 8) 0, .tm 10 false [(.int .i64, .pure)]] (.j [.bx 6 [(.int .i64, .pure), (.sl [.int .i64], .own), (.sl [.int .i64, .sl [.int .i64], .int .i64], .own)], .adr 6 (.box 6) 0, .bx 8 [(.int .i64, .pure), (.sl [.int .i64], .own), (.sl [.int .i64, .sl [.int .i64], .int .i64], .own)], .adr 8 (.box 8) 0, .tm 9 false [(.int .i64, .pure)], .tm 10 false [(.int .i64, .pure)], .tm 77 false [(.sl [.int .i64], .pure)], .tm 78 false [(.int .i64, .pure)], .tm 79 false [(.int .i64, .pure)]] (.s .o (.s (.s .o .o) (.s (.s (.s .o (.s .o (.s .o (.j [.bx 6 [(.int .i64, .pure), (.sl [.int .i64], .own), (.sl [.int .i64, .sl [.int .i64], .int .i64], .own)], .adr 6 (.box 6) 0, .bx 8 [(.int .i64, .pure), (.sl [.int .i64], .own), (.sl [.int .i64, .sl [.int .i64], .int .i64], .own)], .adr 8 (.box 8) 0, .tm 9 false [(.int .i64, .pure)], .tm 10 false [(.int .i64, .pure)], .tm 77 false [(.sl [.int .i64], .pure)], .tm 78 false [(.int .i64, .pure)], .tm 79 false [(.int .i64, .pure)]] (.j [.bx 6 [(.int .i64, .pure), (.sl [.int .i64], .own), (.sl [.int .i64, .sl [.int .i64], .int .i64], .own)], .adr 6 (.box 6) 0, .bx 8 [(.int .i64, .pure), (.sl [.int .i64], .own), (.sl [.int .i64, .sl [.int .i64], .int .i64], .own)], .adr 8 (.box 8) 0, .tm 9 false [(.int .i64, .pure)], .tm 10 false [(.int .i64, .pure)], .tm 14 false [(.int .i64, .pure)], .tm 15 false [(.int .i64, .pure)], .tm 77 false [(.sl [.int .i64], .pure)], .tm 78 false [(.int .i64, .pure)], .tm 79 false [(.int .i64, .pure)], .tm 96 false [(.int .i64, .pure)], .tm 97 false [(.int .i64, .pure)]] (.s .o (.s (.s .o .o) (.s (.s (.s .o (.s .o (.s .o .o))) .o) .o)))))))) .o) .o)))))) (.s .o (.s (.s (.j [.bx 6 [(.int .i64, .pure), (.sl [.int .i64], .own), (.sl [.int .i64, .sl [.int .i64], .int .i64], .own)], .adr 6 (.box 6) 0, .bx 8 [(.int .i64, .pure), (.sl [.int .i64], .own), (.sl [.int .i64, .sl [.int .i64], .int .i64], .own)], .adr 8 (.box 8) 0, .tm 130 false [(.bool, .pure)]] .o) (.s (.s .o .o) .o)) (.s .o .o))))))))))), [(20, 34), (34, 35), (45, 36), (69, 37), (90, 38), (103, 38)], none⟩
/-- boskage/boskagelaw05.leaf -/
noncomputable def g32 : AM.Sig := ⟨32, [], [(true, [(.int .i64, .pure), (.rsl [.int .i64], .own)])]⟩
noncomputable def s32 : AM.Spec := ⟨g32, Go.Proofs.Tryd.f32, .s .o (.s .o .o), [], none⟩
/-- boskage/boskagelaw05.f -/
noncomputable def g31 : AM.Sig := ⟨31, [.val true [(.int .i64, .pure), (.rsl [.int .i64], .pure)], .val true [(.int .i64, .pure), (.rsl [.int .i64], .pure)]], [(true, [(.int .i64, .pure), (.rsl [.int .i64], .own)])]⟩
noncomputable def s31 : AM.Spec := ⟨g31, Go.Proofs.Tryd.f31, .s .o (.s .o .o), [], none⟩
/-- boskage/boskageref01.ValidAlphabet -/
noncomputable def g21 : AM.Sig := ⟨21, [.val true [(.sl [.int .i64], .pure)]], [(false, [(.bool, .pure)])]⟩
noncomputable def s21 : AM.Spec := ⟨g21, Go.Proofs.Tryd.f21, .s .o (.s (.s .o (.s (.s .o .o) .o)) (.s (.s .o (.jr [] (.j [.tm 10 false [(.sl [.int .i64], .pure)], .tm 11 false [(.int .i64, .pure)], .tm 12 false [(.int .i64, .pure)]] (.s .o (.s (.s .o .o) (.s (.s (.s .o (.s (.j [.tm 10 false [(.sl [.int .i64], .pure)], .tm 11 false [(.int .i64, .pure)], .tm 12 false [(.int .i64, .pure)], .tm 21 false [(.bool, .pure)]] .o) (.s (.s .o .o) .o))) .o) .o)))))) (.s .o .o))), [], none⟩
/-- boskage/boskageref03.Valid -/
noncomputable def g33 : AM.Sig := ⟨33, [.val true [(.sl [.int .i64], .pure)], .val true [(.int .i64, .pure), (.sl [.int .i64], .pure), (.sl [.int .i64, .sl [.int .i64], .int .i64], .pure)]], [(false, [(.bool, .pure)])]⟩
noncomputable def s33 : AM.Spec := ⟨g33, Go.Proofs.Tryd.f33, .s .o (.s (.s (.j [.bx 2 [(.sl [.int .i64], .pure)], .adr 2 (.box 2) 0, .bx 3 [(.int .i64, .pure), (.sl [.int .i64], .pure), (.sl [.int .i64, .sl [.int .i64], .int .i64], .pure)], .adr 3 (.box 3) 0, .tm 29 false [(.bool, .pure)]] .o) (.s (.s .o .o) .o)) (.s (.s .o (.jr [.bx 2 [(.sl [.int .i64], .pure)], .adr 2 (.box 2) 0, .bx 3 [(.int .i64, .pure), (.sl [.int .i64], .pure), (.sl [.int .i64, .sl [.int .i64], .int .i64], .pure)], .adr 3 (.box 3) 0] (.j [.bx 2 [(.sl [.int .i64], .pure)], .adr 2 (.box 2) 0, .bx 3 [(.int .i64, .pure), (.sl [.int .i64], .pure), (.sl [.int .i64, .sl [.int .i64], .int .i64], .pure)], .adr 3 (.box 3) 0, .tm 31 false [(.sl [.int .i64], .pure)], .tm 32 false [(.int .i64, .pure)], .tm 33 false [(.int .i64, .pure)]] (.s .o (.s (.s .o .o) (.s (.s (.s .o (.s (.j [.bx 2 [(.sl [.int .i64], .pure)], .adr 2 (.box 2) 0, .bx 3 [(.int .i64, .pure), (.sl [.int .i64], .pure), (.sl [.int .i64, .sl [.int .i64], .int .i64], .pure)], .adr 3 (.box 3) 0, .tm 31 false [(.sl [.int .i64], .pure)], .tm 32 false [(.int .i64, .pure)], .tm 33 false [(.int .i64, .pure)], .tm 59 false [(.bool, .pure)]] .o) (.s (.s .o .o) .o))) .o) .o)))))) (.s (.s .o (.jr [] (.j [.bx 2 [(.sl [.int .i64], .pure)], .adr 2 (.box 2) 0, .bx 3 [(.int .i64, .pure), (.sl [.int .i64], .pure), (.sl [.int .i64, .sl [.int .i64], .int .i64], .pure)], .adr 3 (.box 3) 0, .tm 62 false [(.sl [.int .i64, .sl [.int .i64], .int .i64], .pure)], .tm 63 false [(.int .i64, .pure)], .tm 64 false [(.int .i64, .pure)]] (.s .o (.s (.s .o .o) (.s (.s (.s .o (.s (.s (.j [.bx 2 [(.sl [.int .i64], .pure)], .adr 2 (.box 2) 0, .bx 3 [(.int .i64, .pure), (.sl [.int .i64], .pure), (.sl [.int .i64, .sl [.int .i64], .int .i64], .pure)], .adr 3 (.box 3) 0, .bx 8 [(.int .i64, .pure), (.sl [.int .i64], .pure), (.int .i64, .pure)], .adr 8 (.box 8) 0, .tm 62 false [(.sl [.int .i64, .sl [.int .i64], .int .i64], .pure)], .tm 63 false [(.int .i64, .pure)], .tm 64 false [(.int .i64, .pure)], .tm 102 false [(.bool, .pure)]] .o) (.s (.s .o .o) .o)) (.s .o (.jr [.bx 2 [(.sl [.int .i64], .pure)], .adr 2 (.box 2) 0, .bx 3 [(.int .i64, .pure), (.sl [.int .i64], .pure), (.sl [.int .i64, .sl [.int .i64], .int .i64], .pure)], .adr 3 (.box 3) 0, .tm 62 false [(.sl [.int .i64, .sl [.int .i64], .int .i64], .pure)], .tm 63 false [(.int .i64, .pure)], .tm 64 false [(.int .i64, .pure)]] (.j [.bx 2 [(.sl [.int .i64], .pure)], .adr 2 (.box 2) 0, .bx 3 [(.int .i64, .pure), (.sl [.int .i64], .pure), (.sl [.int .i64, .sl [.int .i64], .int .i64], .pure)], .adr 3 (.box 3) 0, .tm 62 false [(.sl [.int .i64, .sl [.int .i64], .int .i64], .pure)], .tm 63 false [(.int .i64, .pure)], .tm 64 false [(.int .i64, .pure)], .tm 104 false [(.sl [.int .i64], .pure)], .tm 105 false [(.int .i64, .pure)], .tm 106 false [(.int .i64, .pure)]] (.s .o (.s (.s .o .o) (.s (.s (.s .o (.s (.j [.bx 2 [(.sl [.int .i64], .pure)], .adr 2 (.box 2) 0, .bx 3 [(.int .i64, .pure), (.sl [.int .i64], .pure), (.sl [.int .i64, .sl [.int .i64], .int .i64], .pure)], .adr 3 (.box 3) 0, .tm 62 false [(.sl [.int .i64, .sl [.int .i64], .int .i64], .pure)], .tm 63 false [(.int .i64, .pure)], .tm 64 false [(.int .i64, .pure)], .tm 104 false [(.sl [.int .i64], .pure)], .tm 105 false [(.int .i64, .pure)], .tm 106 false [(.int .i64, .pure)], .tm 117 false [(.bool, .pure)]] .o) (.s (.s .o .o) .o))) .o) .o)))))))) .o) .o)))))) (.s .o .o)))), [(12, 21)], none⟩
/-- boskage/boskageref03.In -/
noncomputable def g54 : AM.Sig := ⟨54, [.val false [(.sl [.int .i64], .pure)], .val false [(.int .i64, .pure)]], [(false, [(.bool, .pure)])]⟩
noncomputable def s54 : AM.Spec := ⟨g54, Go.Proofs.Tryd.f54, .s .o (.s (.s .o (.jr [] (.j [.tm 1 false [(.int .i64, .pure)], .tm 7 false [(.sl [.int .i64], .pure)], .tm 8 false [(.int .i64, .pure)], .tm 9 false [(.int .i64, .pure)]] (.s .o (.s (.s .o .o) (.s (.s (.s .o (.s .o (.s (.s .o .o) .o))) .o) .o)))))) (.s .o .o)), [], none⟩
/-- boskage/boskageref03.Insert -/
noncomputable def g69 : AM.Sig := ⟨69, [.val false [(.sl [.int .i64], .pure)], .val false [(.int .i64, .pure)]], [(false, [(.sl [.int .i64], .pure)])]⟩
noncomputable def s69 : AM.Spec := ⟨g69, Go.Proofs.Tryd.f69, .s .o (.s .o (.s (.j [.tm 0 false [(.sl [.int .i64], .pure)], .tm 1 false [(.int .i64, .pure)], .tm 5 false [(.int .i64, .pure)]] (.j [.tm 0 false [(.sl [.int .i64], .pure)], .tm 1 false [(.int .i64, .pure)], .tm 5 false [(.int .i64, .pure)]] (.s (.s (.j [.tm 0 false [(.sl [.int .i64], .pure)], .tm 1 false [(.int .i64, .pure)], .tm 5 false [(.int .i64, .pure)], .tm 17 false [(.bool, .pure)]] .o) (.s .o .o)) (.s .o .o)))) (.s (.s (.j [.tm 0 false [(.sl [.int .i64], .pure)], .tm 1 false [(.int .i64, .pure)], .tm 5 false [(.int .i64, .pure)], .tm 31 false [(.bool, .pure)]] .o) (.s (.s .o .o) .o)) (.s .o .o)))), [], none⟩
/-- boskage/boskageref03.Step -/
noncomputable def g55 : AM.Sig := ⟨55, [.val true [(.int .i64, .pure), (.sl [.int .i64], .pure), (.sl [.int .i64, .sl [.int .i64], .int .i64], .pure)], .val false [(.int .i64, .pure)], .val false [(.sl [.sl [.int .i64]], .pure)]], [(false, [(.sl [.int .i64], .pure)])]⟩
noncomputable def s55 : AM.Spec := ⟨g55, Go.Proofs.Tryd.f55, .s .o (.s .o (.s (.s .o (.j [.tm 7 false [(.sl [.int .i64], .pure)]] (.j [.tm 1 false [(.int .i64, .pure)], .tm 2 false [(.sl [.sl [.int .i64]], .pure)], .tm 7 false [(.sl [.int .i64], .pure)], .tm 13 false [(.sl [.int .i64, .sl [.int .i64], .int .i64], .pure)], .tm 14 false [(.int .i64, .pure)], .tm 15 false [(.int .i64, .pure)]] (.s .o (.s (.s .o .o) (.s (.s (.s .o (.s .o (.s (.s .o (.j [.tm 1 false [(.int .i64, .pure)], .tm 2 false [(.sl [.sl [.int .i64]], .pure)], .tm 7 false [(.sl [.int .i64], .pure)], .bx 9 [(.int .i64, .pure), (.sl [.int .i64], .pure), (.int .i64, .pure)], .adr 9 (.box 9) 0, .tm 10 false [(.bool, .pure)], .tm 13 false [(.sl [.int .i64, .sl [.int .i64], .int .i64], .pure)], .tm 14 false [(.int .i64, .pure)], .tm 15 false [(.int .i64, .pure)]] (.j [.tm 1 false [(.int .i64, .pure)], .tm 2 false [(.sl [.sl [.int .i64]], .pure)], .tm 7 false [(.sl [.int .i64], .pure)], .bx 9 [(.int .i64, .pure), (.sl [.int .i64], .pure), (.int .i64, .pure)], .adr 9 (.box 9) 0, .tm 10 false [(.bool, .pure)], .tm 11 false [(.int .i64, .pure)], .tm 13 false [(.sl [.int .i64, .sl [.int .i64], .int .i64], .pure)], .tm 14 false [(.int .i64, .pure)], .tm 15 false [(.int .i64, .pure)]] (.s (.s (.j [.tm 1 false [(.int .i64, .pure)], .tm 2 false [(.sl [.sl [.int .i64]], .pure)], .tm 7 false [(.sl [.int .i64], .pure)], .bx 9 [(.int .i64, .pure), (.sl [.int .i64], .pure), (.int .i64, .pure)], .adr 9 (.box 9) 0, .tm 10 false [(.bool, .pure)], .tm 11 false [(.int .i64, .pure)], .tm 13 false [(.sl [.int .i64, .sl [.int .i64], .int .i64], .pure)], .tm 14 false [(.int .i64, .pure)], .tm 15 false [(.int .i64, .pure)], .tm 29 false [(.bool, .pure)]] .o) (.s .o .o)) (.s (.s .o .o) .o))))) (.s .o (.j [.tm 1 false [(.int .i64, .pure)], .tm 2 false [(.sl [.sl [.int .i64]], .pure)], .tm 7 false [(.sl [.int .i64], .pure)], .tm 13 false [(.sl [.int .i64, .sl [.int .i64], .int .i64], .pure)], .tm 14 false [(.int .i64, .pure)], .tm 15 false [(.int .i64, .pure)]] (.s .o .o)))))) .o) .o)))))) (.s .o .o))), [(41, 54), (46, 69)], none⟩
/-- boskage/boskageref03.Of -/
noncomputable def g43 : AM.Sig := ⟨43, [.val true [(.int .i64, .pure), (.sl [.int .i64], .pure), (.sl [.int .i64, .sl [.int .i64], .int .i64], .pure)], .val true [(.int .i64, .pure), (.rsl [.int .i64], .pure)]], [(false, [(.sl [.int .i64], .pure)])]⟩
noncomputable def s43 : AM.Spec := ⟨g43, Go.Proofs.Tryd.f43, .s .o (.s .o (.s (.s .o (.j [.bx 2 [(.int .i64, .pure), (.sl [.int .i64], .pure), (.sl [.int .i64, .sl [.int .i64], .int .i64], .pure)], .adr 2 (.box 2) 0, .bx 3 [(.int .i64, .pure), (.rsl [.int .i64], .pure)], .adr 3 (.box 3) 0, .tm 5 false [(.sl [.sl [.int .i64]], .own)]] (.j [.bx 2 [(.int .i64, .pure), (.sl [.int .i64], .pure), (.sl [.int .i64, .sl [.int .i64], .int .i64], .pure)], .adr 2 (.box 2) 0, .bx 3 [(.int .i64, .pure), (.rsl [.int .i64], .pure)], .adr 3 (.box 3) 0, .tm 5 false [(.sl [.sl [.int .i64]], .own)], .tm 9 false [(.rsl [.int .i64], .pure)], .tm 10 false [(.int .i64, .pure)], .tm 11 false [(.int .i64, .pure)]] (.s .o (.s (.s .o .o) (.s (.s (.s .o .o) .o) .o)))))) (.s .o .o))), [(18, 43), (26, 55)], none⟩
/-- boskage/boskageref03.Meet -/
noncomputable def g42 : AM.Sig := ⟨42, [.val false [(.sl [.int .i64], .pure)], .val false [(.sl [.int .i64], .pure)]], [(false, [(.bool, .pure)])]⟩
noncomputable def s42 : AM.Spec := ⟨g42, Go.Proofs.Tryd.f42, .s .o (.s (.s .o (.jr [] (.j [.tm 1 false [(.sl [.int .i64], .pure)], .tm 7 false [(.sl [.int .i64], .pure)], .tm 8 false [(.int .i64, .pure)], .tm 9 false [(.int .i64, .pure)]] (.s .o (.s (.s .o .o) (.s (.s (.s .o (.s .o (.s (.s .o .o) .o))) .o) .o)))))) (.s .o .o)), [(15, 54)], none⟩
/-- boskage/boskageref03.Has -/
noncomputable def g16 : AM.Sig := ⟨16, [.val true [(.int .i64, .pure), (.sl [.int .i64], .pure), (.sl [.int .i64, .sl [.int .i64], .int .i64], .pure)], .val true [(.int .i64, .pure), (.rsl [.int .i64], .pure)]], [(false, [(.bool, .pure)])]⟩
noncomputable def s16 : AM.Spec := ⟨g16, Go.Proofs.Tryd.f16, .s .o (.s .o .o), [(7, 43), (10, 42)], none⟩
/-- boskage/boskagelaw05.awake -/
noncomputable def g9 : AM.Sig := ⟨9, [], [(false, [(.bool, .pure)])]⟩
noncomputable def s9 : AM.Spec := ⟨g9, Go.Proofs.Tryd.f9, .s .o (.s .o (.s .o (.s (.j [.tm 0 false [(.bool, .pure)]] .o) .o))), [(6, 30), (7, 10), (10, 32), (11, 32), (12, 32), (13, 31), (14, 31), (20, 33), (25, 16), (29, 32), (30, 16)], none⟩
/-- boskage/boskagelaw05.valid -/
noncomputable def g11 : AM.Sig := ⟨11, [.val true [(.sl [.int .i64], .pure)], .val false [(.sl [.int .i64, .sl [.int .i64], .sl [.int .i64, .sl [.int .i64], .int .i64]], .pure)]], [(false, [(.bool, .pure)])]⟩
noncomputable def s11 : AM.Spec := ⟨g11, Go.Proofs.Tryd.f11, .s .o (.s (.s .o (.jr [] (.j [.bx 2 [(.sl [.int .i64], .pure)], .adr 2 (.box 2) 0, .tm 7 false [(.sl [.int .i64, .sl [.int .i64], .sl [.int .i64, .sl [.int .i64], .int .i64]], .pure)], .tm 8 false [(.int .i64, .pure)], .tm 9 false [(.int .i64, .pure)]] (.s .o (.s (.s .o .o) (.s (.s (.s .o (.s .o (.s (.s .o .o) .o))) .o) .o)))))) (.s .o .o)), [(15, 33)], none⟩
/-- boskage/boskageref01.shaped -/
noncomputable def g39 : AM.Sig := ⟨39, [.val true [(.sl [.int .i64], .pure)], .val true [(.int .i64, .pure), (.rsl [.int .i64], .pure)]], [(false, [(.bool, .pure)])]⟩
noncomputable def s39 : AM.Spec := ⟨g39, Go.Proofs.Tryd.f39, .s .o (.s (.s (.j [.bx 2 [(.sl [.int .i64], .pure)], .adr 2 (.box 2) 0, .bx 3 [(.int .i64, .pure), (.rsl [.int .i64], .pure)], .adr 3 (.box 3) 0, .tm 29 false [(.bool, .pure)]] .o) (.s (.s .o .o) .o)) (.s (.s .o (.jr [] (.j [.bx 2 [(.sl [.int .i64], .pure)], .adr 2 (.box 2) 0, .tm 31 false [(.rsl [.int .i64], .pure)], .tm 32 false [(.int .i64, .pure)], .tm 33 false [(.int .i64, .pure)]] (.s .o (.s (.s .o .o) (.s (.s (.s .o (.s .o (.s (.s .o .o) .o))) .o) .o)))))) (.s .o .o))), [(39, 39)], none⟩
/-- boskage/boskageref01.Valid -/
noncomputable def g12 : AM.Sig := ⟨12, [.val true [(.sl [.int .i64], .pure)], .val true [(.int .i64, .pure), (.rsl [.int .i64], .pure)]], [(false, [(.bool, .pure)])]⟩
noncomputable def s12 : AM.Spec := ⟨g12, Go.Proofs.Tryd.f12, .s .o (.s (.j [.tm 4 false [(.bool, .pure)]] .o) .o), [(6, 21), (9, 29), (14, 39)], none⟩
/-- boskage/boskageref01.Places -/
noncomputable def g40 : AM.Sig := ⟨40, [.val true [(.int .i64, .pure), (.rsl [.int .i64], .pure)]], [(false, [(.sl [.sl [.int .i64]], .own)])]⟩
noncomputable def s40 : AM.Spec := ⟨g40, Go.Proofs.Tryd.f40, .s .o (.s .o (.s (.s .o (.j [.tm 3 false [(.sl [.sl [.int .i64]], .own)]] (.j [.tm 3 false [(.sl [.sl [.int .i64]], .own)], .tm 10 false [(.rsl [.int .i64], .pure)], .tm 11 false [(.int .i64, .pure)], .tm 12 false [(.int .i64, .pure)]] (.s .o (.s (.s .o .o) (.s (.s (.s .o (.s .o (.j [.tm 3 false [(.sl [.sl [.int .i64]], .own)], .tm 10 false [(.rsl [.int .i64], .pure)], .tm 11 false [(.int .i64, .pure)], .tm 12 false [(.int .i64, .pure)]] (.j [.tm 3 false [(.sl [.sl [.int .i64]], .own)], .tm 4 false [(.int .i64, .pure)], .tm 10 false [(.rsl [.int .i64], .pure)], .tm 11 false [(.int .i64, .pure)], .tm 12 false [(.int .i64, .pure)], .tm 18 false [(.sl [.sl [.int .i64]], .own)], .tm 19 false [(.int .i64, .pure)], .tm 20 false [(.int .i64, .pure)]] (.s .o (.s (.s .o .o) (.s (.s (.s .o .o) .o) .o))))))) .o) .o)))))) (.s .o .o))), [(18, 40)], none⟩
/-- boskage/boskageref01.Find -/
noncomputable def g41 : AM.Sig := ⟨41, [.val true [(.int .i64, .pure), (.rsl [.int .i64], .pure)], .val false [(.sl [.int .i64], .pure)]], [(true, [(.int .i64, .pure), (.rsl [.int .i64], .pure)]), (false, [(.bool, .pure)])]⟩
noncomputable def s41 : AM.Spec := ⟨g41, Go.Proofs.Tryd.f41, .s .o (.s (.s .o (.jr [.bx 2 [(.int .i64, .pure), (.rsl [.int .i64], .pure)], .adr 2 (.box 2) 0, .bx 4 [(.int .i64, .pure), (.rsl [.int .i64], .own)], .adr 4 (.box 4) 0] (.j [.bx 2 [(.int .i64, .pure), (.rsl [.int .i64], .pure)], .adr 2 (.box 2) 0, .bx 4 [(.int .i64, .pure), (.rsl [.int .i64], .own)], .adr 4 (.box 4) 0, .tm 8 false [(.sl [.int .i64], .pure)], .tm 9 false [(.int .i64, .pure)], .tm 10 false [(.int .i64, .pure)]] (.s .o (.s (.s .o .o) (.s (.s (.s .o (.s (.s (.j [.bx 2 [(.int .i64, .pure), (.rsl [.int .i64], .pure)], .adr 2 (.box 2) 0, .bx 4 [(.int .i64, .pure), (.rsl [.int .i64], .own)], .adr 4 (.box 4) 0, .tm 7 false [(.int .i64, .pure)], .tm 8 false [(.sl [.int .i64], .pure)], .tm 9 false [(.int .i64, .pure)], .tm 10 false [(.int .i64, .pure)], .tm 22 false [(.bool, .pure)]] .o) (.s (.s .o .o) .o)) .o)) .o) .o)))))) (.s .o .o)), [], none⟩
/-- boskage/boskageref05.Beneath -/
noncomputable def g14 : AM.Sig := ⟨14, [.val true [(.int .i64, .pure), (.sl [.int .i64], .pure), (.sl [.int .i64, .sl [.int .i64], .int .i64], .pure)], .val false [(.int .i64, .pure)], .val true [(.int .i64, .pure), (.rsl [.int .i64], .pure)]], [(false, [(.bool, .pure)])]⟩
noncomputable def s14 : AM.Spec := ⟨g14, Go.Proofs.Tryd.f14, .s .o (.s (.s .o (.jr [] (.j [.tm 1 false [(.int .i64, .pure)], .bx 3 [(.int .i64, .pure), (.sl [.int .i64], .pure), (.sl [.int .i64, .sl [.int .i64], .int .i64], .pure)], .adr 3 (.box 3) 0, .bx 5 [(.int .i64, .pure), (.rsl [.int .i64], .pure)], .adr 5 (.box 5) 0, .tm 12 false [(.sl [.sl [.int .i64]], .own)], .tm 13 false [(.int .i64, .pure)], .tm 14 false [(.int .i64, .pure)]] (.s .o (.s (.s .o .o) (.s (.s (.s .o (.s .o (.s (.j [.tm 1 false [(.int .i64, .pure)], .bx 3 [(.int .i64, .pure), (.sl [.int .i64], .pure), (.sl [.int .i64, .sl [.int .i64], .int .i64], .pure)], .adr 3 (.box 3) 0, .bx 5 [(.int .i64, .pure), (.rsl [.int .i64], .pure)], .adr 5 (.box 5) 0, .tm 12 false [(.sl [.sl [.int .i64]], .own)], .tm 13 false [(.int .i64, .pure)], .tm 14 false [(.int .i64, .pure)], .tm 32 false [(.bool, .pure)]] .o) (.s (.s .o .o) .o)))) .o) .o)))))) (.s .o .o)), [(12, 40), (21, 41), (31, 16)], none⟩
/-- boskage/boskagelaw05.right -/
noncomputable def g13 : AM.Sig := ⟨13, [.val true [(.sl [.int .i64], .pure)], .val true [(.int .i64, .pure), (.sl [.int .i64], .pure), (.sl [.int .i64, .sl [.int .i64], .int .i64], .pure)], .val true [(.int .i64, .pure), (.rsl [.int .i64], .pure)], .val false [(.bool, .pure)]], [(false, [(.bool, .pure)])]⟩
noncomputable def s13 : AM.Spec := ⟨g13, Go.Proofs.Tryd.f13, .s .o (.s .o .o), [(11, 16)], none⟩
/-- boskage/boskagelaw05.BooleanUnder -/
noncomputable def g3 : AM.Sig := ⟨3, [.val true [(.sl [.int .i64], .pure)], .val true [(.int .i64, .pure), (.sl [.int .i64], .pure), (.sl [.int .i64, .sl [.int .i64], .int .i64], .pure)], .val false [(.int .i64, .pure)], .val true [(.int .i64, .pure), (.rsl [.int .i64], .pure)]], [(false, [(.bool, .pure)])]⟩
noncomputable def s3 : AM.Spec := ⟨g3, Go.Proofs.Tryd.f3, .s .o (.s (.s .o (.s (.s .o .o) .o)) (.s .o (.s (.s (.s .o (.s (.s (.j [.tm 8 false [(.bool, .pure)]] .o) .o) (.s (.j [.tm 2 false [(.int .i64, .pure)], .bx 4 [(.sl [.int .i64], .pure)], .adr 4 (.box 4) 0, .bx 5 [(.int .i64, .pure), (.sl [.int .i64], .pure), (.sl [.int .i64, .sl [.int .i64], .int .i64], .pure)], .adr 5 (.box 5) 0, .bx 7 [(.int .i64, .pure), (.rsl [.int .i64], .pure)], .adr 7 (.box 7) 0, .bx 9 [(.int .i64, .pure), (.sl [.int .i64], .pure), (.sl [.int .i64, .sl [.int .i64], .int .i64], .pure)], .adr 9 (.box 9) 0, .tm 10 false [(.int .i64, .pure)], .tm 36 false [(.bool, .pure)]] .o) (.s (.s (.j [.tm 8 false [(.bool, .pure)]] .o) .o) .o)))) .o) (.s (.s (.j [.tm 2 false [(.int .i64, .pure)], .bx 4 [(.sl [.int .i64], .pure)], .adr 4 (.box 4) 0, .bx 5 [(.int .i64, .pure), (.sl [.int .i64], .pure), (.sl [.int .i64, .sl [.int .i64], .int .i64], .pure)], .adr 5 (.box 5) 0, .bx 7 [(.int .i64, .pure), (.rsl [.int .i64], .pure)], .adr 7 (.box 7) 0, .bx 9 [(.int .i64, .pure), (.sl [.int .i64], .pure), (.sl [.int .i64, .sl [.int .i64], .int .i64], .pure)], .adr 9 (.box 9) 0, .tm 59 false [(.bool, .pure)]] .o) (.s (.s .o .o) .o)) (.s (.j [.tm 8 false [(.bool, .pure)]] .o) .o))))), [(15, 8), (17, 9), (22, 10), (29, 11), (34, 9), (49, 9), (57, 11), (62, 12), (71, 14), (72, 13), (75, 9)], none⟩
/-- boskage/boskagelaw05.many -/
noncomputable def g19 : AM.Sig := ⟨19, [.val false [(.int .i64, .pure)], .val false [(.int .i64, .pure)]], [(true, [(.int .i64, .pure), (.sl [.int .i64], .own), (.sl [.int .i64, .sl [.int .i64], .int .i64], .own)])]⟩
noncomputable def s19 : AM.Spec := ⟨g19, Go.Proofs.Tryd.f19, .s .o (.s .o (.s (.s .o (.j [.bx 4 [(.int .i64, .pure), (.sl [.int .i64], .own), (.sl [.int .i64, .sl [.int .i64], .int .i64], .own)], .adr 4 (.box 4) 0, .bx 5 [(.int .i64, .pure), (.sl [.int .i64], .own), (.sl [.int .i64, .sl [.int .i64], .int .i64], .own)], .adr 5 (.box 5) 0] (.j [.bx 4 [(.int .i64, .pure), (.sl [.int .i64], .own), (.sl [.int .i64, .sl [.int .i64], .int .i64], .own)], .adr 4 (.box 4) 0, .bx 5 [(.int .i64, .pure), (.sl [.int .i64], .own), (.sl [.int .i64, .sl [.int .i64], .int .i64], .own)], .adr 5 (.box 5) 0, .tm 8 false [(.int .i64, .pure)], .tm 9 false [(.int .i64, .pure)]] (.s .o (.s (.s .o .o) (.s (.s .o .o) .o)))))) (.s .o .o))), [], none⟩
/-- boskage/boolean.Union -/
noncomputable def g15 : AM.Sig := ⟨15, [.val true [(.sl [.int .i64], .pure)], .val true [(.int .i64, .pure), (.sl [.int .i64], .pure), (.sl [.int .i64, .sl [.int .i64], .int .i64], .pure)], .val true [(.int .i64, .pure), (.sl [.int .i64], .pure), (.sl [.int .i64, .sl [.int .i64], .int .i64], .pure)]], [(true, [(.int .i64, .pure), (.sl [.int .i64], .pure), (.sl [.int .i64, .sl [.int .i64], .int .i64], .pure)]), (false, [(.int .i64, .pure)])]⟩
noncomputable def s15 : AM.Spec := ⟨g15, Go.Proofs.Tryd.f15, .s .o (.s (.s (.s (.j [.bx 4 [(.int .i64, .pure), (.sl [.int .i64], .pure), (.sl [.int .i64, .sl [.int .i64], .int .i64], .pure)], .adr 4 (.box 4) 0, .bx 5 [(.int .i64, .pure), (.sl [.int .i64], .pure), (.sl [.int .i64, .sl [.int .i64], .int .i64], .pure)], .adr 5 (.box 5) 0, .bx 6 [(.int .i64, .pure), (.sl [.int .i64], .own), (.sl [.int .i64, .sl [.int .i64], .int .i64], .own)], .adr 6 (.box 6) 0, .tm 15 false [(.bool, .pure)]] .o) (.s (.s .o .o) (.s (.j [.bx 4 [(.int .i64, .pure), (.sl [.int .i64], .pure), (.sl [.int .i64, .sl [.int .i64], .int .i64], .pure)], .adr 4 (.box 4) 0, .bx 5 [(.int .i64, .pure), (.sl [.int .i64], .pure), (.sl [.int .i64, .sl [.int .i64], .int .i64], .pure)], .adr 5 (.box 5) 0, .bx 6 [(.int .i64, .pure), (.sl [.int .i64], .own), (.sl [.int .i64, .sl [.int .i64], .int .i64], .own)], .adr 6 (.box 6) 0, .tm 27 false [(.bool, .pure)]] .o) (.s (.s .o .o) .o)))) .o) (.s .o (.s .o (.s (.s .o (.j [.bx 4 [(.int .i64, .pure), (.sl [.int .i64], .pure), (.sl [.int .i64, .sl [.int .i64], .int .i64], .pure)], .adr 4 (.box 4) 0, .bx 6 [(.int .i64, .pure), (.sl [.int .i64], .own), (.sl [.int .i64, .sl [.int .i64], .int .i64], .own)], .adr 6 (.box 6) 0, .bx 8 [(.int .i64, .pure), (.sl [.int .i64], .own), (.sl [.int .i64, .sl [.int .i64], .int .i64], .own)], .adr 8 (.box 8) 0, .bx 9 [(.int .i64, .pure), (.sl [.int .i64], .own), (.sl [.int .i64, .sl [.int .i64], .int .i64], .own)], .adr 9 (.box 9) 0] (.j [.bx 4 [(.int .i64, .pure), (.sl [.int .i64], .pure), (.sl [.int .i64, .sl [.int .i64], .int .i64], .pure)], .adr 4 (.box 4) 0, .bx 6 [(.int .i64, .pure), (.sl [.int .i64], .own), (.sl [.int .i64, .sl [.int .i64], .int .i64], .own)], .adr 6 (.box 6) 0, .bx 8 [(.int .i64, .pure), (.sl [.int .i64], .own), (.sl [.int .i64, .sl [.int .i64], .int .i64], .own)], .adr 8 (.box 8) 0, .bx 9 [(.int .i64, .pure), (.sl [.int .i64], .own), (.sl [.int .i64, .sl [.int .i64], .int .i64], .own)], .adr 9 (.box 9) 0, .rf 56 (.box 9) 1 false 1, .tm 57 false [(.int .i64, .pure)], .tm 58 false [(.int .i64, .pure)]] (.s .o (.s (.s .o .o) (.s (.s (.s .o .o) .o) .o)))))) (.s (.s .o (.j [.bx 6 [(.int .i64, .pure), (.sl [.int .i64], .own), (.sl [.int .i64, .sl [.int .i64], .int .i64], .own)], .adr 6 (.box 6) 0, .bx 8 [(.int .i64, .pure), (.sl [.int .i64], .own), (.sl [.int .i64, .sl [.int .i64], .int .i64], .own)], .adr 8 (.box 8) 0] (.j [.bx 4 [(.int .i64, .pure), (.sl [.int .i64], .pure), (.sl [.int .i64, .sl [.int .i64], .int .i64], .pure)], .adr 4 (.box 4) 0, .bx 6 [(.int .i64, .pure), (.sl [.int .i64], .own), (.sl [.int .i64, .sl [.int .i64], .int .i64], .own)], .adr 6 (.box 6) 0, .bx 8 [(.int .i64, .pure), (.sl [.int .i64], .own), (.sl [.int .i64, .sl [.int .i64], .int .i64], .own)], .adr 8 (.box 8) 0, .bx 9 [(.int .i64, .pure), (.sl [.int .i64], .own), (.sl [.int .i64, .sl [.int .i64], .int .i64], .own)], .rf 73 (.box 9) 2 false 1, .tm 74 false [(.int .i64, .pure)], .tm 75 false [(.int .i64, .pure)]] (.s .o (.s (.s .o .o) (.s (.s (.s .o (.s (.s .o (.j [.bx 4 [(.int .i64, .pure), (.sl [.int .i64], .pure), (.sl [.int .i64, .sl [.int .i64], .int .i64], .pure)], .adr 4 (.box 4) 0, .bx 6 [(.int .i64, .pure), (.sl [.int .i64], .own), (.sl [.int .i64, .sl [.int .i64], .int .i64], .own)], .adr 6 (.box 6) 0, .bx 8 [(.int .i64, .pure), (.sl [.int .i64], .own), (.sl [.int .i64, .sl [.int .i64], .int .i64], .own)], .adr 8 (.box 8) 0, .bx 9 [(.int .i64, .pure), (.sl [.int .i64], .own), (.sl [.int .i64, .sl [.int .i64], .int .i64], .own)], .bx 13 [(.int .i64, .pure), (.sl [.int .i64], .pure), (.int .i64, .pure)], .adr 13 (.box 13) 0, .rf 73 (.box 9) 2 false 1, .tm 74 false [(.int .i64, .pure)], .tm 75 false [(.int .i64, .pure)]] (.j [.bx 4 [(.int .i64, .pure), (.sl [.int .i64], .pure), (.sl [.int .i64, .sl [.int .i64], .int .i64], .pure)], .adr 4 (.box 4) 0, .bx 6 [(.int .i64, .pure), (.sl [.int .i64], .own), (.sl [.int .i64, .sl [.int .i64], .int .i64], .own)], .adr 6 (.box 6) 0, .bx 8 [(.int .i64, .pure), (.sl [.int .i64], .own), (.sl [.int .i64, .sl [.int .i64], .int .i64], .own)], .adr 8 (.box 8) 0, .bx 9 [(.int .i64, .pure), (.sl [.int .i64], .own), (.sl [.int .i64, .sl [.int .i64], .int .i64], .own)], .bx 13 [(.int .i64, .pure), (.sl [.int .i64], .pure), (.int .i64, .pure)], .adr 13 (.box 13) 0, .rf 73 (.box 9) 2 false 1, .tm 74 false [(.int .i64, .pure)], .tm 75 false [(.int .i64, .pure)], .tm 81 false [(.int .i64, .pure)], .tm 82 false [(.int .i64, .pure)]] (.s .o (.s (.s .o .o) (.s (.s (.s .o .o) .o) .o)))))) (.s .o .o))) .o) .o)))))) (.s .o .o)))))), [(18, 34), (23, 34), (46, 35), (48, 35)], none⟩
/-- boskage/boskagelaw05.BooleanFull -/
noncomputable def g5 : AM.Sig := ⟨5, [.val false [(.int .i64, .pure)], .val false [(.int .i64, .pure)], .val false [(.int .i64, .pure)], .val false [(.int .i64, .pure)]], [(false, [(.bool, .pure)])]⟩
noncomputable def s5 : AM.Spec := ⟨g5, Go.Proofs.Tryd.f5, .s .o (.s (.s (.j [.tm 0 false [(.int .i64, .pure)], .tm 1 false [(.int .i64, .pure)], .tm 2 false [(.int .i64, .pure)], .tm 3 false [(.int .i64, .pure)], .tm 40 false [(.bool, .pure)]] .o) (.s (.s .o .o) .o)) (.s .o (.s (.s (.j [.bx 9 [(.int .i64, .pure), (.sl [.int .i64], .pure), (.sl [.int .i64, .sl [.int .i64], .int .i64], .pure)], .adr 9 (.box 9) 0, .tm 10 false [(.int .i64, .pure)], .tm 62 false [(.bool, .pure)]] .o) (.s (.s (.j [.tm 8 false [(.bool, .pure)]] .o) .o) .o)) (.s (.j [.tm 8 false [(.bool, .pure)]] .o) .o)))), [(41, 9), (46, 19), (49, 19), (50, 15), (66, 9), (74, 11), (77, 9)], none⟩
noncomputable def specTab : List (Nat × AM.Spec) := [(28, s28), (51, s51), (29, s29), (8, s8), (30, s30), (62, s62), (1001, s1001), (1000, s1000), (47, s47), (52, s52), (34, s34), (37, s37), (35, s35), (36, s36), (68, s68), (53, s53), (38, s38), (10, s10), (32, s32), (31, s31), (21, s21), (33, s33), (54, s54), (69, s69), (55, s55), (43, s43), (42, s42), (16, s16), (9, s9), (11, s11), (39, s39), (12, s12), (40, s40), (41, s41), (14, s14), (13, s13), (3, s3), (19, s19), (15, s15), (5, s5)]
noncomputable def globAt (g : Nat) : Option (List CV) := bif Nat.beq g 0 then some [⟨.sl [.int .i64], .pure, ([0, 2] : List Int)⟩] else none
noncomputable def prg : AM.Prg := ⟨tabAt tyTab, globAt, orAt s28 specTab⟩
noncomputable def envX (i : Nat) : Env := prg.env i fun _ _ => none
theorem fn28 : FnOk Go.Proofs.Tryd.prog s28 := ⟨Go.Proofs.Tryd.func28, by kernel_rfl, by kernel_rfl, by kernel_rfl⟩
theorem fn51 : FnOk Go.Proofs.Tryd.prog s51 := ⟨Go.Proofs.Tryd.func51, by kernel_rfl, by kernel_rfl, by kernel_rfl⟩
theorem fn29 : FnOk Go.Proofs.Tryd.prog s29 := ⟨Go.Proofs.Tryd.func29, by kernel_rfl, by kernel_rfl, by kernel_rfl⟩
theorem fn8 : FnOk Go.Proofs.Tryd.prog s8 := ⟨Go.Proofs.Tryd.func8, by kernel_rfl, by kernel_rfl, by kernel_rfl⟩
theorem fn30 : FnOk Go.Proofs.Tryd.prog s30 := ⟨Go.Proofs.Tryd.func30, by kernel_rfl, by kernel_rfl, by kernel_rfl⟩
theorem fn62 : FnOk Go.Proofs.Tryd.prog s62 := ⟨Go.Proofs.Tryd.func62, by kernel_rfl, by kernel_rfl, by kernel_rfl⟩
theorem fn1001 : FnOk Go.Proofs.Tryd.prog s1001 := ⟨Go.Proofs.Tryd.func78, by kernel_rfl, by kernel_rfl, by kernel_rfl⟩
theorem fn1000 : FnOk Go.Proofs.Tryd.prog s1000 := ⟨Go.Proofs.Tryd.func61, by kernel_rfl, by kernel_rfl, by kernel_rfl⟩
theorem fn47 : FnOk Go.Proofs.Tryd.prog s47 := ⟨Go.Proofs.Tryd.func47, by kernel_rfl, by kernel_rfl, by kernel_rfl⟩
theorem fn52 : FnOk Go.Proofs.Tryd.prog s52 := ⟨Go.Proofs.Tryd.func52, by kernel_rfl, by kernel_rfl, by kernel_rfl⟩
theorem fn34 : FnOk Go.Proofs.Tryd.prog s34 := ⟨Go.Proofs.Tryd.func34, by kernel_rfl, by kernel_rfl, by kernel_rfl⟩
theorem fn37 : FnOk Go.Proofs.Tryd.prog s37 := ⟨Go.Proofs.Tryd.func37, by kernel_rfl, by kernel_rfl, by kernel_rfl⟩
theorem fn35 : FnOk Go.Proofs.Tryd.prog s35 := ⟨Go.Proofs.Tryd.func35, by kernel_rfl, by kernel_rfl, by kernel_rfl⟩
theorem fn36 : FnOk Go.Proofs.Tryd.prog s36 := ⟨Go.Proofs.Tryd.func36, by kernel_rfl, by kernel_rfl, by kernel_rfl⟩
theorem fn68 : FnOk Go.Proofs.Tryd.prog s68 := ⟨Go.Proofs.Tryd.func68, by kernel_rfl, by kernel_rfl, by kernel_rfl⟩
theorem fn53 : FnOk Go.Proofs.Tryd.prog s53 := ⟨Go.Proofs.Tryd.func53, by kernel_rfl, by kernel_rfl, by kernel_rfl⟩
theorem fn38 : FnOk Go.Proofs.Tryd.prog s38 := ⟨Go.Proofs.Tryd.func38, by kernel_rfl, by kernel_rfl, by kernel_rfl⟩
theorem fn10 : FnOk Go.Proofs.Tryd.prog s10 := ⟨Go.Proofs.Tryd.func10, by kernel_rfl, by kernel_rfl, by kernel_rfl⟩
theorem fn32 : FnOk Go.Proofs.Tryd.prog s32 := ⟨Go.Proofs.Tryd.func32, by kernel_rfl, by kernel_rfl, by kernel_rfl⟩
theorem fn31 : FnOk Go.Proofs.Tryd.prog s31 := ⟨Go.Proofs.Tryd.func31, by kernel_rfl, by kernel_rfl, by kernel_rfl⟩
theorem fn21 : FnOk Go.Proofs.Tryd.prog s21 := ⟨Go.Proofs.Tryd.func21, by kernel_rfl, by kernel_rfl, by kernel_rfl⟩
theorem fn33 : FnOk Go.Proofs.Tryd.prog s33 := ⟨Go.Proofs.Tryd.func33, by kernel_rfl, by kernel_rfl, by kernel_rfl⟩
theorem fn54 : FnOk Go.Proofs.Tryd.prog s54 := ⟨Go.Proofs.Tryd.func54, by kernel_rfl, by kernel_rfl, by kernel_rfl⟩
theorem fn69 : FnOk Go.Proofs.Tryd.prog s69 := ⟨Go.Proofs.Tryd.func69, by kernel_rfl, by kernel_rfl, by kernel_rfl⟩
theorem fn55 : FnOk Go.Proofs.Tryd.prog s55 := ⟨Go.Proofs.Tryd.func55, by kernel_rfl, by kernel_rfl, by kernel_rfl⟩
theorem fn43 : FnOk Go.Proofs.Tryd.prog s43 := ⟨Go.Proofs.Tryd.func43, by kernel_rfl, by kernel_rfl, by kernel_rfl⟩
theorem fn42 : FnOk Go.Proofs.Tryd.prog s42 := ⟨Go.Proofs.Tryd.func42, by kernel_rfl, by kernel_rfl, by kernel_rfl⟩
theorem fn16 : FnOk Go.Proofs.Tryd.prog s16 := ⟨Go.Proofs.Tryd.func16, by kernel_rfl, by kernel_rfl, by kernel_rfl⟩
theorem fn9 : FnOk Go.Proofs.Tryd.prog s9 := ⟨Go.Proofs.Tryd.func9, by kernel_rfl, by kernel_rfl, by kernel_rfl⟩
theorem fn11 : FnOk Go.Proofs.Tryd.prog s11 := ⟨Go.Proofs.Tryd.func11, by kernel_rfl, by kernel_rfl, by kernel_rfl⟩
theorem fn39 : FnOk Go.Proofs.Tryd.prog s39 := ⟨Go.Proofs.Tryd.func39, by kernel_rfl, by kernel_rfl, by kernel_rfl⟩
theorem fn12 : FnOk Go.Proofs.Tryd.prog s12 := ⟨Go.Proofs.Tryd.func12, by kernel_rfl, by kernel_rfl, by kernel_rfl⟩
theorem fn40 : FnOk Go.Proofs.Tryd.prog s40 := ⟨Go.Proofs.Tryd.func40, by kernel_rfl, by kernel_rfl, by kernel_rfl⟩
theorem fn41 : FnOk Go.Proofs.Tryd.prog s41 := ⟨Go.Proofs.Tryd.func41, by kernel_rfl, by kernel_rfl, by kernel_rfl⟩
theorem fn14 : FnOk Go.Proofs.Tryd.prog s14 := ⟨Go.Proofs.Tryd.func14, by kernel_rfl, by kernel_rfl, by kernel_rfl⟩
theorem fn13 : FnOk Go.Proofs.Tryd.prog s13 := ⟨Go.Proofs.Tryd.func13, by kernel_rfl, by kernel_rfl, by kernel_rfl⟩
theorem fn3 : FnOk Go.Proofs.Tryd.prog s3 := ⟨Go.Proofs.Tryd.func3, by kernel_rfl, by kernel_rfl, by kernel_rfl⟩
theorem fn19 : FnOk Go.Proofs.Tryd.prog s19 := ⟨Go.Proofs.Tryd.func19, by kernel_rfl, by kernel_rfl, by kernel_rfl⟩
theorem fn15 : FnOk Go.Proofs.Tryd.prog s15 := ⟨Go.Proofs.Tryd.func15, by kernel_rfl, by kernel_rfl, by kernel_rfl⟩
theorem fn5 : FnOk Go.Proofs.Tryd.prog s5 := ⟨Go.Proofs.Tryd.func5, by kernel_rfl, by kernel_rfl, by kernel_rfl⟩
theorem fnAll : ∀ i, FnOk Go.Proofs.Tryd.prog (prg.spec i) := orAt_all fn28 specTab (by
  intro x hx
  simp only [specTab, List.mem_cons, List.not_mem_nil, or_false] at hx
  rcases hx with rfl | rfl | rfl | rfl | rfl | rfl | rfl | rfl | rfl | rfl | rfl | rfl | rfl | rfl | rfl | rfl | rfl | rfl | rfl | rfl | rfl | rfl | rfl | rfl | rfl | rfl | rfl | rfl | rfl | rfl | rfl | rfl | rfl | rfl | rfl | rfl | rfl | rfl | rfl | rfl
  · exact fn28
  · exact fn51
  · exact fn29
  · exact fn8
  · exact fn30
  · exact fn62
  · exact fn1001
  · exact fn1000
  · exact fn47
  · exact fn52
  · exact fn34
  · exact fn37
  · exact fn35
  · exact fn36
  · exact fn68
  · exact fn53
  · exact fn38
  · exact fn10
  · exact fn32
  · exact fn31
  · exact fn21
  · exact fn33
  · exact fn54
  · exact fn69
  · exact fn55
  · exact fn43
  · exact fn42
  · exact fn16
  · exact fn9
  · exact fn11
  · exact fn39
  · exact fn12
  · exact fn40
  · exact fn41
  · exact fn14
  · exact fn13
  · exact fn3
  · exact fn19
  · exact fn15
  · exact fn5)
theorem tyOk : TyOk Go.Proofs.Tryd.prog prg.ty := tyOk_of (by kernel_rfl)
theorem rdOk : RdOk Go.Proofs.Tryd.prog prg.ty := rdOk_of (by kernel_rfl)
theorem mixed : Go.Proofs.Tryd.prog.follows .mixedOrders = true := by kernel_rfl
theorem envX_ok (i : Nat) : EnvOk Go.Proofs.Tryd.prog (envX i) := ⟨tyOk, fun _ x r h => by cases h⟩
end Go.Proofs.YtgkobbodicfofaaDoor.Am
end
