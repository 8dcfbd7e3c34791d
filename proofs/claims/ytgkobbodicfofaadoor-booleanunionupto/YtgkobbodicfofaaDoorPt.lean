import Derived.Test.YtgkobbodicfofaaDoorMd
import Derived.Test.YtgkobbodicfofaaDoorProg
import Derived.KernelRfl
noncomputable section
namespace Go.Proofs.YtgkobbodicfofaaDoor.Am
open Go Go.AM
/-- slices.Clone at a list of ints -/
noncomputable def cloneX (x : List Int) : Option (List Int) := bif decide (List.length x ≤ maxRows) then some x else none
end Go.Proofs.YtgkobbodicfofaaDoor.Am
end
noncomputable section
namespace Go.Proofs.YtgkobbodicfofaaDoor.Am
open Go Go.AM
set_option maxRecDepth 100000
set_option linter.unusedVariables false
abbrev vi : Sh × Tg := (.int .i64, .pure)
abbrev vl : Sh × Tg := (.sl [.int .i64], .pure)
abbrev vr : Sh × Tg := (.sl [.int .i64, .sl [.int .i64], .int .i64], .pure)
abbrev vb : Sh × Tg := (.bool, .pure)
abbrev wl : Sh × Tg := (.sl [.int .i64], .own)
abbrev wr : Sh × Tg := (.sl [.int .i64, .sl [.int .i64], .int .i64], .own)
abbrev vk : Sh × Tg := (.rsl [.int .i64], .pure)
noncomputable def tyTab : List (Nat × TyI) := [(2, ⟨false, [.int .i64], [], [], none⟩),
  (3, ⟨false, [.int .i64], [], [], none⟩),
  (4, ⟨false, [.bool], [], [], none⟩),
  (5, ⟨false, [.int .u8], [], [], none⟩),
  (6, ⟨false, [.int .u8], [], [], none⟩),
  (7, ⟨true, [.int .i64, .int .i64, .bool, .int .u8], [(0, 1), (1, 1), (2, 1), (3, 1)], [2, 3, 4, 6], none⟩),
  (8, ⟨true, [.int .i64, .int .i64, .bool, .int .u8], [(0, 1), (1, 1), (2, 1), (3, 1)], [2, 3, 4, 6], none⟩),
  (9, ⟨false, [.str], [], [], none⟩),
  (10, ⟨false, [.str], [], [], none⟩),
  (11, ⟨false, [.str], [], [], none⟩),
  (12, ⟨false, [.int .u64], [], [], none⟩),
  (13, ⟨true, [.str, .int .u64], [(0, 1), (1, 1)], [9, 12], none⟩),
  (14, ⟨true, [.str, .int .u64], [(0, 1), (1, 1)], [9, 12], none⟩),
  (21, ⟨false, [.int .i32], [], [], none⟩),
  (22, ⟨false, [.sl [.int .i64]], [], [], (some 3)⟩),
  (23, ⟨true, [.sl [.int .i64]], [(0, 1)], [22], none⟩),
  (24, ⟨true, [.sl [.int .i64]], [(0, 1)], [22], none⟩),
  (25, ⟨false, [.sl [.int .i64, .sl [.int .i64], .int .i64]], [], [], (some 66)⟩),
  (26, ⟨true, [.int .i64, .sl [.int .i64], .sl [.int .i64, .sl [.int .i64], .int .i64]], [(0, 1), (1, 1), (2, 1)], [3, 22, 25], none⟩),
  (27, ⟨true, [.int .i64, .sl [.int .i64], .sl [.int .i64, .sl [.int .i64], .int .i64]], [(0, 1), (1, 1), (2, 1)], [3, 22, 25], none⟩),
  (28, ⟨false, [.rsl [.int .i64]], [], [], (some 30)⟩),
  (29, ⟨true, [.int .i64, .rsl [.int .i64]], [(0, 1), (1, 1)], [3, 28], none⟩),
  (30, ⟨true, [.int .i64, .rsl [.int .i64]], [(0, 1), (1, 1)], [3, 28], none⟩),
  (33, ⟨false, [.int .i64], [], [], none⟩),
  (55, ⟨false, [.sl [.int .i64, .sl [.int .i64], .sl [.int .i64, .sl [.int .i64], .int .i64]]], [], [], (some 27)⟩),
  (63, ⟨false, [.sl [.bool]], [], [], (some 4)⟩),
  (65, ⟨true, [.int .i64, .sl [.int .i64], .int .i64], [(0, 1), (1, 1), (2, 1)], [3, 22, 3], none⟩),
  (66, ⟨true, [.int .i64, .sl [.int .i64], .int .i64], [(0, 1), (1, 1), (2, 1)], [3, 22, 3], none⟩),
  (69, ⟨false, [.sl [.sl [.int .i64]]], [], [], (some 22)⟩),
  (81, ⟨false, [.int .u64], [], [], none⟩),
  (96, ⟨false, [.int .u32], [], [], none⟩),
  (99, ⟨false, [.int .u64], [], [], none⟩),
  (119, ⟨true, [.int .i64, .sl [.sl [.int .i64]]], [(0, 1), (1, 1)], [3, 69], none⟩),
  (120, ⟨true, [.int .i64, .sl [.sl [.int .i64]]], [(0, 1), (1, 1)], [3, 69], none⟩),
  (126, ⟨false, [.int .i64], [], [], none⟩),
  (136, ⟨false, [.int .u64], [], [], none⟩),
  (152, ⟨false, [.int .u8], [], [], none⟩),
  (153, ⟨false, [.int .u8], [], [], none⟩),
  (156, ⟨false, [.int .i32], [], [], none⟩),
  (157, ⟨false, [.int .i32], [], [], none⟩)]
/-- boskage/boskageref03.Few -/
noncomputable def g28 : AM.Sig := ⟨28, [.val true [vl], .val false [vi], .val false [vi], .val false [(.sl [.int .i64, .sl [.int .i64], .sl [.int .i64, .sl [.int .i64], .int .i64]], .pure)]], [(false, [vb])]⟩
noncomputable def s28 : AM.Spec := ⟨g28, Go.Proofs.Tryd.f28, .s .o (.s (.s .o (.jr [.bx 4 [vl], .adr 4 (.box 4) 0] (.j [.tm 1 false [vi], .tm 2 false [vi], .bx 4 [vl], .adr 4 (.box 4) 0, .tm 13 false [(.sl [.int .i64, .sl [.int .i64], .sl [.int .i64, .sl [.int .i64], .int .i64]], .pure)], .tm 14 false [vi], .tm 15 false [vi]] (.s .o (.s (.s .o .o) (.s (.s (.s .o (.s (.s (.j [.tm 1 false [vi], .tm 2 false [vi], .bx 4 [vl], .adr 4 (.box 4) 0, .bx 10 [vi, vl, vr], .adr 10 (.box 10) 0, .tm 13 false [(.sl [.int .i64, .sl [.int .i64], .sl [.int .i64, .sl [.int .i64], .int .i64]], .pure)], .tm 14 false [vi], .tm 15 false [vi], .tm 41 false [vb]] .o) (.s (.s .o .o) .o)) (.s .o (.jr [.tm 1 false [vi], .tm 2 false [vi], .bx 4 [vl], .adr 4 (.box 4) 0, .tm 13 false [(.sl [.int .i64, .sl [.int .i64], .sl [.int .i64, .sl [.int .i64], .int .i64]], .pure)], .tm 14 false [vi], .tm 15 false [vi]] (.j [.tm 1 false [vi], .tm 2 false [vi], .bx 4 [vl], .adr 4 (.box 4) 0, .tm 13 false [(.sl [.int .i64, .sl [.int .i64], .sl [.int .i64, .sl [.int .i64], .int .i64]], .pure)], .tm 14 false [vi], .tm 15 false [vi], .tm 43 false [vr], .tm 44 false [vi], .tm 45 false [vi]] (.s .o (.s (.s .o .o) (.s (.s (.s .o (.s .o (.s (.s .o .o) .o))) .o) .o)))))))) .o) .o)))))) (.s .o .o)), [], none⟩
/-- boskage/boskageref01.count -/
noncomputable def g51 : AM.Sig := ⟨51, [.val true [vi, vk], .val false [vi]], [(false, [vi])]⟩
noncomputable def s51 : AM.Spec := ⟨g51, Go.Proofs.Tryd.f51, .s .o (.s .o (.s (.s .o (.j [.tm 5 false [vi]] (.j [.tm 1 false [vi], .tm 5 false [vi], .tm 9 false [vk], .tm 10 false [vi], .tm 11 false [vi]] (.s .o (.s (.s .o .o) (.s (.s (.s .o (.s .o (.j [.tm 1 false [vi], .tm 5 false [vi], .tm 9 false [vk], .tm 10 false [vi], .tm 11 false [vi]] (.s .o .o)))) .o) .o)))))) (.s .o .o))), [(23, 51)], none⟩
/-- boskage/boskageref01.Few -/
noncomputable def g29 : AM.Sig := ⟨29, [.val true [vi, vk], .val false [vi]], [(false, [vb])]⟩
noncomputable def s29 : AM.Spec := ⟨g29, Go.Proofs.Tryd.f29, .s .o (.s .o .o), [(7, 51)], none⟩
/-- boskage/boskagelaw05.few -/
noncomputable def g8 : AM.Sig := ⟨8, [.val true [vl], .val true [vi, vk], .val false [(.sl [.int .i64, .sl [.int .i64], .sl [.int .i64, .sl [.int .i64], .int .i64]], .pure)]], [(false, [vb])]⟩
noncomputable def s8 : AM.Spec := ⟨g8, Go.Proofs.Tryd.f8, .s .o (.s (.j [.tm 6 false [vb]] .o) .o), [(9, 28), (12, 29)], none⟩
/-- boskage/boskagelaw05.even -/
noncomputable def g30 : AM.Sig := ⟨30, [], [(true, [vi, wl, wr])]⟩
noncomputable def s30 : AM.Spec := ⟨g30, Go.Proofs.Tryd.f30, .s .o (.s .o .o), [], none⟩
/-- boskage/tree.ValidAlphabet$1 -/
noncomputable def g62 : AM.Sig := ⟨62, [.val false [vi]], [(false, [vb])]⟩
noncomputable def s62 : AM.Spec := ⟨g62, Go.Proofs.Tryd.f62, .s .o (.s (.j [.tm 2 false [vb]] .o) .o), [], none⟩
/-- slices.IndexFunc[[]int,int] -/
noncomputable def g1001 : AM.Sig := ⟨78, [.val false [vl], .fn 62], [(false, [vi])]⟩
noncomputable def s1001 : AM.Spec := ⟨g1001, Go.Proofs.Tryd.f78, .s .o (.s (.s .o (.jr [] (.j [.tm 0 false [vl], .fn 1 62, .tm 7 false [vi], .tm 8 false [vi]] (.s .o (.s (.s .o .o) (.s (.s (.s .o (.s .o (.s (.s .o .o) .o))) .o) .o)))))) (.s .o .o)), [(16, 62)], none⟩
/-- slices.ContainsFunc[[]int,int] -/
noncomputable def g1000 : AM.Sig := ⟨61, [.val false [vl], .fn 62], [(false, [vb])]⟩
noncomputable def s1000 : AM.Spec := ⟨g1000, Go.Proofs.Tryd.f61, .s .o (.s .o .o), [(7, 1001)], none⟩
/-- boskage/tree.ValidAlphabet -/
noncomputable def g47 : AM.Sig := ⟨47, [.val true [vl]], [(false, [vb])]⟩
noncomputable def s47 : AM.Spec := ⟨g47, Go.Proofs.Tryd.f47, .s .o (.s (.j [.tm 2 false [vb]] .o) .o), [(10, 1000)], none⟩
/-- boskage/auto.Valid$1 -/
noncomputable def g52 : AM.Sig := ⟨52, [.val false [vi], .rptr [vi, vl, vr]], [(false, [vb])]⟩
noncomputable def s52 : AM.Spec := ⟨g52, Go.Proofs.Tryd.f52, .s .o (.s (.j [.tm 3 false [vb]] .o) .o), [], none⟩
/-- boskage/auto.Valid -/
noncomputable def g34 : AM.Sig := ⟨34, [.val true [vl], .val true [vi, vl, vr]], [(false, [vb])]⟩
noncomputable def s34 : AM.Spec := ⟨g34, Go.Proofs.Tryd.f34, .s .o (.s (.s (.j [.bx 2 [vl], .adr 2 (.box 2) 0, .bx 3 [vi, vl, vr], .adr 3 (.box 3) 0, .tm 30 false [vb]] .o) (.s (.s .o .o) .o)) (.s .o (.s (.s .o (.jr [.bx 2 [vl], .adr 2 (.box 2) 0, .bx 3 [vi, vl, vr], .adr 3 (.box 3) 0, .clo 5 52 [(.box 3, 0)]] (.j [.bx 2 [vl], .adr 2 (.box 2) 0, .bx 3 [vi, vl, vr], .adr 3 (.box 3) 0, .clo 5 52 [(.box 3, 0)], .tm 33 false [vl], .tm 34 false [vi], .tm 35 false [vi]] (.s .o (.s (.s .o .o) (.s (.s (.s .o (.s (.j [.bx 2 [vl], .adr 2 (.box 2) 0, .bx 3 [vi, vl, vr], .adr 3 (.box 3) 0, .clo 5 52 [(.box 3, 0)], .tm 33 false [vl], .tm 34 false [vi], .tm 35 false [vi], .tm 57 false [vb]] .o) (.s (.s .o .o) .o))) .o) .o)))))) (.s (.s .o (.jr [] (.j [.bx 2 [vl], .adr 2 (.box 2) 0, .bx 3 [vi, vl, vr], .clo 5 52 [(.box 3, 0)], .tm 60 false [vr], .tm 61 false [vi], .tm 62 false [vi]] (.s .o (.s (.s .o .o) (.s (.s (.s .o (.s (.s (.j [.bx 2 [vl], .adr 2 (.box 2) 0, .bx 3 [vi, vl, vr], .clo 5 52 [(.box 3, 0)], .bx 9 [vi, vl, vi], .adr 9 (.box 9) 0, .tm 60 false [vr], .tm 61 false [vi], .tm 62 false [vi], .tm 95 false [vb]] .o) (.s (.s .o .o) .o)) (.s .o (.jr [.bx 2 [vl], .adr 2 (.box 2) 0, .bx 3 [vi, vl, vr], .clo 5 52 [(.box 3, 0)], .tm 60 false [vr], .tm 61 false [vi], .tm 62 false [vi]] (.j [.bx 2 [vl], .adr 2 (.box 2) 0, .bx 3 [vi, vl, vr], .clo 5 52 [(.box 3, 0)], .tm 60 false [vr], .tm 61 false [vi], .tm 62 false [vi], .tm 97 false [vl], .tm 98 false [vi], .tm 99 false [vi]] (.s .o (.s (.s .o .o) (.s (.s (.s .o (.s .o (.s (.s .o .o) .o))) .o) .o)))))))) .o) .o)))))) (.s .o .o))))), [(13, 47), (42, 52), (93, 52), (105, 52)], none⟩
/-- slices.Clone[[]int,int] -/
noncomputable def g37 : AM.Sig := ⟨37, [.val false [vl]], [(false, [wl])]⟩
noncomputable def s37 : AM.Spec := ⟨g37, Go.Proofs.Tryd.f37, .o, [], (some cloneX)⟩
/-- boskage/auto.Copy -/
noncomputable def g35 : AM.Sig := ⟨35, [.val true [vi, vl, vr]], [(true, [vi, wl, wr])]⟩
noncomputable def s35 : AM.Spec := ⟨g35, Go.Proofs.Tryd.f35, .s .o (.s .o (.s (.s .o (.j [.bx 2 [vi, wl, wr], .adr 2 (.box 2) 0, .bx 3 [vi, wl, wr], .adr 3 (.box 3) 0] (.j [.bx 2 [vi, wl, wr], .adr 2 (.box 2) 0, .bx 3 [vi, wl, wr], .adr 3 (.box 3) 0, .tm 13 false [vr], .tm 14 false [vi], .tm 15 false [vi]] (.s .o (.s (.s .o .o) (.s (.s (.s .o .o) .o) .o)))))) (.s .o .o))), [(10, 37), (25, 37)], none⟩
/-- boskage/auto.Final -/
noncomputable def g36 : AM.Sig := ⟨36, [.val true [vi, vl, vr]], [(false, [(.sl [.bool], .own)])]⟩
noncomputable def s36 : AM.Spec := ⟨g36, Go.Proofs.Tryd.f36, .s .o (.s .o (.s (.s .o (.j [.tm 3 false [(.sl [.bool], .own)]] (.j [.tm 3 false [(.sl [.bool], .own)], .tm 10 false [vl], .tm 11 false [vi], .tm 12 false [vi]] (.s .o (.s (.s .o .o) (.s (.s (.s .o .o) .o) .o)))))) (.s .o .o))), [], none⟩
/-- math/bits.Mul64 -/
noncomputable def g68 : AM.Sig := ⟨68, [.val false [(.int .u64, .pure)], .val false [(.int .u64, .pure)]], [(false, [(.int .u64, .pure)]), (false, [(.int .u64, .pure)])]⟩
noncomputable def s68 : AM.Spec := ⟨g68, Go.Proofs.Tryd.f68, .s .o (.s .o (.s .o (.s .o (.s .o (.s .o (.s .o (.s .o (.s .o (.s .o (.s .o (.s .o .o))))))))))), [], none⟩
/-- math/bits.Mul -/
noncomputable def g53 : AM.Sig := ⟨53, [.val false [(.int .u64, .pure)], .val false [(.int .u64, .pure)]], [(false, [(.int .u64, .pure)]), (false, [(.int .u64, .pure)])]⟩
noncomputable def s53 : AM.Spec := ⟨g53, Go.Proofs.Tryd.f53, .s .o (.s (.s (.s .o (.s .o .o)) .o) (.s .o (.s .o .o))), [(25, 68)], none⟩
/-- slices.Repeat[[]int,int] -/
noncomputable def g38 : AM.Sig := ⟨38, [.val false [vl], .val false [vi]], [(false, [wl])]⟩
noncomputable def s38 : AM.Spec := ⟨g38, Go.Proofs.Tryd.f38, .s .o (.s (.s .o (.j [.tm 0 false [vl], .tm 1 false [vi]] (.s .o .o))) (.s .o (.s (.s (.j [.tm 0 false [vl], .tm 6 false [(.int .u64, .pure)], .tm 26 false [vb]] .o) (.j [.tm 0 false [vl], .tm 6 false [(.int .u64, .pure)]] (.s .o .o))) (.s .o (.s .o (.s (.j [.tm 7 false [wl]] (.j [.tm 7 false [wl], .tm 8 false [vi]] (.s (.s .o (.s .o .o)) (.s .o .o)))) (.s .o .o))))))), [(18, 53)], none⟩
/-- boskage/boolean.Under -/
noncomputable def g10 : AM.Sig := ⟨10, [.val true [vl], .val true [vi, vl, vr], .val false [vi]], [(true, [vi, vl, vr]), (false, [vi])]⟩
noncomputable def s10 : AM.Spec := ⟨g10, Go.Proofs.Tryd.f10, .s .o (.s (.s .o (.s (.s .o .o) .o)) (.s (.s (.j [.tm 2 false [vi], .bx 3 [vl], .adr 3 (.box 3) 0, .bx 4 [vi, vl, vr], .adr 4 (.box 4) 0, .bx 6 [vi, wl, wr], .adr 6 (.box 6) 0, .tm 31 false [vb]] .o) (.s (.s .o .o) .o)) (.s .o (.s .o (.s .o (.s .o (.s (.s .o (.j [.bx 3 [vl], .adr 3 (.box 3) 0, .bx 6 [vi, wl, wr], .adr 6 (.box 6) 0, .bx 8 [vi, wl, wr], .adr 8 (.box 8) 0, .tm 9 false [vi], .tm 10 false [vi]] (.j [.tm 2 false [vi], .bx 3 [vl], .adr 3 (.box 3) 0, .bx 6 [vi, wl, wr], .adr 6 (.box 6) 0, .bx 8 [vi, wl, wr], .adr 8 (.box 8) 0, .tm 9 false [vi], .tm 10 false [vi], .tm 11 false [(.sl [.bool], .own)], .tm 47 false [vr], .tm 48 false [vi], .tm 49 false [vi]] (.s .o (.s (.s .o .o) (.s (.s (.s .o (.s (.j [.tm 2 false [vi], .bx 3 [vl], .adr 3 (.box 3) 0, .bx 6 [vi, wl, wr], .adr 6 (.box 6) 0, .bx 8 [vi, wl, wr], .adr 8 (.box 8) 0, .tm 9 false [vi], .tm 10 false [vi], .tm 11 false [(.sl [.bool], .own)], .bx 13 [vi, vl, vi], .adr 13 (.box 13) 0, .tm 47 false [vr], .tm 48 false [vi], .tm 49 false [vi], .tm 63 false [vb]] .o) (.j [.tm 2 false [vi], .bx 3 [vl], .adr 3 (.box 3) 0, .bx 6 [vi, wl, wr], .adr 6 (.box 6) 0, .bx 8 [vi, wl, wr], .adr 8 (.box 8) 0, .tm 9 false [vi], .tm 10 false [vi], .tm 11 false [(.sl [.bool], .own)], .tm 47 false [vr], .tm 48 false [vi], .tm 49 false [vi]] (.s .o .o)))) .o) .o)))))) (.s (.s .o (.j [.bx 6 [vi, wl, wr], .adr 6 (.box 6) 0, .bx 8 [vi, wl, wr], .adr 8 (.box 8) 0, .tm 10 false [vi]] (.j [.bx 6 [vi, wl, wr], .adr 6 (.box 6) 0, .bx 8 [vi, wl, wr], .adr 8 (.box 8) 0, .tm 9 false [vi], .tm 10 false [vi], .tm 77 false [vl], .tm 78 false [vi], .tm 79 false [vi]] (.s .o (.s (.s .o .o) (.s (.s (.s .o (.s .o (.s .o (.j [.bx 6 [vi, wl, wr], .adr 6 (.box 6) 0, .bx 8 [vi, wl, wr], .adr 8 (.box 8) 0, .tm 9 false [vi], .tm 10 false [vi], .tm 77 false [vl], .tm 78 false [vi], .tm 79 false [vi]] (.j [.bx 6 [vi, wl, wr], .adr 6 (.box 6) 0, .bx 8 [vi, wl, wr], .adr 8 (.box 8) 0, .tm 9 false [vi], .tm 10 false [vi], .tm 14 false [vi], .tm 15 false [vi], .tm 77 false [vl], .tm 78 false [vi], .tm 79 false [vi], .tm 96 false [vi], .tm 97 false [vi]] (.s .o (.s (.s .o .o) (.s (.s (.s .o (.s .o (.s .o .o))) .o) .o)))))))) .o) .o)))))) (.s .o (.s (.s (.j [.bx 6 [vi, wl, wr], .adr 6 (.box 6) 0, .bx 8 [vi, wl, wr], .adr 8 (.box 8) 0, .tm 130 false [vb]] .o) (.s (.s .o .o) .o)) (.s .o .o))))))))))), [(20, 34), (34, 35), (45, 36), (69, 37), (90, 38), (103, 38)], none⟩
/-- boskage/boskagelaw05.leaf -/
noncomputable def g32 : AM.Sig := ⟨32, [], [(true, [vi, (.rsl [.int .i64], .own)])]⟩
noncomputable def s32 : AM.Spec := ⟨g32, Go.Proofs.Tryd.f32, .s .o (.s .o .o), [], none⟩
/-- boskage/boskagelaw05.f -/
noncomputable def g31 : AM.Sig := ⟨31, [.val true [vi, vk], .val true [vi, vk]], [(true, [vi, (.rsl [.int .i64], .own)])]⟩
noncomputable def s31 : AM.Spec := ⟨g31, Go.Proofs.Tryd.f31, .s .o (.s .o .o), [], none⟩
/-- boskage/boskageref01.ValidAlphabet -/
noncomputable def g21 : AM.Sig := ⟨21, [.val true [vl]], [(false, [vb])]⟩
noncomputable def s21 : AM.Spec := ⟨g21, Go.Proofs.Tryd.f21, .s .o (.s (.s .o (.s (.s .o .o) .o)) (.s (.s .o (.jr [] (.j [.tm 10 false [vl], .tm 11 false [vi], .tm 12 false [vi]] (.s .o (.s (.s .o .o) (.s (.s (.s .o (.s (.j [.tm 10 false [vl], .tm 11 false [vi], .tm 12 false [vi], .tm 21 false [vb]] .o) (.s (.s .o .o) .o))) .o) .o)))))) (.s .o .o))), [], none⟩
/-- boskage/boskageref03.Valid -/
noncomputable def g33 : AM.Sig := ⟨33, [.val true [vl], .val true [vi, vl, vr]], [(false, [vb])]⟩
noncomputable def s33 : AM.Spec := ⟨g33, Go.Proofs.Tryd.f33, .s .o (.s (.s (.j [.bx 2 [vl], .adr 2 (.box 2) 0, .bx 3 [vi, vl, vr], .adr 3 (.box 3) 0, .tm 29 false [vb]] .o) (.s (.s .o .o) .o)) (.s (.s .o (.jr [.bx 2 [vl], .adr 2 (.box 2) 0, .bx 3 [vi, vl, vr], .adr 3 (.box 3) 0] (.j [.bx 2 [vl], .adr 2 (.box 2) 0, .bx 3 [vi, vl, vr], .adr 3 (.box 3) 0, .tm 31 false [vl], .tm 32 false [vi], .tm 33 false [vi]] (.s .o (.s (.s .o .o) (.s (.s (.s .o (.s (.j [.bx 2 [vl], .adr 2 (.box 2) 0, .bx 3 [vi, vl, vr], .adr 3 (.box 3) 0, .tm 31 false [vl], .tm 32 false [vi], .tm 33 false [vi], .tm 59 false [vb]] .o) (.s (.s .o .o) .o))) .o) .o)))))) (.s (.s .o (.jr [] (.j [.bx 2 [vl], .adr 2 (.box 2) 0, .bx 3 [vi, vl, vr], .adr 3 (.box 3) 0, .tm 62 false [vr], .tm 63 false [vi], .tm 64 false [vi]] (.s .o (.s (.s .o .o) (.s (.s (.s .o (.s (.s (.j [.bx 2 [vl], .adr 2 (.box 2) 0, .bx 3 [vi, vl, vr], .adr 3 (.box 3) 0, .bx 8 [vi, vl, vi], .adr 8 (.box 8) 0, .tm 62 false [vr], .tm 63 false [vi], .tm 64 false [vi], .tm 102 false [vb]] .o) (.s (.s .o .o) .o)) (.s .o (.jr [.bx 2 [vl], .adr 2 (.box 2) 0, .bx 3 [vi, vl, vr], .adr 3 (.box 3) 0, .tm 62 false [vr], .tm 63 false [vi], .tm 64 false [vi]] (.j [.bx 2 [vl], .adr 2 (.box 2) 0, .bx 3 [vi, vl, vr], .adr 3 (.box 3) 0, .tm 62 false [vr], .tm 63 false [vi], .tm 64 false [vi], .tm 104 false [vl], .tm 105 false [vi], .tm 106 false [vi]] (.s .o (.s (.s .o .o) (.s (.s (.s .o (.s (.j [.bx 2 [vl], .adr 2 (.box 2) 0, .bx 3 [vi, vl, vr], .adr 3 (.box 3) 0, .tm 62 false [vr], .tm 63 false [vi], .tm 64 false [vi], .tm 104 false [vl], .tm 105 false [vi], .tm 106 false [vi], .tm 117 false [vb]] .o) (.s (.s .o .o) .o))) .o) .o)))))))) .o) .o)))))) (.s .o .o)))), [(12, 21)], none⟩
/-- boskage/boskageref03.In -/
noncomputable def g54 : AM.Sig := ⟨54, [.val false [vl], .val false [vi]], [(false, [vb])]⟩
noncomputable def s54 : AM.Spec := ⟨g54, Go.Proofs.Tryd.f54, .s .o (.s (.s .o (.jr [] (.j [.tm 1 false [vi], .tm 7 false [vl], .tm 8 false [vi], .tm 9 false [vi]] (.s .o (.s (.s .o .o) (.s (.s (.s .o (.s .o (.s (.s .o .o) .o))) .o) .o)))))) (.s .o .o)), [], none⟩
/-- boskage/boskageref03.Insert -/
noncomputable def g69 : AM.Sig := ⟨69, [.val false [vl], .val false [vi]], [(false, [vl])]⟩
noncomputable def s69 : AM.Spec := ⟨g69, Go.Proofs.Tryd.f69, .s .o (.s .o (.s (.j [.tm 0 false [vl], .tm 1 false [vi], .tm 5 false [vi]] (.j [.tm 0 false [vl], .tm 1 false [vi], .tm 5 false [vi]] (.s (.s (.j [.tm 0 false [vl], .tm 1 false [vi], .tm 5 false [vi], .tm 17 false [vb]] .o) (.s .o .o)) (.s .o .o)))) (.s (.s (.j [.tm 0 false [vl], .tm 1 false [vi], .tm 5 false [vi], .tm 31 false [vb]] .o) (.s (.s .o .o) .o)) (.s .o .o)))), [], none⟩
/-- boskage/boskageref03.Step -/
noncomputable def g55 : AM.Sig := ⟨55, [.val true [vi, vl, vr], .val false [vi], .val false [(.sl [.sl [.int .i64]], .pure)]], [(false, [vl])]⟩
noncomputable def s55 : AM.Spec := ⟨g55, Go.Proofs.Tryd.f55, .s .o (.s .o (.s (.s .o (.j [.tm 7 false [vl]] (.j [.tm 1 false [vi], .tm 2 false [(.sl [.sl [.int .i64]], .pure)], .tm 7 false [vl], .tm 13 false [vr], .tm 14 false [vi], .tm 15 false [vi]] (.s .o (.s (.s .o .o) (.s (.s (.s .o (.s .o (.s (.s .o (.j [.tm 1 false [vi], .tm 2 false [(.sl [.sl [.int .i64]], .pure)], .tm 7 false [vl], .bx 9 [vi, vl, vi], .adr 9 (.box 9) 0, .tm 10 false [vb], .tm 13 false [vr], .tm 14 false [vi], .tm 15 false [vi]] (.j [.tm 1 false [vi], .tm 2 false [(.sl [.sl [.int .i64]], .pure)], .tm 7 false [vl], .bx 9 [vi, vl, vi], .adr 9 (.box 9) 0, .tm 10 false [vb], .tm 11 false [vi], .tm 13 false [vr], .tm 14 false [vi], .tm 15 false [vi]] (.s (.s (.j [.tm 1 false [vi], .tm 2 false [(.sl [.sl [.int .i64]], .pure)], .tm 7 false [vl], .bx 9 [vi, vl, vi], .adr 9 (.box 9) 0, .tm 10 false [vb], .tm 11 false [vi], .tm 13 false [vr], .tm 14 false [vi], .tm 15 false [vi], .tm 29 false [vb]] .o) (.s .o .o)) (.s (.s .o .o) .o))))) (.s .o (.j [.tm 1 false [vi], .tm 2 false [(.sl [.sl [.int .i64]], .pure)], .tm 7 false [vl], .tm 13 false [vr], .tm 14 false [vi], .tm 15 false [vi]] (.s .o .o)))))) .o) .o)))))) (.s .o .o))), [(41, 54), (46, 69)], none⟩
/-- boskage/boskageref03.Of -/
noncomputable def g43 : AM.Sig := ⟨43, [.val true [vi, vl, vr], .val true [vi, vk]], [(false, [vl])]⟩
noncomputable def s43 : AM.Spec := ⟨g43, Go.Proofs.Tryd.f43, .s .o (.s .o (.s (.s .o (.j [.bx 2 [vi, vl, vr], .adr 2 (.box 2) 0, .bx 3 [vi, vk], .adr 3 (.box 3) 0, .tm 5 false [(.sl [.sl [.int .i64]], .own)]] (.j [.bx 2 [vi, vl, vr], .adr 2 (.box 2) 0, .bx 3 [vi, vk], .adr 3 (.box 3) 0, .tm 5 false [(.sl [.sl [.int .i64]], .own)], .tm 9 false [vk], .tm 10 false [vi], .tm 11 false [vi]] (.s .o (.s (.s .o .o) (.s (.s (.s .o .o) .o) .o)))))) (.s .o .o))), [(18, 43), (26, 55)], none⟩
/-- boskage/boskageref03.Meet -/
noncomputable def g42 : AM.Sig := ⟨42, [.val false [vl], .val false [vl]], [(false, [vb])]⟩
noncomputable def s42 : AM.Spec := ⟨g42, Go.Proofs.Tryd.f42, .s .o (.s (.s .o (.jr [] (.j [.tm 1 false [vl], .tm 7 false [vl], .tm 8 false [vi], .tm 9 false [vi]] (.s .o (.s (.s .o .o) (.s (.s (.s .o (.s .o (.s (.s .o .o) .o))) .o) .o)))))) (.s .o .o)), [(15, 54)], none⟩
/-- boskage/boskageref03.Has -/
noncomputable def g16 : AM.Sig := ⟨16, [.val true [vi, vl, vr], .val true [vi, vk]], [(false, [vb])]⟩
noncomputable def s16 : AM.Spec := ⟨g16, Go.Proofs.Tryd.f16, .s .o (.s .o .o), [(7, 43), (10, 42)], none⟩
/-- boskage/boskagelaw05.awake -/
noncomputable def g9 : AM.Sig := ⟨9, [], [(false, [vb])]⟩
noncomputable def s9 : AM.Spec := ⟨g9, Go.Proofs.Tryd.f9, .s .o (.s .o (.s .o (.s (.j [.tm 0 false [vb]] .o) .o))), [(6, 30), (7, 10), (10, 32), (11, 32), (12, 32), (13, 31), (14, 31), (20, 33), (25, 16), (29, 32), (30, 16)], none⟩
/-- boskage/auto.Copy -/
noncomputable def g1002 : AM.Sig := ⟨35, [.val true [vi, vl, vr]], [(true, [vi, wl, (.dl [.int .i64, .sl [.int .i64], .int .i64], .own)])]⟩
noncomputable def s1002 : AM.Spec := ⟨g1002, Go.Proofs.Tryd.f35, .s .o (.s .o (.s (.s .o (.j [.bx 2 [vi, wl, (.dl [.int .i64, .sl [.int .i64], .int .i64], .own)], .adr 2 (.box 2) 0, .bx 3 [vi, wl, (.dl [.int .i64, .sl [.int .i64], .int .i64], .own)], .adr 3 (.box 3) 0] (.j [.bx 2 [vi, wl, (.dl [.int .i64, .sl [.int .i64], .int .i64], .own)], .adr 2 (.box 2) 0, .bx 3 [vi, wl, (.dl [.int .i64, .sl [.int .i64], .int .i64], .own)], .adr 3 (.box 3) 0, .tm 13 false [vr], .tm 14 false [vi], .tm 15 false [vi]] (.s .o (.s (.s .o .o) (.s (.s (.s .o .o) .o) .o)))))) (.s .o .o))), [(2, 1), (3, 1), (10, 37), (11, 1), (25, 37), (29, 1)], none⟩
/-- boskage/boolean.Union -/
noncomputable def g15 : AM.Sig := ⟨15, [.val true [vl], .val true [vi, vl, vr], .val true [vi, vl, vr]], [(true, [vi, vl, vr]), (false, [vi])]⟩
noncomputable def s15 : AM.Spec := ⟨g15, Go.Proofs.Tryd.f15, .s .o (.s (.s (.s (.j [.bx 4 [vi, vl, vr], .adr 4 (.box 4) 0, .bx 5 [vi, vl, vr], .adr 5 (.box 5) 0, .bx 6 [vi, wl, wr], .adr 6 (.box 6) 0, .tm 15 false [vb]] .o) (.s (.s .o .o) (.s (.j [.bx 4 [vi, vl, vr], .adr 4 (.box 4) 0, .bx 5 [vi, vl, vr], .adr 5 (.box 5) 0, .bx 6 [vi, wl, wr], .adr 6 (.box 6) 0, .tm 27 false [vb]] .o) (.s (.s .o .o) .o)))) .o) (.s .o (.s .o (.s (.s .o (.j [.bx 4 [vi, vl, vr], .adr 4 (.box 4) 0, .bx 6 [vi, wl, wr], .adr 6 (.box 6) 0, .bx 8 [vi, wl, (.dl [.int .i64, .sl [.int .i64], .int .i64], .own)], .adr 8 (.box 8) 0, .bx 9 [vi, wl, (.dl [.int .i64, .sl [.int .i64], .int .i64], .own)], .adr 9 (.box 9) 0] (.j [.bx 4 [vi, vl, vr], .adr 4 (.box 4) 0, .bx 6 [vi, wl, wr], .adr 6 (.box 6) 0, .bx 8 [vi, wl, (.dl [.int .i64, .sl [.int .i64], .int .i64], .own)], .adr 8 (.box 8) 0, .bx 9 [vi, wl, (.dl [.int .i64, .sl [.int .i64], .int .i64], .own)], .adr 9 (.box 9) 0, .rf 56 (.box 9) 1 false 1, .tm 57 false [vi], .tm 58 false [vi]] (.s .o (.s (.s .o .o) (.s (.s (.s .o .o) .o) .o)))))) (.s (.s .o (.j [.bx 6 [vi, wl, wr], .adr 6 (.box 6) 0, .bx 8 [vi, wl, (.dl [.int .i64, .sl [.int .i64], .int .i64], .own)], .adr 8 (.box 8) 0] (.j [.bx 4 [vi, vl, vr], .adr 4 (.box 4) 0, .bx 6 [vi, wl, wr], .adr 6 (.box 6) 0, .bx 8 [vi, wl, (.dl [.int .i64, .sl [.int .i64], .int .i64], .own)], .adr 8 (.box 8) 0, .bx 9 [vi, wl, (.dl [.int .i64, .sl [.int .i64], .int .i64], .own)], .rf 73 (.box 9) 2 false 1, .tm 74 false [vi], .tm 75 false [vi]] (.s .o (.s (.s .o .o) (.s (.s (.s .o (.s (.s .o (.j [.bx 4 [vi, vl, vr], .adr 4 (.box 4) 0, .bx 6 [vi, wl, wr], .adr 6 (.box 6) 0, .bx 8 [vi, wl, (.dl [.int .i64, .sl [.int .i64], .int .i64], .own)], .adr 8 (.box 8) 0, .bx 9 [vi, wl, (.dl [.int .i64, .sl [.int .i64], .int .i64], .own)], .bx 13 [vi, wl, vi], .adr 13 (.box 13) 0, .rf 73 (.box 9) 2 false 1, .tm 74 false [vi], .tm 75 false [vi]] (.j [.bx 4 [vi, vl, vr], .adr 4 (.box 4) 0, .bx 6 [vi, wl, wr], .adr 6 (.box 6) 0, .bx 8 [vi, wl, (.dl [.int .i64, .sl [.int .i64], .int .i64], .own)], .adr 8 (.box 8) 0, .bx 9 [vi, wl, (.dl [.int .i64, .sl [.int .i64], .int .i64], .own)], .bx 13 [vi, wl, vi], .adr 13 (.box 13) 0, .rf 73 (.box 9) 2 false 1, .tm 74 false [vi], .tm 75 false [vi], .tm 81 false [vi], .tm 82 false [vi]] (.s .o (.s (.s .o .o) (.s (.s (.s .o .o) .o) .o)))))) (.s .o .o))) .o) .o)))))) (.s .o .o)))))), [(8, 1), (9, 1), (18, 34), (23, 34), (46, 1002), (48, 1002), (104, 1)], none⟩
/-- boskage/boskagelaw05.valid -/
noncomputable def g11 : AM.Sig := ⟨11, [.val true [vl], .val false [(.sl [.int .i64, .sl [.int .i64], .sl [.int .i64, .sl [.int .i64], .int .i64]], .pure)]], [(false, [vb])]⟩
noncomputable def s11 : AM.Spec := ⟨g11, Go.Proofs.Tryd.f11, .s .o (.s (.s .o (.jr [] (.j [.bx 2 [vl], .adr 2 (.box 2) 0, .tm 7 false [(.sl [.int .i64, .sl [.int .i64], .sl [.int .i64, .sl [.int .i64], .int .i64]], .pure)], .tm 8 false [vi], .tm 9 false [vi]] (.s .o (.s (.s .o .o) (.s (.s (.s .o (.s .o (.s (.s .o .o) .o))) .o) .o)))))) (.s .o .o)), [(15, 33)], none⟩
/-- boskage/boskageref01.shaped -/
noncomputable def g39 : AM.Sig := ⟨39, [.val true [vl], .val true [vi, vk]], [(false, [vb])]⟩
noncomputable def s39 : AM.Spec := ⟨g39, Go.Proofs.Tryd.f39, .s .o (.s (.s (.j [.bx 2 [vl], .adr 2 (.box 2) 0, .bx 3 [vi, vk], .adr 3 (.box 3) 0, .tm 29 false [vb]] .o) (.s (.s .o .o) .o)) (.s (.s .o (.jr [] (.j [.bx 2 [vl], .adr 2 (.box 2) 0, .tm 31 false [vk], .tm 32 false [vi], .tm 33 false [vi]] (.s .o (.s (.s .o .o) (.s (.s (.s .o (.s .o (.s (.s .o .o) .o))) .o) .o)))))) (.s .o .o))), [(39, 39)], none⟩
/-- boskage/boskageref01.Valid -/
noncomputable def g12 : AM.Sig := ⟨12, [.val true [vl], .val true [vi, vk]], [(false, [vb])]⟩
noncomputable def s12 : AM.Spec := ⟨g12, Go.Proofs.Tryd.f12, .s .o (.s (.j [.tm 4 false [vb]] .o) .o), [(6, 21), (9, 29), (14, 39)], none⟩
/-- boskage/boskagelaw05.right -/
noncomputable def g13 : AM.Sig := ⟨13, [.val true [vl], .val true [vi, vl, vr], .val true [vi, vk], .val false [vb]], [(false, [vb])]⟩
noncomputable def s13 : AM.Spec := ⟨g13, Go.Proofs.Tryd.f13, .s .o (.s .o .o), [(11, 16)], none⟩
/-- boskage/boskageref05.shift -/
noncomputable def g46 : AM.Sig := ⟨46, [.val false [vr], .val false [vi]], [(false, [wr])]⟩
noncomputable def s46 : AM.Spec := ⟨g46, Go.Proofs.Tryd.f46, .s .o (.s .o (.s (.s .o (.j [.tm 5 false [wr]] (.j [.tm 1 false [vi], .tm 5 false [wr], .tm 11 false [vr], .tm 12 false [vi], .tm 13 false [vi]] (.s .o (.s (.s .o .o) (.s (.s (.s .o (.s .o (.s (.s .o (.j [.tm 1 false [vi], .tm 5 false [wr], .bx 7 [vi, vl, vi], .adr 7 (.box 7) 0, .tm 8 false [wl], .tm 11 false [vr], .tm 12 false [vi], .tm 13 false [vi]] (.j [.tm 1 false [vi], .tm 5 false [wr], .bx 7 [vi, vl, vi], .adr 7 (.box 7) 0, .tm 8 false [wl], .tm 11 false [vr], .tm 12 false [vi], .tm 13 false [vi], .tm 18 false [vl], .tm 19 false [vi], .tm 20 false [vi]] (.s .o (.s (.s .o .o) (.s (.s (.s .o .o) .o) .o)))))) .o))) .o) .o)))))) (.s .o .o))), [], none⟩
/-- boskage/boskageref05.Union -/
noncomputable def g18 : AM.Sig := ⟨18, [.val true [vi, vl, vr], .val true [vi, vl, vr]], [(true, [vi, wl, wr])]⟩
noncomputable def s18 : AM.Spec := ⟨g18, Go.Proofs.Tryd.f18, .s .o (.s .o (.s (.s .o (.j [.bx 2 [vi, vl, vr], .adr 2 (.box 2) 0, .bx 3 [vi, vl, vr], .adr 3 (.box 3) 0, .bx 4 [vi, wl, wr], .adr 4 (.box 4) 0, .bx 5 [vi, wl, wr], .adr 5 (.box 5) 0] (.j [.bx 2 [vi, vl, vr], .adr 2 (.box 2) 0, .bx 3 [vi, vl, vr], .adr 3 (.box 3) 0, .bx 4 [vi, wl, wr], .adr 4 (.box 4) 0, .bx 5 [vi, wl, wr], .adr 5 (.box 5) 0, .tm 23 false [vl], .tm 24 false [vi], .tm 25 false [vi]] (.s .o (.s (.s .o .o) (.s (.s (.s .o .o) .o) .o)))))) (.s .o (.s .o .o)))), [(45, 46)], none⟩
/-- boskage/boskageref03.Reached -/
noncomputable def g85 : AM.Sig := ⟨85, [.val true [vi, vl, vr]], [(false, [(.sl [.bool], .own)])]⟩
noncomputable def s85 : AM.Spec := ⟨g85, Go.Proofs.Tryd.f85, .s .o (.s .o (.s (.s .o (.j [.tm 3 false [(.sl [.bool], .own)]] (.j [.bx 1 [vi, vl, vr], .adr 1 (.box 1) 0, .tm 3 false [(.sl [.bool], .own)], .tm 4 false [vb]] (.s (.s .o (.s .o .o)) (.s (.s .o (.s .o (.j [.bx 1 [vi, vl, vr], .adr 1 (.box 1) 0, .tm 3 false [(.sl [.bool], .own)], .tm 4 false [vb]] (.j [.bx 1 [vi, vl, vr], .adr 1 (.box 1) 0, .tm 3 false [(.sl [.bool], .own)], .tm 4 false [vb], .tm 15 false [vr], .tm 16 false [vi], .tm 17 false [vi]] (.s .o (.s (.s .o .o) (.s (.s (.s .o (.s .o (.s (.s .o (.j [.bx 1 [vi, vl, vr], .adr 1 (.box 1) 0, .tm 3 false [(.sl [.bool], .own)], .tm 4 false [vb], .bx 6 [vi, vl, vi], .adr 6 (.box 6) 0, .tm 7 false [vb], .tm 15 false [vr], .tm 16 false [vi], .tm 17 false [vi]] (.j [.bx 1 [vi, vl, vr], .adr 1 (.box 1) 0, .tm 3 false [(.sl [.bool], .own)], .tm 4 false [vb], .bx 6 [vi, vl, vi], .adr 6 (.box 6) 0, .tm 7 false [vb], .tm 15 false [vr], .tm 16 false [vi], .tm 17 false [vi], .tm 22 false [vl], .tm 23 false [vi], .tm 24 false [vi]] (.s .o (.s (.s .o .o) (.s (.s (.s .o (.j [.bx 1 [vi, vl, vr], .adr 1 (.box 1) 0, .tm 3 false [(.sl [.bool], .own)], .tm 4 false [vb], .bx 6 [vi, vl, vi], .adr 6 (.box 6) 0, .tm 7 false [vb], .tm 15 false [vr], .tm 16 false [vi], .tm 17 false [vi], .tm 22 false [vl], .tm 23 false [vi], .tm 24 false [vi]] .o)) .o) .o)))))) (.s (.j [.bx 1 [vi, vl, vr], .adr 1 (.box 1) 0, .tm 3 false [(.sl [.bool], .own)], .tm 4 false [vb], .bx 6 [vi, vl, vi], .adr 6 (.box 6) 0, .tm 15 false [vr], .tm 16 false [vi], .tm 17 false [vi], .tm 44 false [vb]] .o) (.j [.bx 1 [vi, vl, vr], .adr 1 (.box 1) 0, .tm 3 false [(.sl [.bool], .own)], .tm 4 false [vb], .tm 15 false [vr], .tm 16 false [vi], .tm 17 false [vi]] (.s .o .o)))))) .o) .o))))))) .o))))) (.s .o .o))), [], none⟩
/-- boskage/boskageref03.Used -/
noncomputable def g72 : AM.Sig := ⟨72, [.val true [vi, vl, vr]], [(false, [(.sl [.bool], .own)])]⟩
noncomputable def s72 : AM.Spec := ⟨g72, Go.Proofs.Tryd.f72, .s .o (.s .o (.s .o (.s (.s .o (.j [.bx 1 [vi, vl, vr], .adr 1 (.box 1) 0, .tm 3 false [(.sl [.bool], .own)], .tm 4 false [(.sl [.bool], .own)]] (.j [.bx 1 [vi, vl, vr], .adr 1 (.box 1) 0, .tm 3 false [(.sl [.bool], .own)], .tm 4 false [(.sl [.bool], .own)], .tm 21 false [vl], .tm 22 false [vi], .tm 23 false [vi]] (.s .o (.s (.s .o .o) (.s (.s (.s .o .o) .o) .o)))))) (.s (.s .o (.j [.tm 4 false [(.sl [.bool], .own)]] (.j [.bx 1 [vi, vl, vr], .adr 1 (.box 1) 0, .tm 3 false [(.sl [.bool], .own)], .tm 4 false [(.sl [.bool], .own)], .tm 7 false [vb]] (.s (.s .o (.s .o .o)) (.s (.s .o (.s .o (.j [.bx 1 [vi, vl, vr], .adr 1 (.box 1) 0, .tm 3 false [(.sl [.bool], .own)], .tm 4 false [(.sl [.bool], .own)], .tm 7 false [vb]] (.j [.bx 1 [vi, vl, vr], .adr 1 (.box 1) 0, .tm 3 false [(.sl [.bool], .own)], .tm 4 false [(.sl [.bool], .own)], .tm 7 false [vb], .tm 37 false [vr], .tm 38 false [vi], .tm 39 false [vi]] (.s .o (.s (.s .o .o) (.s (.s (.s .o (.s .o (.s (.s .o (.j [.bx 1 [vi, vl, vr], .adr 1 (.box 1) 0, .tm 3 false [(.sl [.bool], .own)], .tm 4 false [(.sl [.bool], .own)], .tm 7 false [vb], .bx 9 [vi, vl, vi], .adr 9 (.box 9) 0, .tm 10 false [vb], .tm 37 false [vr], .tm 38 false [vi], .tm 39 false [vi]] (.j [.bx 1 [vi, vl, vr], .adr 1 (.box 1) 0, .tm 3 false [(.sl [.bool], .own)], .tm 4 false [(.sl [.bool], .own)], .tm 7 false [vb], .bx 9 [vi, vl, vi], .adr 9 (.box 9) 0, .tm 10 false [vb], .tm 37 false [vr], .tm 38 false [vi], .tm 39 false [vi], .tm 49 false [vl], .tm 50 false [vi], .tm 51 false [vi]] (.s .o (.s (.s .o .o) (.s (.s (.s .o (.j [.bx 1 [vi, vl, vr], .adr 1 (.box 1) 0, .tm 3 false [(.sl [.bool], .own)], .tm 4 false [(.sl [.bool], .own)], .tm 7 false [vb], .bx 9 [vi, vl, vi], .adr 9 (.box 9) 0, .tm 10 false [vb], .tm 37 false [vr], .tm 38 false [vi], .tm 39 false [vi], .tm 49 false [vl], .tm 50 false [vi], .tm 51 false [vi]] .o)) .o) .o)))))) (.s .o (.j [.bx 1 [vi, vl, vr], .adr 1 (.box 1) 0, .tm 3 false [(.sl [.bool], .own)], .tm 4 false [(.sl [.bool], .own)], .tm 7 false [vb], .tm 37 false [vr], .tm 38 false [vi], .tm 39 false [vi]] (.j [.bx 1 [vi, vl, vr], .adr 1 (.box 1) 0, .tm 3 false [(.sl [.bool], .own)], .tm 4 false [(.sl [.bool], .own)], .tm 7 false [vb], .tm 10 false [vb], .tm 37 false [vr], .tm 38 false [vi], .tm 39 false [vi], .tm 64 false [vl], .tm 65 false [vi], .tm 66 false [vi]] (.s .o (.s (.s .o .o) (.s (.s (.s .o (.s (.j [.bx 1 [vi, vl, vr], .adr 1 (.box 1) 0, .tm 3 false [(.sl [.bool], .own)], .tm 4 false [(.sl [.bool], .own)], .tm 7 false [vb], .tm 10 false [vb], .tm 14 false [vi], .tm 37 false [vr], .tm 38 false [vi], .tm 39 false [vi], .tm 64 false [vl], .tm 65 false [vi], .tm 66 false [vi], .tm 77 false [vb]] .o) (.j [.bx 1 [vi, vl, vr], .adr 1 (.box 1) 0, .tm 3 false [(.sl [.bool], .own)], .tm 4 false [(.sl [.bool], .own)], .tm 7 false [vb], .tm 10 false [vb], .tm 37 false [vr], .tm 38 false [vi], .tm 39 false [vi], .tm 64 false [vl], .tm 65 false [vi], .tm 66 false [vi]] (.s .o .o)))) .o) .o))))))))) .o) .o))))))) .o))))) (.s .o .o))))), [(16, 85)], none⟩
/-- boskage/boskageref03.key -/
noncomputable def g106 : AM.Sig := ⟨106, [.val true [vi, vl, vi]], [(false, [wl])]⟩
noncomputable def s106 : AM.Spec := ⟨g106, Go.Proofs.Tryd.f106, .s .o (.s .o .o), [], none⟩
/-- boskage/boskageref03.Less -/
noncomputable def g105 : AM.Sig := ⟨105, [.val false [vl], .val false [vl]], [(false, [vi])]⟩
noncomputable def s105 : AM.Spec := ⟨g105, Go.Proofs.Tryd.f105, .s .o (.s (.s .o (.jr [.tm 0 false [vl], .tm 1 false [vl]] (.j [.tm 0 false [vl], .tm 1 false [vl], .tm 10 false [vi], .tm 11 false [vi]] (.s .o (.s (.s .o .o) (.s (.s (.s .o (.s (.s .o (.s (.s .o .o) .o)) (.s .o (.s (.s .o .o) .o)))) .o) .o)))))) (.s (.s (.s .o (.s (.s .o .o) (.s .o (.s (.s .o .o) .o)))) .o) (.s .o .o))), [], none⟩
/-- boskage/boskageref03.Sort -/
noncomputable def g84 : AM.Sig := ⟨84, [.val false [vr]], [(false, [wr])]⟩
noncomputable def s84 : AM.Spec := ⟨g84, Go.Proofs.Tryd.f84, .s .o (.s .o (.s (.s .o (.j [.tm 3 false [wr]] (.j [.tm 3 false [wr], .tm 9 false [vr], .tm 10 false [vi], .tm 11 false [vi]] (.s .o (.s (.s .o .o) (.s (.s (.s .o (.s .o (.s (.j [.tm 3 false [wr], .bx 5 [vi, vl, vi], .adr 5 (.box 5) 0, .tm 6 false [vi], .tm 9 false [vr], .tm 10 false [vi], .tm 11 false [vi]] (.j [.tm 3 false [wr], .bx 5 [vi, vl, vi], .adr 5 (.box 5) 0, .tm 6 false [vi], .tm 7 false [vi], .tm 9 false [vr], .tm 10 false [vi], .tm 11 false [vi]] (.s (.s .o (.s .o .o)) (.s (.s .o (.s .o (.j [.tm 3 false [wr], .bx 5 [vi, vl, vi], .adr 5 (.box 5) 0, .tm 6 false [vi], .tm 7 false [vi], .tm 9 false [vr], .tm 10 false [vi], .tm 11 false [vi]] (.s .o .o)))) .o)))) (.s (.j [.tm 3 false [wr], .bx 5 [vi, vl, vi], .adr 5 (.box 5) 0, .tm 6 false [vi], .tm 9 false [vr], .tm 10 false [vi], .tm 11 false [vi], .tm 50 false [vb]] .o) (.j [.tm 3 false [wr], .tm 9 false [vr], .tm 10 false [vi], .tm 11 false [vi]] (.s (.s .o (.s .o .o)) .o)))))) .o) .o)))))) (.s .o .o))), [(28, 106), (30, 106), (31, 105), (45, 106), (47, 106), (48, 105)], none⟩
/-- boskage/boskageref03.Keep -/
noncomputable def g71 : AM.Sig := ⟨71, [.val true [vi, vl, vr], .val false [(.sl [.bool], .pure)]], [(true, [vi, wl, wr])]⟩
noncomputable def s71 : AM.Spec := ⟨g71, Go.Proofs.Tryd.f71, .s .o (.s .o (.s .o (.s (.s .o (.j [.tm 1 false [(.sl [.bool], .pure)], .bx 2 [vi, vl, vr], .adr 2 (.box 2) 0, .bx 4 [vi, wl, wr], .adr 4 (.box 4) 0, .tm 5 false [wl], .bx 6 [vi, wl, wr], .adr 6 (.box 6) 0] (.j [.tm 1 false [(.sl [.bool], .pure)], .bx 2 [vi, vl, vr], .adr 2 (.box 2) 0, .bx 4 [vi, wl, wr], .adr 4 (.box 4) 0, .tm 5 false [wl], .bx 6 [vi, wl, wr], .adr 6 (.box 6) 0, .tm 20 false [(.sl [.bool], .pure)], .tm 21 false [vi], .tm 22 false [vi]] (.s .o (.s (.s .o .o) (.s (.s (.s .o (.s .o (.j [.tm 1 false [(.sl [.bool], .pure)], .bx 2 [vi, vl, vr], .adr 2 (.box 2) 0, .bx 4 [vi, wl, wr], .adr 4 (.box 4) 0, .tm 5 false [wl], .bx 6 [vi, wl, wr], .adr 6 (.box 6) 0, .tm 20 false [(.sl [.bool], .pure)], .tm 21 false [vi], .tm 22 false [vi]] (.s (.s .o .o) .o)))) .o) .o)))))) (.s (.s .o (.j [.tm 1 false [(.sl [.bool], .pure)], .bx 2 [vi, vl, vr], .adr 2 (.box 2) 0, .bx 4 [vi, wl, wr], .adr 4 (.box 4) 0, .tm 5 false [wl], .bx 6 [vi, wl, wr], .adr 6 (.box 6) 0] (.j [.tm 1 false [(.sl [.bool], .pure)], .bx 2 [vi, vl, vr], .adr 2 (.box 2) 0, .bx 4 [vi, wl, wr], .adr 4 (.box 4) 0, .tm 5 false [wl], .bx 6 [vi, wl, wr], .adr 6 (.box 6) 0, .tm 39 false [vl], .tm 40 false [vi], .tm 41 false [vi]] (.s .o (.s (.s .o .o) (.s (.s (.s .o (.s .o (.j [.tm 1 false [(.sl [.bool], .pure)], .bx 2 [vi, vl, vr], .adr 2 (.box 2) 0, .bx 4 [vi, wl, wr], .adr 4 (.box 4) 0, .tm 5 false [wl], .bx 6 [vi, wl, wr], .adr 6 (.box 6) 0, .tm 39 false [vl], .tm 40 false [vi], .tm 41 false [vi]] (.s .o .o)))) .o) .o)))))) (.s (.s .o (.j [.bx 4 [vi, wl, wr], .adr 4 (.box 4) 0, .bx 6 [vi, wl, wr], .adr 6 (.box 6) 0] (.j [.tm 1 false [(.sl [.bool], .pure)], .bx 4 [vi, wl, wr], .adr 4 (.box 4) 0, .tm 5 false [wl], .bx 6 [vi, wl, wr], .adr 6 (.box 6) 0, .tm 60 false [vr], .tm 61 false [vi], .tm 62 false [vi]] (.s .o (.s (.s .o .o) (.s (.s (.s .o (.s .o (.s .o (.s (.s .o (.j [.tm 1 false [(.sl [.bool], .pure)], .bx 4 [vi, wl, wr], .adr 4 (.box 4) 0, .tm 5 false [wl], .bx 6 [vi, wl, wr], .adr 6 (.box 6) 0, .bx 12 [vi, vl, vi], .adr 12 (.box 12) 0, .tm 13 false [vb], .tm 14 false [wl], .tm 60 false [vr], .tm 61 false [vi], .tm 62 false [vi]] (.j [.tm 1 false [(.sl [.bool], .pure)], .bx 4 [vi, wl, wr], .adr 4 (.box 4) 0, .tm 5 false [wl], .bx 6 [vi, wl, wr], .adr 6 (.box 6) 0, .bx 12 [vi, vl, vi], .adr 12 (.box 12) 0, .tm 13 false [vb], .tm 14 false [wl], .tm 60 false [vr], .tm 61 false [vi], .tm 62 false [vi], .tm 72 false [vl], .tm 73 false [vi], .tm 74 false [vi]] (.s .o (.s (.s .o .o) (.s (.s (.s .o (.s (.j [.tm 1 false [(.sl [.bool], .pure)], .bx 4 [vi, wl, wr], .adr 4 (.box 4) 0, .tm 5 false [wl], .bx 6 [vi, wl, wr], .adr 6 (.box 6) 0, .bx 12 [vi, vl, vi], .adr 12 (.box 12) 0, .tm 13 false [vb], .tm 14 false [wl], .tm 16 false [vi], .tm 60 false [vr], .tm 61 false [vi], .tm 62 false [vi], .tm 72 false [vl], .tm 73 false [vi], .tm 74 false [vi]] .o) .o)) .o) .o)))))) (.s .o (.j [.tm 1 false [(.sl [.bool], .pure)], .bx 4 [vi, wl, wr], .adr 4 (.box 4) 0, .tm 5 false [wl], .bx 6 [vi, wl, wr], .adr 6 (.box 6) 0, .tm 60 false [vr], .tm 61 false [vi], .tm 62 false [vi]] (.s .o .o))))))) .o) .o)))))) (.s .o (.s .o .o))))))), [(111, 84)], none⟩
/-- boskage/boskageref03.Trimmed -/
noncomputable def g57 : AM.Sig := ⟨57, [.val true [vi, vl, vr]], [(true, [vi, wl, wr])]⟩
noncomputable def s57 : AM.Spec := ⟨g57, Go.Proofs.Tryd.f57, .s .o (.s .o .o), [(5, 72), (6, 71)], none⟩
/-- boskage/boskageref03.Power -/
noncomputable def g70 : AM.Sig := ⟨70, [.val false [vi], .val false [vi]], [(false, [vi])]⟩
noncomputable def s70 : AM.Spec := ⟨g70, Go.Proofs.Tryd.f70, .s .o (.s .o (.s (.s .o (.j [.tm 5 false [vi]] (.j [.tm 0 false [vi], .tm 5 false [vi], .tm 6 false [vi], .tm 7 false [vi]] (.s .o (.s (.s .o .o) (.s (.s .o .o) .o)))))) (.s .o .o))), [], none⟩
/-- boskage/boskageref04.Bits -/
noncomputable def g56 : AM.Sig := ⟨56, [.val true [vi, vl, vr]], [(false, [vi])]⟩
noncomputable def s56 : AM.Spec := ⟨g56, Go.Proofs.Tryd.f56, .s .o (.s .o .o), [(4, 57), (6, 70)], none⟩
/-- boskage/boskageref01.List -/
noncomputable def g49 : AM.Sig := ⟨49, [.val false [vl], .val false [vl]], [(false, [vb])]⟩
noncomputable def s49 : AM.Spec := ⟨g49, Go.Proofs.Tryd.f49, .s .o (.s (.s .o (.s (.s .o .o) .o)) (.s (.s .o (.jr [] (.j [.tm 0 false [vl], .tm 1 false [vl], .tm 12 false [vi], .tm 13 false [vi]] (.s .o (.s (.s .o .o) (.s (.s (.s .o (.s .o (.s (.s .o .o) .o))) .o) .o)))))) (.s .o .o))), [], none⟩
/-- boskage/boskageref03.One -/
noncomputable def g23 : AM.Sig := ⟨23, [.val true [vi, vl, vr]], [(false, [vb])]⟩
noncomputable def s23 : AM.Spec := ⟨g23, Go.Proofs.Tryd.f23, .s .o (.s (.s .o (.jr [] (.j [.bx 1 [vi, vl, vr], .adr 1 (.box 1) 0, .tm 8 false [vr], .tm 9 false [vi], .tm 10 false [vi]] (.s .o (.s (.s .o .o) (.s (.s (.s .o (.s .o (.jr [.bx 1 [vi, vl, vr], .adr 1 (.box 1) 0, .tm 8 false [vr], .tm 9 false [vi], .tm 10 false [vi]] (.j [.bx 1 [vi, vl, vr], .adr 1 (.box 1) 0, .bx 4 [vi, vl, vi], .adr 4 (.box 4) 0, .tm 8 false [vr], .tm 9 false [vi], .tm 10 false [vi], .tm 18 false [vr], .tm 19 false [vi], .tm 20 false [vi]] (.s .o (.s (.s .o .o) (.s (.s (.s .o (.s (.j [.bx 1 [vi, vl, vr], .adr 1 (.box 1) 0, .bx 4 [vi, vl, vi], .adr 4 (.box 4) 0, .tm 8 false [vr], .tm 9 false [vi], .tm 10 false [vi], .tm 18 false [vr], .tm 19 false [vi], .tm 20 false [vi], .tm 35 false [vb]] .o) (.s (.s .o .o) .o))) .o) .o))))))) .o) .o)))))) (.s .o .o)), [(34, 49)], none⟩
/-- boskage/boskageref03.Full -/
noncomputable def g58 : AM.Sig := ⟨58, [.val true [vl], .val false [vi]], [(false, [vi])]⟩
noncomputable def s58 : AM.Spec := ⟨g58, Go.Proofs.Tryd.f58, .s .o (.s .o (.s (.s .o (.j [.tm 5 false [vi]] (.j [.tm 1 false [vi], .tm 5 false [vi], .tm 9 false [vl], .tm 10 false [vi], .tm 11 false [vi]] (.s .o (.s (.s .o .o) (.s (.s (.s .o .o) .o) .o)))))) (.s .o .o))), [(18, 70)], none⟩
/-- boskage/boskageref04.Light -/
noncomputable def g44 : AM.Sig := ⟨44, [.val true [vl], .val false [(.sl [.int .i64, .sl [.int .i64], .sl [.int .i64, .sl [.int .i64], .int .i64]], .pure)]], [(false, [vb])]⟩
noncomputable def s44 : AM.Spec := ⟨g44, Go.Proofs.Tryd.f44, .s .o (.s (.s .o (.jr [] (.j [.bx 2 [vl], .adr 2 (.box 2) 0, .tm 8 false [(.sl [.int .i64, .sl [.int .i64], .sl [.int .i64, .sl [.int .i64], .int .i64]], .pure)], .tm 9 false [vi], .tm 10 false [vi]] (.s .o (.s (.s .o .o) (.s (.s (.s .o (.s (.s (.j [.bx 2 [vl], .adr 2 (.box 2) 0, .bx 6 [vi, vl, vr], .adr 6 (.box 6) 0, .tm 8 false [(.sl [.int .i64, .sl [.int .i64], .sl [.int .i64, .sl [.int .i64], .int .i64]], .pure)], .tm 9 false [vi], .tm 10 false [vi], .tm 22 false [vb]] .o) (.s (.s .o .o) .o)) (.s .o (.s (.s .o (.j [.bx 2 [vl], .adr 2 (.box 2) 0, .tm 7 false [vi], .tm 8 false [(.sl [.int .i64, .sl [.int .i64], .sl [.int .i64, .sl [.int .i64], .int .i64]], .pure)], .tm 9 false [vi], .tm 10 false [vi]] (.s .o .o))) (.s .o (.s (.s .o .o) .o)))))) .o) .o)))))) (.s .o .o)), [(24, 56), (26, 23), (28, 57), (33, 58)], none⟩
/-- boskage/boskageref04.Lists -/
noncomputable def g87 : AM.Sig := ⟨87, [.val false [vi], .val false [vi]], [(false, [(.sl [.sl [.int .i64]], .own)])]⟩
noncomputable def s87 : AM.Spec := ⟨g87, Go.Proofs.Tryd.f87, .s .o (.s (.s .o (.s (.s .o .o) .o)) (.s .o (.s (.s .o (.j [.tm 5 false [(.sl [.sl [.int .i64]], .own)]] (.j [.tm 0 false [vi], .tm 1 false [vi], .tm 5 false [(.sl [.sl [.int .i64]], .own)], .tm 12 false [vi], .tm 13 false [vi]] (.s .o (.s (.s .o .o) (.s (.s (.s .o (.s .o (.j [.tm 0 false [vi], .tm 1 false [vi], .tm 5 false [(.sl [.sl [.int .i64]], .own)], .tm 12 false [vi], .tm 13 false [vi]] (.j [.tm 0 false [vi], .tm 1 false [vi], .tm 5 false [(.sl [.sl [.int .i64]], .own)], .tm 6 false [vi], .tm 12 false [vi], .tm 13 false [vi], .tm 19 false [(.sl [.sl [.int .i64]], .own)], .tm 20 false [vi], .tm 21 false [vi]] (.s .o (.s (.s .o .o) (.s (.s (.s .o .o) .o) .o))))))) .o) .o)))))) (.s .o .o)))), [(19, 87)], none⟩
/-- boskage/boskageref04.pick -/
noncomputable def g88 : AM.Sig := ⟨88, [.val false [(.sl [.sl [.int .i64]], .pure)], .val false [vl]], [(false, [(.sl [.sl [.int .i64]], .own)])]⟩
noncomputable def s88 : AM.Spec := ⟨g88, Go.Proofs.Tryd.f88, .s .o (.s .o (.s (.s .o (.j [.tm 5 false [(.sl [.sl [.int .i64]], .own)]] (.j [.tm 0 false [(.sl [.sl [.int .i64]], .pure)], .tm 5 false [(.sl [.sl [.int .i64]], .own)], .tm 8 false [vl], .tm 9 false [vi], .tm 10 false [vi]] (.s .o (.s (.s .o .o) (.s (.s (.s .o .o) .o) .o)))))) (.s .o .o))), [], none⟩
/-- boskage/boskageref04.place -/
noncomputable def g89 : AM.Sig := ⟨89, [.val false [(.sl [.sl [.int .i64]], .pure)], .val false [vl]], [(false, [vi])]⟩
noncomputable def s89 : AM.Spec := ⟨g89, Go.Proofs.Tryd.f89, .s .o (.s (.s .o (.jr [] (.j [.tm 1 false [vl], .tm 7 false [(.sl [.sl [.int .i64]], .pure)], .tm 8 false [vi], .tm 9 false [vi]] (.s .o (.s (.s .o .o) (.s (.s (.s .o (.s .o (.s (.s .o .o) .o))) .o) .o)))))) (.s .o .o)), [(16, 49)], none⟩
/-- boskage/boskageref04.Sets -/
noncomputable def g86 : AM.Sig := ⟨86, [.val true [vl], .val true [vi, vl, vr]], [(false, [(.sl [.sl [.int .i64]], .pure)]), (false, [vb])]⟩
noncomputable def s86 : AM.Spec := ⟨g86, Go.Proofs.Tryd.f86, .s .o (.s .o (.jr [] (.j [.bx 2 [vl], .adr 2 (.box 2) 0, .bx 3 [vi, vl, vr], .adr 3 (.box 3) 0, .tm 6 false [(.sl [.sl [.int .i64]], .tip)]] (.s (.s .o (.s (.s .o (.j [.bx 2 [vl], .adr 2 (.box 2) 0, .bx 3 [vi, vl, vr], .adr 3 (.box 3) 0, .tm 6 false [(.sl [.sl [.int .i64]], .tip)], .tm 7 false [vi]] (.j [.bx 2 [vl], .adr 2 (.box 2) 0, .bx 3 [vi, vl, vr], .adr 3 (.box 3) 0, .tm 6 false [(.sl [.sl [.int .i64]], .tip)], .tm 7 false [vi], .tm 16 false [vl], .tm 17 false [vi], .tm 18 false [vi]] (.s .o (.s (.s .o .o) (.s (.s (.s .o (.s .o (.j [.bx 2 [vl], .adr 2 (.box 2) 0, .bx 3 [vi, vl, vr], .adr 3 (.box 3) 0, .tm 6 false [(.sl [.sl [.int .i64]], .tip)], .tm 7 false [vi], .tm 16 false [vl], .tm 17 false [vi], .tm 18 false [vi]] (.j [.bx 2 [vl], .adr 2 (.box 2) 0, .bx 3 [vi, vl, vr], .adr 3 (.box 3) 0, .tm 6 false [(.sl [.sl [.int .i64]], .tip)], .tm 7 false [vi], .tm 8 false [vi], .tm 16 false [vl], .tm 17 false [vi], .tm 18 false [vi], .tm 25 false [(.sl [.sl [.int .i64]], .own)], .tm 26 false [vi], .tm 27 false [vi]] (.s .o (.s (.s .o .o) (.s (.s (.s .o (.s .o (.s (.j [.bx 2 [vl], .adr 2 (.box 2) 0, .bx 3 [vi, vl, vr], .adr 3 (.box 3) 0, .tm 6 false [(.sl [.sl [.int .i64]], .tip)], .tm 7 false [vi], .tm 8 false [vi], .tm 12 false [vl], .tm 16 false [vl], .tm 17 false [vi], .tm 18 false [vi], .tm 25 false [(.sl [.sl [.int .i64]], .own)], .tm 26 false [vi], .tm 27 false [vi], .tm 47 false [vb]] .o) (.j [.bx 2 [vl], .adr 2 (.box 2) 0, .bx 3 [vi, vl, vr], .adr 3 (.box 3) 0, .tm 6 false [(.sl [.sl [.int .i64]], .tip)], .tm 7 false [vi], .tm 8 false [vi], .tm 16 false [vl], .tm 17 false [vi], .tm 18 false [vi], .tm 25 false [(.sl [.sl [.int .i64]], .own)], .tm 26 false [vi], .tm 27 false [vi]] (.s .o .o))))) .o) .o))))))) .o) .o)))))) (.s (.s .o (.s (.s .o .o) .o)) (.s .o (.s (.s .o .o) .o))))) .o)))), [(25, 87), (37, 88), (38, 55), (45, 89)], none⟩
/-- boskage/boskageref04.Subset -/
noncomputable def g73 : AM.Sig := ⟨73, [.val true [vl], .val true [vi, vl, vr]], [(true, [vi, vl, vr]), (false, [(.sl [.sl [.int .i64]], .pure)]), (false, [vi])]⟩
noncomputable def s73 : AM.Spec := ⟨g73, Go.Proofs.Tryd.f73, .s .o (.s (.s .o (.s (.s .o .o) .o)) (.s .o (.s (.s .o (.s (.s .o .o) .o)) (.s .o (.s (.s .o (.j [.bx 2 [vl], .adr 2 (.box 2) 0, .bx 3 [vi, vl, vr], .adr 3 (.box 3) 0, .bx 4 [vi, wl, wr], .adr 4 (.box 4) 0, .tm 7 false [(.sl [.sl [.int .i64]], .pure)], .bx 9 [vi, wl, wr], .adr 9 (.box 9) 0] (.j [.bx 2 [vl], .adr 2 (.box 2) 0, .bx 3 [vi, vl, vr], .adr 3 (.box 3) 0, .bx 4 [vi, wl, wr], .adr 4 (.box 4) 0, .tm 7 false [(.sl [.sl [.int .i64]], .pure)], .bx 9 [vi, wl, wr], .adr 9 (.box 9) 0, .tm 34 false [(.sl [.sl [.int .i64]], .pure)], .tm 35 false [vi], .tm 36 false [vi]] (.s .o (.s (.s .o .o) (.s (.s (.s .o (.s .o (.j [.bx 2 [vl], .adr 2 (.box 2) 0, .bx 3 [vi, vl, vr], .adr 3 (.box 3) 0, .bx 4 [vi, wl, wr], .adr 4 (.box 4) 0, .tm 7 false [(.sl [.sl [.int .i64]], .pure)], .bx 9 [vi, wl, wr], .adr 9 (.box 9) 0, .tm 34 false [(.sl [.sl [.int .i64]], .pure)], .tm 35 false [vi], .tm 36 false [vi]] (.s .o .o)))) .o) .o)))))) (.s (.s .o (.j [.bx 4 [vi, wl, wr], .adr 4 (.box 4) 0, .tm 7 false [(.sl [.sl [.int .i64]], .pure)], .bx 9 [vi, wl, wr], .adr 9 (.box 9) 0] (.j [.bx 3 [vi, vl, vr], .adr 3 (.box 3) 0, .bx 4 [vi, wl, wr], .adr 4 (.box 4) 0, .tm 7 false [(.sl [.sl [.int .i64]], .pure)], .bx 9 [vi, wl, wr], .adr 9 (.box 9) 0, .tm 53 false [vl], .tm 54 false [vi], .tm 55 false [vi]] (.s .o (.s (.s .o .o) (.s (.s (.s .o (.s .o (.j [.bx 3 [vi, vl, vr], .adr 3 (.box 3) 0, .bx 4 [vi, wl, wr], .adr 4 (.box 4) 0, .tm 7 false [(.sl [.sl [.int .i64]], .pure)], .bx 9 [vi, wl, wr], .adr 9 (.box 9) 0, .tm 53 false [vl], .tm 54 false [vi], .tm 55 false [vi]] (.j [.bx 3 [vi, vl, vr], .adr 3 (.box 3) 0, .bx 4 [vi, wl, wr], .adr 4 (.box 4) 0, .tm 7 false [(.sl [.sl [.int .i64]], .pure)], .bx 9 [vi, wl, wr], .adr 9 (.box 9) 0, .tm 12 false [vi], .tm 53 false [vl], .tm 54 false [vi], .tm 55 false [vi], .tm 63 false [(.sl [.sl [.int .i64]], .own)], .tm 64 false [vi], .tm 65 false [vi]] (.s .o (.s (.s .o .o) (.s (.s (.s .o (.s .o (.s .o (.j [.bx 3 [vi, vl, vr], .adr 3 (.box 3) 0, .bx 4 [vi, wl, wr], .adr 4 (.box 4) 0, .tm 7 false [(.sl [.sl [.int .i64]], .pure)], .bx 9 [vi, wl, wr], .adr 9 (.box 9) 0, .tm 12 false [vi], .tm 53 false [vl], .tm 54 false [vi], .tm 55 false [vi], .tm 63 false [(.sl [.sl [.int .i64]], .own)], .tm 64 false [vi], .tm 65 false [vi]] (.s .o .o))))) .o) .o))))))) .o) .o)))))) (.s (.s .o (.s (.s .o .o) .o)) (.s .o .o)))))))), [(19, 33), (25, 86), (44, 42), (63, 87), (73, 88), (74, 55), (84, 89)], none⟩
/-- boskage/boskageref04.Over -/
noncomputable def g74 : AM.Sig := ⟨74, [.val true [vl], .val false [vi]], [(false, [vb])]⟩
noncomputable def s74 : AM.Spec := ⟨g74, Go.Proofs.Tryd.f74, .s .o (.s (.j [.tm 4 false [vb]] .o) .o), [(10, 58)], none⟩
/-- boskage/boskageref04.Filled -/
noncomputable def g75 : AM.Sig := ⟨75, [.val true [vl], .val true [vi, vl, vr]], [(true, [vi, wl, wr])]⟩
noncomputable def s75 : AM.Spec := ⟨g75, Go.Proofs.Tryd.f75, .s .o (.s .o (.s (.s .o (.j [.bx 4 [vi, wl, wr], .adr 4 (.box 4) 0, .bx 5 [vi, wl, wr], .adr 5 (.box 5) 0] (.j [.bx 3 [vi, vl, vr], .adr 3 (.box 3) 0, .bx 4 [vi, wl, wr], .adr 4 (.box 4) 0, .bx 5 [vi, wl, wr], .adr 5 (.box 5) 0, .tm 26 false [vl], .tm 27 false [vi], .tm 28 false [vi]] (.s .o (.s (.s .o .o) (.s (.s (.s .o (.s .o (.j [.bx 3 [vi, vl, vr], .adr 3 (.box 3) 0, .bx 4 [vi, wl, wr], .adr 4 (.box 4) 0, .bx 5 [vi, wl, wr], .adr 5 (.box 5) 0, .tm 26 false [vl], .tm 27 false [vi], .tm 28 false [vi]] (.j [.bx 3 [vi, vl, vr], .adr 3 (.box 3) 0, .bx 4 [vi, wl, wr], .adr 4 (.box 4) 0, .bx 5 [vi, wl, wr], .adr 5 (.box 5) 0, .tm 6 false [vi], .tm 26 false [vl], .tm 27 false [vi], .tm 28 false [vi], .tm 37 false [(.sl [.sl [.int .i64]], .own)], .tm 38 false [vi], .tm 39 false [vi]] (.s .o (.s (.s .o .o) (.s (.s (.s .o (.s .o (.s (.s .o (.j [.bx 3 [vi, vl, vr], .adr 3 (.box 3) 0, .bx 4 [vi, wl, wr], .adr 4 (.box 4) 0, .bx 5 [vi, wl, wr], .adr 5 (.box 5) 0, .tm 6 false [vi], .tm 9 false [vl], .tm 10 false [vb], .tm 26 false [vl], .tm 27 false [vi], .tm 28 false [vi], .tm 37 false [(.sl [.sl [.int .i64]], .own)], .tm 38 false [vi], .tm 39 false [vi]] (.j [.bx 3 [vi, vl, vr], .adr 3 (.box 3) 0, .bx 4 [vi, wl, wr], .adr 4 (.box 4) 0, .bx 5 [vi, wl, wr], .adr 5 (.box 5) 0, .tm 6 false [vi], .tm 9 false [vl], .tm 10 false [vb], .tm 26 false [vl], .tm 27 false [vi], .tm 28 false [vi], .tm 37 false [(.sl [.sl [.int .i64]], .own)], .tm 38 false [vi], .tm 39 false [vi], .tm 44 false [vr], .tm 45 false [vi], .tm 46 false [vi]] (.s .o (.s (.s .o .o) (.s (.s (.s .o (.j [.bx 3 [vi, vl, vr], .adr 3 (.box 3) 0, .bx 4 [vi, wl, wr], .adr 4 (.box 4) 0, .bx 5 [vi, wl, wr], .adr 5 (.box 5) 0, .tm 6 false [vi], .tm 9 false [vl], .tm 10 false [vb], .tm 26 false [vl], .tm 27 false [vi], .tm 28 false [vi], .tm 37 false [(.sl [.sl [.int .i64]], .own)], .tm 38 false [vi], .tm 39 false [vi], .tm 44 false [vr], .tm 45 false [vi], .tm 46 false [vi]] .o)) .o) .o)))))) (.s .o (.j [.bx 3 [vi, vl, vr], .adr 3 (.box 3) 0, .bx 4 [vi, wl, wr], .adr 4 (.box 4) 0, .bx 5 [vi, wl, wr], .adr 5 (.box 5) 0, .tm 6 false [vi], .tm 26 false [vl], .tm 27 false [vi], .tm 28 false [vi], .tm 37 false [(.sl [.sl [.int .i64]], .own)], .tm 38 false [vi], .tm 39 false [vi]] (.s .o .o)))))) .o) .o))))))) .o) .o)))))) (.s .o .o))), [(37, 87), (60, 49)], none⟩
/-- (boskage/boskageref04.Table).index -/
noncomputable def g107 : AM.Sig := ⟨107, [.val true [vi, (.sl [.sl [.int .i64]], .pure)], .val false [vl]], [(false, [vi])]⟩
noncomputable def s107 : AM.Spec := ⟨g107, Go.Proofs.Tryd.f107, .s .o (.s .o (.s (.s .o (.j [.tm 5 false [vi]] (.j [.bx 2 [vi, (.sl [.sl [.int .i64]], .pure)], .adr 2 (.box 2) 0, .tm 5 false [vi], .tm 8 false [vl], .tm 9 false [vi], .tm 10 false [vi]] (.s .o (.s (.s .o .o) (.s (.s (.s .o .o) .o) .o)))))) (.s .o .o))), [], none⟩
/-- boskage/boskageref04.Make -/
noncomputable def g90 : AM.Sig := ⟨90, [.val true [vl], .val true [vi, vl, vr]], [(true, [vi, (.sl [.sl [.int .i64]], .own)])]⟩
noncomputable def s90 : AM.Spec := ⟨g90, Go.Proofs.Tryd.f90, .s .o (.s .o (.s (.s .o (.j [.bx 3 [vi, vl, vr], .adr 3 (.box 3) 0, .bx 4 [vi, (.sl [.sl [.int .i64]], .own)], .adr 4 (.box 4) 0, .bx 5 [vi, (.dl [.sl [.int .i64]], .own)], .adr 5 (.box 5) 0] (.j [.bx 3 [vi, vl, vr], .adr 3 (.box 3) 0, .bx 4 [vi, (.sl [.sl [.int .i64]], .own)], .adr 4 (.box 4) 0, .bx 5 [vi, (.dl [.sl [.int .i64]], .own)], .adr 5 (.box 5) 0, .tm 16 false [vl], .tm 17 false [vi], .tm 18 false [vi]] (.s .o (.s (.s .o .o) (.s (.s (.s .o (.s .o (.s (.s .o (.j [.bx 3 [vi, vl, vr], .adr 3 (.box 3) 0, .bx 4 [vi, (.sl [.sl [.int .i64]], .own)], .adr 4 (.box 4) 0, .bx 5 [vi, (.dl [.sl [.int .i64]], .own)], .adr 5 (.box 5) 0, .tm 8 false [wl], .tm 16 false [vl], .tm 17 false [vi], .tm 18 false [vi]] (.j [.bx 3 [vi, vl, vr], .adr 3 (.box 3) 0, .bx 4 [vi, (.sl [.sl [.int .i64]], .own)], .adr 4 (.box 4) 0, .bx 5 [vi, (.dl [.sl [.int .i64]], .own)], .adr 5 (.box 5) 0, .tm 8 false [wl], .tm 16 false [vl], .tm 17 false [vi], .tm 18 false [vi], .tm 28 false [vi], .tm 29 false [vi]] (.s .o (.s (.s .o .o) (.s (.s (.s .o .o) .o) .o)))))) .o))) .o) .o)))))) (.s (.s .o (.j [.bx 4 [vi, (.sl [.sl [.int .i64]], .own)], .adr 4 (.box 4) 0, .bx 5 [vi, (.dl [.sl [.int .i64]], .own)], .adr 5 (.box 5) 0] (.j [.bx 4 [vi, (.sl [.sl [.int .i64]], .own)], .adr 4 (.box 4) 0, .bx 5 [vi, (.dl [.sl [.int .i64]], .own)], .adr 5 (.box 5) 0, .tm 44 false [vr], .tm 45 false [vi], .tm 46 false [vi]] (.s .o (.s (.s .o .o) (.s (.s (.s .o .o) .o) .o)))))) (.s .o .o)))), [(5, 1), (14, 1), (25, 70), (39, 1), (59, 107)], none⟩
/-- (boskage/boskageref04.Table).Next -/
noncomputable def g93 : AM.Sig := ⟨93, [.val true [vi, (.sl [.sl [.int .i64]], .pure)], .val false [vi], .val false [vl]], [(false, [vi])]⟩
noncomputable def s93 : AM.Spec := ⟨g93, Go.Proofs.Tryd.f93, .s .o (.s .o .o), [(14, 107)], none⟩
/-- boskage/boskageref04.alike -/
noncomputable def g91 : AM.Sig := ⟨91, [.val true [vl], .val true [vi, (.sl [.sl [.int .i64]], .pure)], .val false [vl], .val false [vi], .val false [vi]], [(false, [vb])]⟩
noncomputable def s91 : AM.Spec := ⟨g91, Go.Proofs.Tryd.f91, .s .o (.s (.s .o (.jr [] (.j [.tm 2 false [vl], .tm 3 false [vi], .tm 4 false [vi], .bx 6 [vi, (.sl [.sl [.int .i64]], .pure)], .adr 6 (.box 6) 0, .tm 19 false [vl], .tm 20 false [vi], .tm 21 false [vi]] (.s .o (.s (.s .o .o) (.s (.s (.s .o (.s (.s .o (.s .o .o)) (.s .o (.jr [.tm 2 false [vl], .tm 3 false [vi], .tm 4 false [vi], .bx 6 [vi, (.sl [.sl [.int .i64]], .pure)], .adr 6 (.box 6) 0, .tm 19 false [vl], .tm 20 false [vi], .tm 21 false [vi]] (.j [.tm 2 false [vl], .tm 3 false [vi], .tm 4 false [vi], .bx 6 [vi, (.sl [.sl [.int .i64]], .pure)], .adr 6 (.box 6) 0, .tm 11 false [vi], .tm 12 false [vi], .tm 19 false [vl], .tm 20 false [vi], .tm 21 false [vi], .tm 32 false [(.sl [.sl [.int .i64]], .own)], .tm 33 false [vi], .tm 34 false [vi]] (.s .o (.s (.s .o .o) (.s (.s (.s .o (.s .o (.jr [.tm 2 false [vl], .tm 3 false [vi], .tm 4 false [vi], .bx 6 [vi, (.sl [.sl [.int .i64]], .pure)], .adr 6 (.box 6) 0, .tm 11 false [vi], .tm 12 false [vi], .tm 19 false [vl], .tm 20 false [vi], .tm 21 false [vi], .tm 32 false [(.sl [.sl [.int .i64]], .own)], .tm 33 false [vi], .tm 34 false [vi]] (.j [.tm 2 false [vl], .tm 3 false [vi], .tm 4 false [vi], .bx 6 [vi, (.sl [.sl [.int .i64]], .pure)], .adr 6 (.box 6) 0, .tm 11 false [vi], .tm 12 false [vi], .tm 14 false [vl], .tm 19 false [vl], .tm 20 false [vi], .tm 21 false [vi], .tm 32 false [(.sl [.sl [.int .i64]], .own)], .tm 33 false [vi], .tm 34 false [vi], .tm 38 false [vi], .tm 39 false [vi]] (.s .o (.s (.s .o .o) (.s (.s (.s .o (.s .o (.s .o (.s .o (.s (.s .o .o) .o))))) .o) .o))))))) .o) .o)))))))) .o) .o)))))) (.s .o .o)), [(32, 87), (70, 93), (77, 93)], none⟩
/-- boskage/boskageref04.many -/
noncomputable def g92 : AM.Sig := ⟨92, [.val false [vl]], [(false, [vi])]⟩
noncomputable def s92 : AM.Spec := ⟨g92, Go.Proofs.Tryd.f92, .s .o (.s .o (.s (.s .o (.j [.tm 3 false [vl]] (.j [.tm 3 false [vl], .tm 6 false [vl], .tm 7 false [vi], .tm 8 false [vi]] (.s .o (.s (.s .o .o) (.s (.s (.s .o .o) .o) .o)))))) (.s .o .o))), [(14, 69)], none⟩
/-- boskage/boskageref04.classes -/
noncomputable def g76 : AM.Sig := ⟨76, [.val true [vl], .val true [vi, vl, vr]], [(false, [wl])]⟩
noncomputable def s76 : AM.Spec := ⟨g76, Go.Proofs.Tryd.f76, .s .o (.s .o (.s .o (.s (.s .o (.j [.bx 2 [vl], .adr 2 (.box 2) 0, .bx 3 [vi, vl, vr], .adr 3 (.box 3) 0, .bx 5 [vi, (.sl [.sl [.int .i64]], .own)], .adr 5 (.box 5) 0, .tm 6 false [wl]] (.j [.bx 2 [vl], .adr 2 (.box 2) 0, .bx 3 [vi, vl, vr], .adr 3 (.box 3) 0, .bx 5 [vi, (.sl [.sl [.int .i64]], .own)], .adr 5 (.box 5) 0, .tm 6 false [wl], .tm 21 false [vl], .tm 22 false [vi], .tm 23 false [vi]] (.s .o (.s (.s .o .o) (.s (.s (.s .o .o) .o) .o)))))) (.jr [] (.j [.bx 2 [vl], .adr 2 (.box 2) 0, .bx 3 [vi, vl, vr], .adr 3 (.box 3) 0, .bx 5 [vi, (.sl [.sl [.int .i64]], .own)], .adr 5 (.box 5) 0, .tm 6 false [wl]] (.s (.s .o (.s .o (.s (.s .o (.j [.bx 2 [vl], .adr 2 (.box 2) 0, .bx 3 [vi, vl, vr], .adr 3 (.box 3) 0, .bx 5 [vi, (.sl [.sl [.int .i64]], .own)], .adr 5 (.box 5) 0, .tm 6 false [wl], .tm 10 false [wl]] (.j [.bx 2 [vl], .adr 2 (.box 2) 0, .bx 3 [vi, vl, vr], .adr 3 (.box 3) 0, .bx 5 [vi, (.sl [.sl [.int .i64]], .own)], .adr 5 (.box 5) 0, .tm 6 false [wl], .tm 9 false [wl], .tm 10 false [wl], .tm 35 false [vi], .tm 36 false [vi]] (.s .o (.s (.s .o .o) (.s (.s (.s .o (.s .o (.s (.s .o (.j [.bx 2 [vl], .adr 2 (.box 2) 0, .bx 3 [vi, vl, vr], .adr 3 (.box 3) 0, .bx 5 [vi, (.sl [.sl [.int .i64]], .own)], .adr 5 (.box 5) 0, .tm 6 false [wl], .tm 9 false [wl], .tm 10 false [wl], .tm 11 false [vi], .tm 35 false [vi], .tm 36 false [vi]] (.j [.bx 2 [vl], .adr 2 (.box 2) 0, .bx 3 [vi, vl, vr], .adr 3 (.box 3) 0, .bx 5 [vi, (.sl [.sl [.int .i64]], .own)], .adr 5 (.box 5) 0, .tm 6 false [wl], .tm 9 false [wl], .tm 10 false [wl], .tm 11 false [vi], .tm 35 false [vi], .tm 36 false [vi], .rf 44 (.tmp 9) 0 false 1, .tm 45 false [vi], .tm 46 false [vi]] (.s .o (.s (.s .o .o) (.s (.s (.s .o (.s (.j [.bx 2 [vl], .adr 2 (.box 2) 0, .bx 3 [vi, vl, vr], .adr 3 (.box 3) 0, .bx 5 [vi, (.sl [.sl [.int .i64]], .own)], .adr 5 (.box 5) 0, .tm 6 false [wl], .tm 9 false [wl], .tm 10 false [wl], .tm 11 false [vi], .tm 12 false [vi], .tm 35 false [vi], .tm 36 false [vi], .rf 44 (.tmp 9) 0 false 1, .tm 45 false [vi], .tm 46 false [vi], .tm 67 false [vb]] .o) (.s (.s .o .o) .o))) .o) .o)))))) (.s .o (.j [.bx 2 [vl], .adr 2 (.box 2) 0, .bx 3 [vi, vl, vr], .adr 3 (.box 3) 0, .bx 5 [vi, (.sl [.sl [.int .i64]], .own)], .adr 5 (.box 5) 0, .tm 6 false [wl], .tm 9 false [wl], .tm 10 false [wl], .tm 35 false [vi], .tm 36 false [vi]] (.s .o .o)))))) .o) .o)))))) (.s (.s .o (.s (.s .o .o) .o)) .o)))) .o)))))), [(16, 90), (66, 91), (86, 92), (88, 92)], none⟩
/-- boskage/boskageref04.Renumber -/
noncomputable def g77 : AM.Sig := ⟨77, [.val true [vl], .val true [vi, vl, vr]], [(true, [vi, wl, wr])]⟩
noncomputable def s77 : AM.Spec := ⟨g77, Go.Proofs.Tryd.f77, .s .o (.s .o (.s .o (.s (.s .o (.j [.bx 2 [vl], .adr 2 (.box 2) 0, .bx 3 [vi, vl, vr], .adr 3 (.box 3) 0, .bx 4 [vi, wl, wr], .adr 4 (.box 4) 0, .bx 5 [vi, (.sl [.sl [.int .i64]], .own)], .adr 5 (.box 5) 0, .tm 6 false [wl]] (.j [.bx 2 [vl], .adr 2 (.box 2) 0, .bx 3 [vi, vl, vr], .adr 3 (.box 3) 0, .bx 4 [vi, wl, wr], .adr 4 (.box 4) 0, .bx 5 [vi, (.sl [.sl [.int .i64]], .own)], .adr 5 (.box 5) 0, .tm 6 false [wl], .tm 33 false [vi], .tm 34 false [vi]] (.s .o (.s (.s .o .o) (.s (.s (.s .o .o) .o) .o)))))) (.s .o (.s (.j [.bx 3 [vi, vl, vr], .adr 3 (.box 3) 0, .bx 4 [vi, wl, wr], .adr 4 (.box 4) 0, .tm 6 false [wl], .tm 8 false [wl]] (.j [.bx 2 [vl], .adr 2 (.box 2) 0, .bx 3 [vi, vl, vr], .adr 3 (.box 3) 0, .bx 4 [vi, wl, wr], .adr 4 (.box 4) 0, .bx 5 [vi, (.sl [.sl [.int .i64]], .own)], .adr 5 (.box 5) 0, .tm 6 false [wl], .tm 8 false [wl]] (.s (.s .o (.s (.s .o (.j [.bx 2 [vl], .adr 2 (.box 2) 0, .bx 3 [vi, vl, vr], .adr 3 (.box 3) 0, .bx 4 [vi, wl, wr], .adr 4 (.box 4) 0, .bx 5 [vi, (.sl [.sl [.int .i64]], .own)], .adr 5 (.box 5) 0, .tm 6 false [wl], .tm 8 false [wl], .tm 9 false [vi]] (.j [.bx 2 [vl], .adr 2 (.box 2) 0, .bx 3 [vi, vl, vr], .adr 3 (.box 3) 0, .bx 4 [vi, wl, wr], .adr 4 (.box 4) 0, .bx 5 [vi, (.sl [.sl [.int .i64]], .own)], .adr 5 (.box 5) 0, .tm 6 false [wl], .tm 8 false [wl], .tm 9 false [vi], .tm 44 false [vl], .tm 45 false [vi], .tm 46 false [vi]] (.s .o (.s (.s .o .o) (.s (.s (.s .o (.s .o (.j [.bx 2 [vl], .adr 2 (.box 2) 0, .bx 3 [vi, vl, vr], .adr 3 (.box 3) 0, .bx 4 [vi, wl, wr], .adr 4 (.box 4) 0, .bx 5 [vi, (.sl [.sl [.int .i64]], .own)], .adr 5 (.box 5) 0, .tm 6 false [wl], .tm 8 false [wl], .tm 9 false [vi], .tm 44 false [vl], .tm 45 false [vi], .tm 46 false [vi]] (.j [.bx 2 [vl], .adr 2 (.box 2) 0, .bx 3 [vi, vl, vr], .adr 3 (.box 3) 0, .bx 4 [vi, wl, wr], .adr 4 (.box 4) 0, .bx 5 [vi, (.sl [.sl [.int .i64]], .own)], .adr 5 (.box 5) 0, .tm 6 false [wl], .tm 8 false [wl], .tm 9 false [vi], .tm 10 false [vi], .tm 44 false [vl], .tm 45 false [vi], .tm 46 false [vi], .tm 53 false [(.sl [.sl [.int .i64]], .own)], .tm 54 false [vi], .tm 55 false [vi]] (.s .o (.s (.s .o .o) (.s (.s (.s .o (.s .o (.s (.s .o (.j [.bx 2 [vl], .adr 2 (.box 2) 0, .bx 3 [vi, vl, vr], .adr 3 (.box 3) 0, .bx 4 [vi, wl, wr], .adr 4 (.box 4) 0, .bx 5 [vi, (.sl [.sl [.int .i64]], .own)], .adr 5 (.box 5) 0, .tm 6 false [wl], .tm 8 false [wl], .tm 9 false [vi], .tm 10 false [vi], .tm 14 false [wl], .tm 44 false [vl], .tm 45 false [vi], .tm 46 false [vi], .tm 53 false [(.sl [.sl [.int .i64]], .own)], .tm 54 false [vi], .tm 55 false [vi]] (.j [.bx 2 [vl], .adr 2 (.box 2) 0, .bx 3 [vi, vl, vr], .adr 3 (.box 3) 0, .bx 4 [vi, wl, wr], .adr 4 (.box 4) 0, .bx 5 [vi, (.sl [.sl [.int .i64]], .own)], .adr 5 (.box 5) 0, .tm 6 false [wl], .tm 8 false [wl], .tm 9 false [vi], .tm 10 false [vi], .tm 14 false [wl], .tm 44 false [vl], .tm 45 false [vi], .tm 46 false [vi], .tm 53 false [(.sl [.sl [.int .i64]], .own)], .tm 54 false [vi], .tm 55 false [vi], .tm 59 false [vl], .tm 60 false [vi], .tm 61 false [vi]] (.s .o (.s (.s .o .o) (.s (.s (.s .o .o) .o) .o)))))) (.s .o (.s (.j [.bx 2 [vl], .adr 2 (.box 2) 0, .bx 3 [vi, vl, vr], .adr 3 (.box 3) 0, .bx 4 [vi, wl, wr], .adr 4 (.box 4) 0, .bx 5 [vi, (.sl [.sl [.int .i64]], .own)], .adr 5 (.box 5) 0, .tm 6 false [wl], .tm 8 false [wl], .tm 9 false [vi], .tm 10 false [vi], .tm 17 false [vi], .tm 44 false [vl], .tm 45 false [vi], .tm 46 false [vi], .tm 53 false [(.sl [.sl [.int .i64]], .own)], .tm 54 false [vi], .tm 55 false [vi], .tm 85 false [vb]] .o) (.j [.bx 2 [vl], .adr 2 (.box 2) 0, .bx 3 [vi, vl, vr], .adr 3 (.box 3) 0, .bx 4 [vi, wl, wr], .adr 4 (.box 4) 0, .bx 5 [vi, (.sl [.sl [.int .i64]], .own)], .adr 5 (.box 5) 0, .tm 6 false [wl], .tm 8 false [wl], .tm 9 false [vi], .tm 10 false [vi], .tm 44 false [vl], .tm 45 false [vi], .tm 46 false [vi], .tm 53 false [(.sl [.sl [.int .i64]], .own)], .tm 54 false [vi], .tm 55 false [vi]] (.s (.s .o .o) .o))))))) .o) .o))))))) .o) .o)))))) (.s .o (.s .o .o)))) .o))) (.s .o (.s (.s .o (.j [.bx 3 [vi, vl, vr], .adr 3 (.box 3) 0, .bx 4 [vi, wl, wr], .adr 4 (.box 4) 0, .tm 6 false [wl], .bx 18 [vi, wl, wr], .adr 18 (.box 18) 0] (.j [.bx 3 [vi, vl, vr], .adr 3 (.box 3) 0, .bx 4 [vi, wl, wr], .adr 4 (.box 4) 0, .tm 6 false [wl], .tm 8 false [wl], .bx 18 [vi, wl, wr], .adr 18 (.box 18) 0, .rf 104 (.tmp 8) 0 false 1, .tm 105 false [vi], .tm 106 false [vi]] (.s .o (.s (.s .o .o) (.s (.s (.s .o (.s .o (.j [.bx 3 [vi, vl, vr], .adr 3 (.box 3) 0, .bx 4 [vi, wl, wr], .adr 4 (.box 4) 0, .tm 6 false [wl], .tm 8 false [wl], .bx 18 [vi, wl, wr], .adr 18 (.box 18) 0, .rf 104 (.tmp 8) 0 false 1, .tm 105 false [vi], .tm 106 false [vi]] (.s .o .o)))) .o) .o)))))) (.s (.s .o (.j [.bx 4 [vi, wl, wr], .adr 4 (.box 4) 0, .bx 18 [vi, wl, wr], .adr 18 (.box 18) 0] (.j [.bx 4 [vi, wl, wr], .adr 4 (.box 4) 0, .tm 6 false [wl], .bx 18 [vi, wl, wr], .adr 18 (.box 18) 0, .tm 123 false [vr], .tm 124 false [vi], .tm 125 false [vi]] (.s .o (.s (.s .o .o) (.s (.s (.s .o (.s .o (.s (.s .o (.j [.bx 4 [vi, wl, wr], .adr 4 (.box 4) 0, .tm 6 false [wl], .bx 18 [vi, wl, wr], .adr 18 (.box 18) 0, .bx 23 [vi, wl, vi], .adr 23 (.box 23) 0, .tm 123 false [vr], .tm 124 false [vi], .tm 125 false [vi]] (.j [.bx 4 [vi, wl, wr], .adr 4 (.box 4) 0, .tm 6 false [wl], .bx 18 [vi, wl, wr], .adr 18 (.box 18) 0, .bx 23 [vi, wl, vi], .adr 23 (.box 23) 0, .tm 123 false [vr], .tm 124 false [vi], .tm 125 false [vi], .tm 138 false [vl], .tm 139 false [vi], .tm 140 false [vi]] (.s .o (.s (.s .o .o) (.s (.s (.s .o .o) .o) .o)))))) .o))) .o) .o)))))) (.s .o (.s .o .o)))))))))), [(28, 90), (53, 87), (76, 93), (114, 54), (163, 84)], none⟩
/-- boskage/boskageref04.Minimal -/
noncomputable def g59 : AM.Sig := ⟨59, [.val true [vl], .val true [vi, vl, vr]], [(true, [vi, vl, vr]), (false, [vb])]⟩
noncomputable def s59 : AM.Spec := ⟨g59, Go.Proofs.Tryd.f59, .s .o (.s .o (.s (.s (.j [.bx 2 [vl], .adr 2 (.box 2) 0, .bx 4 [vi, wl, wr], .adr 4 (.box 4) 0, .bx 6 [vi, vl, vr], .adr 6 (.box 6) 0, .tm 36 false [vb]] .o) (.s (.s .o .o) .o)) (.s .o (.s .o (.s .o (.s (.s .o (.j [.bx 2 [vl], .adr 2 (.box 2) 0, .bx 4 [vi, wl, wr], .adr 4 (.box 4) 0, .bx 6 [vi, (.sl [.int .i64], .tip), (.sl [.int .i64, .sl [.int .i64], .int .i64], .tip)], .adr 6 (.box 6) 0, .tm 9 false [wl], .bx 10 [vi, wl, wr], .adr 10 (.box 10) 0] (.j [.bx 2 [vl], .adr 2 (.box 2) 0, .bx 4 [vi, wl, wr], .adr 4 (.box 4) 0, .bx 6 [vi, (.sl [.int .i64], .tip), (.sl [.int .i64, .sl [.int .i64], .int .i64], .tip)], .adr 6 (.box 6) 0, .tm 9 false [wl], .bx 10 [vi, wl, wr], .adr 10 (.box 10) 0, .rf 45 (.tmp 9) 0 false 1, .tm 46 false [vi], .tm 47 false [vi]] (.s .o (.s (.s .o .o) (.s (.s (.s .o .o) .o) .o)))))) (.s (.s .o (.j [.bx 2 [vl], .adr 2 (.box 2) 0, .bx 4 [vi, wl, wr], .adr 4 (.box 4) 0, .bx 6 [vi, (.sl [.int .i64], .tip), (.sl [.int .i64, .sl [.int .i64], .int .i64], .tip)], .adr 6 (.box 6) 0, .tm 9 false [wl], .bx 10 [vi, vl, wr], .adr 10 (.box 10) 0] (.j [.bx 2 [vl], .adr 2 (.box 2) 0, .bx 4 [vi, wl, wr], .adr 4 (.box 4) 0, .bx 6 [vi, (.sl [.int .i64], .tip), (.sl [.int .i64, .sl [.int .i64], .int .i64], .tip)], .adr 6 (.box 6) 0, .tm 9 false [wl], .bx 10 [vi, vl, wr], .adr 10 (.box 10) 0, .rf 58 (.tmp 9) 0 false 1, .tm 59 false [vi], .tm 60 false [vi]] (.s .o (.s (.s .o .o) (.s (.s (.s .o (.s .o (.j [.bx 2 [vl], .adr 2 (.box 2) 0, .bx 4 [vi, wl, wr], .adr 4 (.box 4) 0, .bx 6 [vi, (.sl [.int .i64], .tip), (.sl [.int .i64, .sl [.int .i64], .int .i64], .tip)], .adr 6 (.box 6) 0, .tm 9 false [wl], .bx 10 [vi, vl, wr], .adr 10 (.box 10) 0, .rf 58 (.tmp 9) 0 false 1, .tm 59 false [vi], .tm 60 false [vi]] (.s .o .o)))) .o) .o)))))) (.s (.s .o (.j [.bx 2 [vl], .adr 2 (.box 2) 0, .bx 4 [vi, wl, wr], .adr 4 (.box 4) 0, .bx 10 [vi, vl, wr], .adr 10 (.box 10) 0] (.j [.bx 2 [vl], .adr 2 (.box 2) 0, .bx 4 [vi, wl, wr], .adr 4 (.box 4) 0, .bx 6 [vi, (.sl [.int .i64], .tip), (.sl [.int .i64, .sl [.int .i64], .int .i64], .tip)], .tm 9 false [wl], .bx 10 [vi, vl, wr], .adr 10 (.box 10) 0, .rf 76 (.box 6) 2 false 1, .tm 77 false [vi], .tm 78 false [vi]] (.s .o (.s (.s .o .o) (.s (.s (.s .o (.s .o (.s (.s .o (.j [.bx 2 [vl], .adr 2 (.box 2) 0, .bx 4 [vi, wl, wr], .adr 4 (.box 4) 0, .bx 6 [vi, (.sl [.int .i64], .tip), (.sl [.int .i64, .sl [.int .i64], .int .i64], .tip)], .tm 9 false [wl], .bx 10 [vi, vl, wr], .adr 10 (.box 10) 0, .bx 17 [vi, wl, vi], .adr 17 (.box 17) 0, .rf 76 (.box 6) 2 false 1, .tm 77 false [vi], .tm 78 false [vi]] (.j [.bx 2 [vl], .adr 2 (.box 2) 0, .bx 4 [vi, wl, wr], .adr 4 (.box 4) 0, .bx 6 [vi, (.sl [.int .i64], .tip), (.sl [.int .i64, .sl [.int .i64], .int .i64], .tip)], .tm 9 false [wl], .bx 10 [vi, vl, wr], .adr 10 (.box 10) 0, .bx 17 [vi, wl, vi], .adr 17 (.box 17) 0, .rf 76 (.box 6) 2 false 1, .tm 77 false [vi], .tm 78 false [vi], .tm 91 false [vl], .tm 92 false [vi], .tm 93 false [vi]] (.s .o (.s (.s .o .o) (.s (.s (.s .o .o) .o) .o)))))) .o))) .o) .o)))))) (.s .o .o))))))))), [(23, 57), (24, 73), (35, 74), (40, 75), (43, 76), (68, 54), (72, 69), (116, 57), (117, 77)], none⟩
/-- boskage/boskageref03.Same -/
noncomputable def g60 : AM.Sig := ⟨60, [.val true [vi, vl, vr], .val true [vi, vl, vr]], [(false, [vb])]⟩
noncomputable def s60 : AM.Spec := ⟨g60, Go.Proofs.Tryd.f60, .s .o (.s (.s (.j [.bx 2 [vi, vl, vr], .adr 2 (.box 2) 0, .bx 3 [vi, vl, vr], .adr 3 (.box 3) 0, .tm 28 false [vb]] .o) (.s (.s .o .o) .o)) (.s (.s .o (.jr [] (.j [.bx 3 [vi, vl, vr], .adr 3 (.box 3) 0, .tm 30 false [vr], .tm 31 false [vi], .tm 32 false [vi]] (.s .o (.s (.s .o .o) (.s (.s (.s .o (.s (.j [.bx 3 [vi, vl, vr], .adr 3 (.box 3) 0, .tm 30 false [vr], .tm 31 false [vi], .tm 32 false [vi], .tm 68 false [vb]] .o) (.s (.s .o .o) .o))) .o) .o)))))) (.s .o .o))), [(17, 49), (66, 49)], none⟩
/-- boskage/boskageref04.Equal -/
noncomputable def g45 : AM.Sig := ⟨45, [.val true [vl], .val true [vi, vl, vr], .val true [vi, vl, vr]], [(false, [vb]), (false, [vb])]⟩
noncomputable def s45 : AM.Spec := ⟨g45, Go.Proofs.Tryd.f45, .s .o (.s .o (.s .o (.s (.j [.tm 6 false [vb], .tm 7 false [vb]] .o) .o))), [(14, 59), (20, 59), (30, 60)], none⟩
/-- boskage/boskageref04.Alike -/
noncomputable def g17 : AM.Sig := ⟨17, [.val true [vl], .val true [vi, vl, vr], .val true [vi, vl, vr]], [(false, [vb])]⟩
noncomputable def s17 : AM.Spec := ⟨g17, Go.Proofs.Tryd.f17, .s .o (.s (.s .o (.s (.s .o .o) .o)) (.s .o (.s (.j [.tm 6 false [vb]] .o) .o))), [(13, 44), (19, 45)], none⟩
/-- boskage/boskagelaw05.BooleanUnion -/
noncomputable def g4 : AM.Sig := ⟨4, [.val true [vl], .val true [vi, vl, vr], .val true [vi, vl, vr], .val true [vi, vk]], [(false, [vb])]⟩
noncomputable def s4 : AM.Spec := ⟨g4, Go.Proofs.Tryd.f4, .s .o (.s (.s .o (.s (.s .o .o) .o)) (.s .o (.s (.s .o (.s (.s (.j [.tm 8 false [vb]] .o) .o) .o)) (.s (.s (.j [.bx 4 [vl], .adr 4 (.box 4) 0, .bx 5 [vi, vl, vr], .adr 5 (.box 5) 0, .bx 6 [vi, vl, vr], .adr 6 (.box 6) 0, .bx 7 [vi, vk], .adr 7 (.box 7) 0, .bx 9 [vi, vl, vr], .adr 9 (.box 9) 0, .tm 45 false [vb]] .o) (.s (.s .o .o) .o)) (.s (.s (.j [.bx 4 [vl], .adr 4 (.box 4) 0, .bx 5 [vi, vl, vr], .adr 5 (.box 5) 0, .bx 6 [vi, vl, vr], .adr 6 (.box 6) 0, .bx 9 [vi, vl, vr], .adr 9 (.box 9) 0, .tm 63 false [vb]] .o) (.s (.s .o .o) .o)) (.s (.j [.tm 8 false [vb]] .o) .o)))))), [(16, 8), (18, 9), (23, 15), (30, 11), (35, 9), (43, 11), (48, 12), (55, 16), (59, 16), (61, 13), (68, 18), (69, 17), (71, 9)], none⟩
/-- boskage/boolean.mapped -/
noncomputable def g48 : AM.Sig := ⟨48, [.val true [vl], .val true [vl], .val false [vl]], [(false, [vi])]⟩
noncomputable def s48 : AM.Spec := ⟨g48, Go.Proofs.Tryd.f48, .s .o (.s (.s .o (.s (.s .o .o) .o)) (.s (.s .o (.jr [] (.j [.bx 3 [vl], .adr 3 (.box 3) 0, .bx 4 [vl], .adr 4 (.box 4) 0, .tm 15 false [vl], .tm 16 false [vi], .tm 17 false [vi]] (.s .o (.s (.s .o .o) (.s (.s (.s .o (.s (.j [.bx 3 [vl], .adr 3 (.box 3) 0, .bx 4 [vl], .adr 4 (.box 4) 0, .tm 15 false [vl], .tm 16 false [vi], .tm 17 false [vi], .tm 43 false [vb]] .o) (.s (.s .o .o) .o))) .o) .o)))))) (.s .o .o))), [], none⟩
/-- boskage/boolean.Unlabel -/
noncomputable def g20 : AM.Sig := ⟨20, [.val true [vl], .val true [vl], .val false [vl], .val true [vi, vl, vr]], [(true, [vi, vl, vr]), (false, [vi])]⟩
noncomputable def s20 : AM.Spec := ⟨g20, Go.Proofs.Tryd.f20, .s .o (.s (.s (.j [.tm 2 false [vl], .bx 4 [vl], .adr 4 (.box 4) 0, .bx 5 [vl], .adr 5 (.box 5) 0, .bx 7 [vi, vl, vr], .adr 7 (.box 7) 0, .bx 8 [vi, wl, wr], .adr 8 (.box 8) 0, .tm 29 false [vb]] .o) (.s (.s .o .o) .o)) (.s (.s .o (.s .o (.s (.s .o .o) .o))) (.s .o (.s (.s .o (.jr [.bx 8 [vi, wl, wr], .adr 8 (.box 8) 0, .bx 11 [vi, wl, wr], .adr 11 (.box 11) 0] (.j [.tm 2 false [vl], .bx 8 [vi, wl, wr], .adr 8 (.box 8) 0, .bx 11 [vi, wl, wr], .adr 11 (.box 11) 0, .tm 46 false [vr], .tm 47 false [vi], .tm 48 false [vi]] (.s .o (.s (.s .o .o) (.s (.s (.s .o (.s (.s .o (.j [.tm 2 false [vl], .bx 8 [vi, wl, wr], .adr 8 (.box 8) 0, .bx 11 [vi, wl, wr], .adr 11 (.box 11) 0, .tm 46 false [vr], .tm 47 false [vi], .tm 48 false [vi]] (.j [.tm 2 false [vl], .bx 8 [vi, wl, wr], .adr 8 (.box 8) 0, .bx 11 [vi, wl, wr], .adr 11 (.box 11) 0, .bx 13 [vi, vl, vi], .adr 13 (.box 13) 0, .tm 46 false [vr], .tm 47 false [vi], .tm 48 false [vi], .tm 52 false [vl], .tm 53 false [vi], .tm 54 false [vi]] (.s .o (.s (.s .o .o) (.s (.s (.s .o (.s .o (.j [.tm 2 false [vl], .bx 8 [vi, wl, wr], .adr 8 (.box 8) 0, .bx 11 [vi, wl, wr], .adr 11 (.box 11) 0, .bx 13 [vi, vl, vi], .adr 13 (.box 13) 0, .tm 46 false [vr], .tm 47 false [vi], .tm 48 false [vi], .tm 52 false [vl], .tm 53 false [vi], .tm 54 false [vi]] (.s .o .o)))) .o) .o)))))) (.s .o (.s (.s .o .o) .o)))) .o) .o)))))) (.s .o .o))))), [(17, 47), (21, 47), (27, 34), (34, 48), (43, 37), (68, 37)], none⟩
/-- boskage/boskageref05.Mapped -/
noncomputable def g22 : AM.Sig := ⟨22, [.val true [vl], .val true [vl], .val false [vl]], [(false, [vi])]⟩
noncomputable def s22 : AM.Spec := ⟨g22, Go.Proofs.Tryd.f22, .s .o (.s (.s .o (.s (.s .o .o) .o)) (.s (.s .o (.jr [] (.j [.bx 3 [vl], .adr 3 (.box 3) 0, .bx 4 [vl], .adr 4 (.box 4) 0, .tm 15 false [vl], .tm 16 false [vi], .tm 17 false [vi]] (.s .o (.s (.s .o .o) (.s (.s (.s .o (.s (.j [.bx 3 [vl], .adr 3 (.box 3) 0, .bx 4 [vl], .adr 4 (.box 4) 0, .tm 15 false [vl], .tm 16 false [vi], .tm 17 false [vi], .tm 43 false [vb]] .o) (.s (.s .o .o) .o))) .o) .o)))))) (.s .o .o))), [], none⟩
/-- boskage/boskageref05.Map -/
noncomputable def g24 : AM.Sig := ⟨24, [.val false [vl], .val true [vi, vk]], [(true, [vi, (.rsl [.int .i64], .own)])]⟩
noncomputable def s24 : AM.Spec := ⟨g24, Go.Proofs.Tryd.f24, .s .o (.s .o (.s (.s .o (.j [.bx 4 [vi, (.rsl [.int .i64], .own)], .adr 4 (.box 4) 0, .bx 5 [vi, (.rsl [.int .i64], .own)], .adr 5 (.box 5) 0] (.j [.tm 0 false [vl], .bx 4 [vi, (.rsl [.int .i64], .own)], .adr 4 (.box 4) 0, .bx 5 [vi, (.rsl [.int .i64], .own)], .adr 5 (.box 5) 0, .tm 15 false [vk], .tm 16 false [vi], .tm 17 false [vi]] (.s .o (.s (.s .o .o) (.s (.s (.s .o .o) .o) .o)))))) (.s .o .o))), [(25, 24)], none⟩
/-- boskage/boskageref05.Unlabel -/
noncomputable def g25 : AM.Sig := ⟨25, [.val false [vl], .val true [vi, vl, vr]], [(true, [vi, wl, wr])]⟩
noncomputable def s25 : AM.Spec := ⟨g25, Go.Proofs.Tryd.f25, .s .o (.s .o (.s (.s .o (.j [.bx 4 [vi, wl, wr], .adr 4 (.box 4) 0, .bx 5 [vi, wl, wr], .adr 5 (.box 5) 0] (.j [.tm 0 false [vl], .bx 4 [vi, wl, wr], .adr 4 (.box 4) 0, .bx 5 [vi, wl, wr], .adr 5 (.box 5) 0, .tm 18 false [vr], .tm 19 false [vi], .tm 20 false [vi]] (.s .o (.s (.s .o .o) (.s (.s (.s .o (.s .o (.j [.tm 0 false [vl], .bx 4 [vi, wl, wr], .adr 4 (.box 4) 0, .bx 5 [vi, wl, wr], .adr 5 (.box 5) 0, .tm 18 false [vr], .tm 19 false [vi], .tm 20 false [vi]] (.j [.tm 0 false [vl], .bx 4 [vi, wl, wr], .adr 4 (.box 4) 0, .bx 5 [vi, wl, wr], .adr 5 (.box 5) 0, .bx 7 [vi, vl, vi], .adr 7 (.box 7) 0, .tm 18 false [vr], .tm 19 false [vi], .tm 20 false [vi], .tm 24 false [vl], .tm 25 false [vi], .tm 26 false [vi]] (.s .o (.s (.s .o .o) (.s (.s (.s .o (.s .o (.j [.tm 0 false [vl], .bx 4 [vi, wl, wr], .adr 4 (.box 4) 0, .bx 5 [vi, wl, wr], .adr 5 (.box 5) 0, .bx 7 [vi, vl, vi], .adr 7 (.box 7) 0, .tm 18 false [vr], .tm 19 false [vi], .tm 20 false [vi], .tm 24 false [vl], .tm 25 false [vi], .tm 26 false [vi]] (.s .o .o)))) .o) .o))))))) .o) .o)))))) (.s .o .o))), [], none⟩
/-- boskage/boskagelaw05.BooleanUnlabels -/
noncomputable def g6 : AM.Sig := ⟨6, [.val true [vl], .val true [vl], .val false [vl], .val true [vi, vl, vr], .val true [vi, vk]], [(false, [vb])]⟩
noncomputable def s6 : AM.Spec := ⟨g6, Go.Proofs.Tryd.f6, .s .o (.s (.s (.j [.tm 2 false [vl], .bx 5 [vl], .adr 5 (.box 5) 0, .bx 6 [vl], .adr 6 (.box 6) 0, .bx 8 [vi, vl, vr], .adr 8 (.box 8) 0, .bx 9 [vi, vk], .adr 9 (.box 9) 0, .tm 30 false [vb]] .o) (.s (.s .o .o) .o)) (.s .o (.s (.s (.j [.tm 2 false [vl], .bx 5 [vl], .adr 5 (.box 5) 0, .bx 6 [vl], .adr 6 (.box 6) 0, .bx 8 [vi, vl, vr], .adr 8 (.box 8) 0, .bx 9 [vi, vk], .adr 9 (.box 9) 0, .bx 11 [vi, vl, vr], .adr 11 (.box 11) 0, .tm 12 false [vi], .tm 49 false [vb]] .o) (.s (.s (.j [.tm 10 false [vb]] .o) .o) .o)) (.s (.s .o (.s .o (.s (.s (.j [.tm 10 false [vb]] .o) .o) .o))) (.s (.s (.j [.tm 2 false [vl], .bx 5 [vl], .adr 5 (.box 5) 0, .bx 8 [vi, vl, vr], .adr 8 (.box 8) 0, .bx 9 [vi, vk], .adr 9 (.box 9) 0, .bx 11 [vi, vl, vr], .adr 11 (.box 11) 0, .tm 84 false [vb]] .o) (.s (.s .o .o) .o)) (.s (.s (.j [.tm 2 false [vl], .bx 5 [vl], .adr 5 (.box 5) 0, .bx 8 [vi, vl, vr], .adr 8 (.box 8) 0, .bx 11 [vi, vl, vr], .adr 11 (.box 11) 0, .tm 99 false [vb]] .o) (.s (.s .o .o) .o)) (.s (.j [.tm 10 false [vb]] .o) .o))))))), [(18, 8), (31, 9), (37, 20), (43, 11), (47, 21), (53, 9), (58, 22), (65, 9), (73, 11), (78, 23), (81, 23), (87, 12), (95, 24), (96, 16), (97, 13), (104, 25), (105, 17), (107, 9)], none⟩
noncomputable def specTab : List (Nat × AM.Spec) := [(28, s28), (51, s51), (29, s29), (8, s8), (30, s30), (62, s62), (1001, s1001), (1000, s1000), (47, s47), (52, s52), (34, s34), (37, s37), (35, s35), (36, s36), (68, s68), (53, s53), (38, s38), (10, s10), (32, s32), (31, s31), (21, s21), (33, s33), (54, s54), (69, s69), (55, s55), (43, s43), (42, s42), (16, s16), (9, s9), (1002, s1002), (15, s15), (11, s11), (39, s39), (12, s12), (13, s13), (46, s46), (18, s18), (85, s85), (72, s72), (106, s106), (105, s105), (84, s84), (71, s71), (57, s57), (70, s70), (56, s56), (49, s49), (23, s23), (58, s58), (44, s44), (87, s87), (88, s88), (89, s89), (86, s86), (73, s73), (74, s74), (75, s75), (107, s107), (90, s90), (93, s93), (91, s91), (92, s92), (76, s76), (77, s77), (59, s59), (60, s60), (45, s45), (17, s17), (4, s4), (48, s48), (20, s20), (22, s22), (24, s24), (25, s25), (6, s6)]
noncomputable def globAt (g : Nat) : Option (List CV) := bif Nat.beq g 0 then some [⟨.sl [.int .i64], .pure, ([0, 2] : List Int)⟩] else none
noncomputable def prg : AM.Prg := ⟨tabAt tyTab, globAt, orAt s28 specTab⟩
noncomputable def envX (i : Nat) : Env := prg.env i fun _ _ => none
theorem fn28 : FnOk Go.Proofs.Tryd.prog s28 := ⟨Go.Proofs.Tryd.func28, by kernel_rfl, by kernel_rfl, by kernel_rfl⟩
theorem fn51 : FnOk Go.Proofs.Tryd.prog s51 := ⟨Go.Proofs.Tryd.func51, by kernel_rfl, by kernel_rfl, by kernel_rfl⟩
theorem fn29 : FnOk Go.Proofs.Tryd.prog s29 := ⟨Go.Proofs.Tryd.func29, by kernel_rfl, by kernel_rfl, by kernel_rfl⟩
theorem fn8 : FnOk Go.Proofs.Tryd.prog s8 := ⟨Go.Proofs.Tryd.func8, by kernel_rfl, by kernel_rfl, by kernel_rfl⟩
theorem fn30 : FnOk Go.Proofs.Tryd.prog s30 := ⟨Go.Proofs.Tryd.func30, by kernel_rfl, by kernel_rfl, by kernel_rfl⟩
theorem fn62 : FnOk Go.Proofs.Tryd.prog s62 := ⟨Go.Proofs.Tryd.func62, by kernel_rfl, by kernel_rfl, by kernel_rfl⟩
theorem fn1001 : FnOk Go.Proofs.Tryd.prog s1001 := ⟨Go.Proofs.Tryd.func78, by kernel_rfl, by kernel_rfl, by kernel_rfl⟩
theorem fn1000 : FnOk Go.Proofs.Tryd.prog s1000 := ⟨Go.Proofs.Tryd.func61, by kernel_rfl, by kernel_rfl, by kernel_rfl⟩
theorem fn47 : FnOk Go.Proofs.Tryd.prog s47 := ⟨Go.Proofs.Tryd.func47, by kernel_rfl, by kernel_rfl, by kernel_rfl⟩
theorem fn52 : FnOk Go.Proofs.Tryd.prog s52 := ⟨Go.Proofs.Tryd.func52, by kernel_rfl, by kernel_rfl, by kernel_rfl⟩
theorem fn34 : FnOk Go.Proofs.Tryd.prog s34 := ⟨Go.Proofs.Tryd.func34, by kernel_rfl, by kernel_rfl, by kernel_rfl⟩
theorem fn37 : FnOk Go.Proofs.Tryd.prog s37 := ⟨Go.Proofs.Tryd.func37, by kernel_rfl, by kernel_rfl, by kernel_rfl⟩
theorem fn35 : FnOk Go.Proofs.Tryd.prog s35 := ⟨Go.Proofs.Tryd.func35, by kernel_rfl, by kernel_rfl, by kernel_rfl⟩
theorem fn36 : FnOk Go.Proofs.Tryd.prog s36 := ⟨Go.Proofs.Tryd.func36, by kernel_rfl, by kernel_rfl, by kernel_rfl⟩
theorem fn68 : FnOk Go.Proofs.Tryd.prog s68 := ⟨Go.Proofs.Tryd.func68, by kernel_rfl, by kernel_rfl, by kernel_rfl⟩
theorem fn53 : FnOk Go.Proofs.Tryd.prog s53 := ⟨Go.Proofs.Tryd.func53, by kernel_rfl, by kernel_rfl, by kernel_rfl⟩
theorem fn38 : FnOk Go.Proofs.Tryd.prog s38 := ⟨Go.Proofs.Tryd.func38, by kernel_rfl, by kernel_rfl, by kernel_rfl⟩
theorem fn10 : FnOk Go.Proofs.Tryd.prog s10 := ⟨Go.Proofs.Tryd.func10, by kernel_rfl, by kernel_rfl, by kernel_rfl⟩
theorem fn32 : FnOk Go.Proofs.Tryd.prog s32 := ⟨Go.Proofs.Tryd.func32, by kernel_rfl, by kernel_rfl, by kernel_rfl⟩
theorem fn31 : FnOk Go.Proofs.Tryd.prog s31 := ⟨Go.Proofs.Tryd.func31, by kernel_rfl, by kernel_rfl, by kernel_rfl⟩
theorem fn21 : FnOk Go.Proofs.Tryd.prog s21 := ⟨Go.Proofs.Tryd.func21, by kernel_rfl, by kernel_rfl, by kernel_rfl⟩
theorem fn33 : FnOk Go.Proofs.Tryd.prog s33 := ⟨Go.Proofs.Tryd.func33, by kernel_rfl, by kernel_rfl, by kernel_rfl⟩
theorem fn54 : FnOk Go.Proofs.Tryd.prog s54 := ⟨Go.Proofs.Tryd.func54, by kernel_rfl, by kernel_rfl, by kernel_rfl⟩
theorem fn69 : FnOk Go.Proofs.Tryd.prog s69 := ⟨Go.Proofs.Tryd.func69, by kernel_rfl, by kernel_rfl, by kernel_rfl⟩
theorem fn55 : FnOk Go.Proofs.Tryd.prog s55 := ⟨Go.Proofs.Tryd.func55, by kernel_rfl, by kernel_rfl, by kernel_rfl⟩
theorem fn43 : FnOk Go.Proofs.Tryd.prog s43 := ⟨Go.Proofs.Tryd.func43, by kernel_rfl, by kernel_rfl, by kernel_rfl⟩
theorem fn42 : FnOk Go.Proofs.Tryd.prog s42 := ⟨Go.Proofs.Tryd.func42, by kernel_rfl, by kernel_rfl, by kernel_rfl⟩
theorem fn16 : FnOk Go.Proofs.Tryd.prog s16 := ⟨Go.Proofs.Tryd.func16, by kernel_rfl, by kernel_rfl, by kernel_rfl⟩
theorem fn9 : FnOk Go.Proofs.Tryd.prog s9 := ⟨Go.Proofs.Tryd.func9, by kernel_rfl, by kernel_rfl, by kernel_rfl⟩
theorem fn1002 : FnOk Go.Proofs.Tryd.prog s1002 := ⟨Go.Proofs.Tryd.func35, by kernel_rfl, by kernel_rfl, by kernel_rfl⟩
theorem fn15 : FnOk Go.Proofs.Tryd.prog s15 := ⟨Go.Proofs.Tryd.func15, by kernel_rfl, by kernel_rfl, by kernel_rfl⟩
theorem fn11 : FnOk Go.Proofs.Tryd.prog s11 := ⟨Go.Proofs.Tryd.func11, by kernel_rfl, by kernel_rfl, by kernel_rfl⟩
theorem fn39 : FnOk Go.Proofs.Tryd.prog s39 := ⟨Go.Proofs.Tryd.func39, by kernel_rfl, by kernel_rfl, by kernel_rfl⟩
theorem fn12 : FnOk Go.Proofs.Tryd.prog s12 := ⟨Go.Proofs.Tryd.func12, by kernel_rfl, by kernel_rfl, by kernel_rfl⟩
theorem fn13 : FnOk Go.Proofs.Tryd.prog s13 := ⟨Go.Proofs.Tryd.func13, by kernel_rfl, by kernel_rfl, by kernel_rfl⟩
theorem fn46 : FnOk Go.Proofs.Tryd.prog s46 := ⟨Go.Proofs.Tryd.func46, by kernel_rfl, by kernel_rfl, by kernel_rfl⟩
theorem fn18 : FnOk Go.Proofs.Tryd.prog s18 := ⟨Go.Proofs.Tryd.func18, by kernel_rfl, by kernel_rfl, by kernel_rfl⟩
theorem fn85 : FnOk Go.Proofs.Tryd.prog s85 := ⟨Go.Proofs.Tryd.func85, by kernel_rfl, by kernel_rfl, by kernel_rfl⟩
theorem fn72 : FnOk Go.Proofs.Tryd.prog s72 := ⟨Go.Proofs.Tryd.func72, by kernel_rfl, by kernel_rfl, by kernel_rfl⟩
theorem fn106 : FnOk Go.Proofs.Tryd.prog s106 := ⟨Go.Proofs.Tryd.func106, by kernel_rfl, by kernel_rfl, by kernel_rfl⟩
theorem fn105 : FnOk Go.Proofs.Tryd.prog s105 := ⟨Go.Proofs.Tryd.func105, by kernel_rfl, by kernel_rfl, by kernel_rfl⟩
theorem fn84 : FnOk Go.Proofs.Tryd.prog s84 := ⟨Go.Proofs.Tryd.func84, by kernel_rfl, by kernel_rfl, by kernel_rfl⟩
theorem fn71 : FnOk Go.Proofs.Tryd.prog s71 := ⟨Go.Proofs.Tryd.func71, by kernel_rfl, by kernel_rfl, by kernel_rfl⟩
theorem fn57 : FnOk Go.Proofs.Tryd.prog s57 := ⟨Go.Proofs.Tryd.func57, by kernel_rfl, by kernel_rfl, by kernel_rfl⟩
theorem fn70 : FnOk Go.Proofs.Tryd.prog s70 := ⟨Go.Proofs.Tryd.func70, by kernel_rfl, by kernel_rfl, by kernel_rfl⟩
theorem fn56 : FnOk Go.Proofs.Tryd.prog s56 := ⟨Go.Proofs.Tryd.func56, by kernel_rfl, by kernel_rfl, by kernel_rfl⟩
theorem fn49 : FnOk Go.Proofs.Tryd.prog s49 := ⟨Go.Proofs.Tryd.func49, by kernel_rfl, by kernel_rfl, by kernel_rfl⟩
theorem fn23 : FnOk Go.Proofs.Tryd.prog s23 := ⟨Go.Proofs.Tryd.func23, by kernel_rfl, by kernel_rfl, by kernel_rfl⟩
theorem fn58 : FnOk Go.Proofs.Tryd.prog s58 := ⟨Go.Proofs.Tryd.func58, by kernel_rfl, by kernel_rfl, by kernel_rfl⟩
theorem fn44 : FnOk Go.Proofs.Tryd.prog s44 := ⟨Go.Proofs.Tryd.func44, by kernel_rfl, by kernel_rfl, by kernel_rfl⟩
theorem fn87 : FnOk Go.Proofs.Tryd.prog s87 := ⟨Go.Proofs.Tryd.func87, by kernel_rfl, by kernel_rfl, by kernel_rfl⟩
theorem fn88 : FnOk Go.Proofs.Tryd.prog s88 := ⟨Go.Proofs.Tryd.func88, by kernel_rfl, by kernel_rfl, by kernel_rfl⟩
theorem fn89 : FnOk Go.Proofs.Tryd.prog s89 := ⟨Go.Proofs.Tryd.func89, by kernel_rfl, by kernel_rfl, by kernel_rfl⟩
theorem fn86 : FnOk Go.Proofs.Tryd.prog s86 := ⟨Go.Proofs.Tryd.func86, by kernel_rfl, by kernel_rfl, by kernel_rfl⟩
theorem fn73 : FnOk Go.Proofs.Tryd.prog s73 := ⟨Go.Proofs.Tryd.func73, by kernel_rfl, by kernel_rfl, by kernel_rfl⟩
theorem fn74 : FnOk Go.Proofs.Tryd.prog s74 := ⟨Go.Proofs.Tryd.func74, by kernel_rfl, by kernel_rfl, by kernel_rfl⟩
theorem fn75 : FnOk Go.Proofs.Tryd.prog s75 := ⟨Go.Proofs.Tryd.func75, by kernel_rfl, by kernel_rfl, by kernel_rfl⟩
theorem fn107 : FnOk Go.Proofs.Tryd.prog s107 := ⟨Go.Proofs.Tryd.func107, by kernel_rfl, by kernel_rfl, by kernel_rfl⟩
theorem fn90 : FnOk Go.Proofs.Tryd.prog s90 := ⟨Go.Proofs.Tryd.func90, by kernel_rfl, by kernel_rfl, by kernel_rfl⟩
theorem fn93 : FnOk Go.Proofs.Tryd.prog s93 := ⟨Go.Proofs.Tryd.func93, by kernel_rfl, by kernel_rfl, by kernel_rfl⟩
theorem fn91 : FnOk Go.Proofs.Tryd.prog s91 := ⟨Go.Proofs.Tryd.func91, by kernel_rfl, by kernel_rfl, by kernel_rfl⟩
theorem fn92 : FnOk Go.Proofs.Tryd.prog s92 := ⟨Go.Proofs.Tryd.func92, by kernel_rfl, by kernel_rfl, by kernel_rfl⟩
theorem fn76 : FnOk Go.Proofs.Tryd.prog s76 := ⟨Go.Proofs.Tryd.func76, by kernel_rfl, by kernel_rfl, by kernel_rfl⟩
theorem fn77 : FnOk Go.Proofs.Tryd.prog s77 := ⟨Go.Proofs.Tryd.func77, by kernel_rfl, by kernel_rfl, by kernel_rfl⟩
theorem fn59 : FnOk Go.Proofs.Tryd.prog s59 := ⟨Go.Proofs.Tryd.func59, by kernel_rfl, by kernel_rfl, by kernel_rfl⟩
theorem fn60 : FnOk Go.Proofs.Tryd.prog s60 := ⟨Go.Proofs.Tryd.func60, by kernel_rfl, by kernel_rfl, by kernel_rfl⟩
theorem fn45 : FnOk Go.Proofs.Tryd.prog s45 := ⟨Go.Proofs.Tryd.func45, by kernel_rfl, by kernel_rfl, by kernel_rfl⟩
theorem fn17 : FnOk Go.Proofs.Tryd.prog s17 := ⟨Go.Proofs.Tryd.func17, by kernel_rfl, by kernel_rfl, by kernel_rfl⟩
theorem fn4 : FnOk Go.Proofs.Tryd.prog s4 := ⟨Go.Proofs.Tryd.func4, by kernel_rfl, by kernel_rfl, by kernel_rfl⟩
theorem fn48 : FnOk Go.Proofs.Tryd.prog s48 := ⟨Go.Proofs.Tryd.func48, by kernel_rfl, by kernel_rfl, by kernel_rfl⟩
theorem fn20 : FnOk Go.Proofs.Tryd.prog s20 := ⟨Go.Proofs.Tryd.func20, by kernel_rfl, by kernel_rfl, by kernel_rfl⟩
theorem fn22 : FnOk Go.Proofs.Tryd.prog s22 := ⟨Go.Proofs.Tryd.func22, by kernel_rfl, by kernel_rfl, by kernel_rfl⟩
theorem fn24 : FnOk Go.Proofs.Tryd.prog s24 := ⟨Go.Proofs.Tryd.func24, by kernel_rfl, by kernel_rfl, by kernel_rfl⟩
theorem fn25 : FnOk Go.Proofs.Tryd.prog s25 := ⟨Go.Proofs.Tryd.func25, by kernel_rfl, by kernel_rfl, by kernel_rfl⟩
theorem fn6 : FnOk Go.Proofs.Tryd.prog s6 := ⟨Go.Proofs.Tryd.func6, by kernel_rfl, by kernel_rfl, by kernel_rfl⟩
theorem fnAll : ∀ i, FnOk Go.Proofs.Tryd.prog (prg.spec i) := orAt_all fn28 specTab (by
  intro x hx
  simp only [specTab, List.mem_cons, List.not_mem_nil, or_false] at hx
  rcases hx with rfl | rfl | rfl | rfl | rfl | rfl | rfl | rfl | rfl | rfl | rfl | rfl | rfl | rfl | rfl | rfl | rfl | rfl | rfl | rfl | rfl | rfl | rfl | rfl | rfl | rfl | rfl | rfl | rfl | rfl | rfl | rfl | rfl | rfl | rfl | rfl | rfl | rfl | rfl | rfl | rfl | rfl | rfl | rfl | rfl | rfl | rfl | rfl | rfl | rfl | rfl | rfl | rfl | rfl | rfl | rfl | rfl | rfl | rfl | rfl | rfl | rfl | rfl | rfl | rfl | rfl | rfl | rfl | rfl | rfl | rfl | rfl | rfl | rfl | rfl
  · exact fn28
  · exact fn51
  · exact fn29
  · exact fn8
  · exact fn30
  · exact fn62
  · exact fn1001
  · exact fn1000
  · exact fn47
  · exact fn52
  · exact fn34
  · exact fn37
  · exact fn35
  · exact fn36
  · exact fn68
  · exact fn53
  · exact fn38
  · exact fn10
  · exact fn32
  · exact fn31
  · exact fn21
  · exact fn33
  · exact fn54
  · exact fn69
  · exact fn55
  · exact fn43
  · exact fn42
  · exact fn16
  · exact fn9
  · exact fn1002
  · exact fn15
  · exact fn11
  · exact fn39
  · exact fn12
  · exact fn13
  · exact fn46
  · exact fn18
  · exact fn85
  · exact fn72
  · exact fn106
  · exact fn105
  · exact fn84
  · exact fn71
  · exact fn57
  · exact fn70
  · exact fn56
  · exact fn49
  · exact fn23
  · exact fn58
  · exact fn44
  · exact fn87
  · exact fn88
  · exact fn89
  · exact fn86
  · exact fn73
  · exact fn74
  · exact fn75
  · exact fn107
  · exact fn90
  · exact fn93
  · exact fn91
  · exact fn92
  · exact fn76
  · exact fn77
  · exact fn59
  · exact fn60
  · exact fn45
  · exact fn17
  · exact fn4
  · exact fn48
  · exact fn20
  · exact fn22
  · exact fn24
  · exact fn25
  · exact fn6)
theorem tyOk : TyOk Go.Proofs.Tryd.prog prg.ty := tyOk_of (by kernel_rfl)
theorem rdOk : RdOk Go.Proofs.Tryd.prog prg.ty := rdOk_of (by kernel_rfl)
theorem mixed : Go.Proofs.Tryd.prog.follows .mixedOrders = true := by kernel_rfl
theorem envX_ok (i : Nat) : EnvOk Go.Proofs.Tryd.prog (envX i) := ⟨tyOk, fun _ x r h => by cases h⟩
end Go.Proofs.YtgkobbodicfofaaDoor.Am
end
