import Derived.Test.YtgkobbodicfofaaDoorMd
import Derived.Test.YtgkobbodicfofaaDoorProg
import Derived.KernelRfl
noncomputable section
namespace Go.Proofs.YtgkobbodicfofaaDoor.Am
open Go Go.AM
noncomputable def cloneX (x : List Int) : Option (List Int) := bif decide (List.length x ≤ maxRows) then some x else none
end Go.Proofs.YtgkobbodicfofaaDoor.Am
end
noncomputable section
namespace Go.Proofs.YtgkobbodicfofaaDoor.Am
open Go Go.AM
set_option maxRecDepth 100000
set_option linter.unusedVariables false
abbrev vi : Sh × Tg := (.int .i64, .pure)
abbrev vl : Sh × Tg := (.sl [.int .i64], .pure)
abbrev vr : Sh × Tg := (.sl [.int .i64, .sl [.int .i64], .int .i64], .pure)
abbrev vb : Sh × Tg := (.bool, .pure)
abbrev wl : Sh × Tg := (.sl [.int .i64], .own)
abbrev wr : Sh × Tg := (.sl [.int .i64, .sl [.int .i64], .int .i64], .own)
abbrev vk : Sh × Tg := (.rsl [.int .i64], .pure)
abbrev xb : Sh × Tg := (.sl [.bool], .own)
abbrev xl : Sh × Tg := (.sl [.sl [.int .i64]], .own)
abbrev vu : Sh × Tg := (.int .u64, .pure)
abbrev w (n : Nat) (v : Sh × Tg) : JE := .tm n false [v]
abbrev b (n : Nat) (v : Sh × Tg) : JE := .bx n [v]
abbrev c (n : Nat) : JE := .bx n [vi, vl, vr]
abbrev a (n : Nat) : JE := .adr n (.box n) 0
abbrev oo : H := .s .o .o
noncomputable def tyTab : List (Nat × TyI) := [(2, ⟨false, [.int .i64], [], [], none⟩),
 (3, ⟨false, [.int .i64], [], [], none⟩),
 (4, ⟨false, [.bool], [], [], none⟩),
 (5, ⟨false, [.int .u8], [], [], none⟩),
 (6, ⟨false, [.int .u8], [], [], none⟩),
 (7, ⟨true, [.int .i64, .int .i64, .bool, .int .u8], [(0, 1), (1, 1), (2, 1), (3, 1)], [2, 3, 4, 6], none⟩),
 (8, ⟨true, [.int .i64, .int .i64, .bool, .int .u8], [(0, 1), (1, 1), (2, 1), (3, 1)], [2, 3, 4, 6], none⟩),
 (9, ⟨false, [.str], [], [], none⟩),
 (10, ⟨false, [.str], [], [], none⟩),
 (11, ⟨false, [.str], [], [], none⟩),
 (12, ⟨false, [.int .u64], [], [], none⟩),
 (13, ⟨true, [.str, .int .u64], [(0, 1), (1, 1)], [9, 12], none⟩),
 (14, ⟨true, [.str, .int .u64], [(0, 1), (1, 1)], [9, 12], none⟩),
 (21, ⟨false, [.int .i32], [], [], none⟩),
 (22, ⟨false, [.sl [.int .i64]], [], [], (some 3)⟩),
 (23, ⟨true, [.sl [.int .i64]], [(0, 1)], [22], none⟩),
 (24, ⟨true, [.sl [.int .i64]], [(0, 1)], [22], none⟩),
 (25, ⟨false, [.sl [.int .i64, .sl [.int .i64], .int .i64]], [], [], (some 66)⟩),
 (26, ⟨true, [.int .i64, .sl [.int .i64], .sl [.int .i64, .sl [.int .i64], .int .i64]], [(0, 1), (1, 1), (2, 1)], [3, 22, 25], none⟩),
 (27, ⟨true, [.int .i64, .sl [.int .i64], .sl [.int .i64, .sl [.int .i64], .int .i64]], [(0, 1), (1, 1), (2, 1)], [3, 22, 25], none⟩),
 (28, ⟨false, [.rsl [.int .i64]], [], [], (some 30)⟩),
 (29, ⟨true, [.int .i64, .rsl [.int .i64]], [(0, 1), (1, 1)], [3, 28], none⟩),
 (30, ⟨true, [.int .i64, .rsl [.int .i64]], [(0, 1), (1, 1)], [3, 28], none⟩),
 (33, ⟨false, [.int .i64], [], [], none⟩),
 (55, ⟨false, [.sl [.int .i64, .sl [.int .i64], .sl [.int .i64, .sl [.int .i64], .int .i64]]], [], [], (some 27)⟩),
 (63, ⟨false, [.sl [.bool]], [], [], (some 4)⟩),
 (65, ⟨true, [.int .i64, .sl [.int .i64], .int .i64], [(0, 1), (1, 1), (2, 1)], [3, 22, 3], none⟩),
 (66, ⟨true, [.int .i64, .sl [.int .i64], .int .i64], [(0, 1), (1, 1), (2, 1)], [3, 22, 3], none⟩),
 (69, ⟨false, [.sl [.sl [.int .i64]]], [], [], (some 22)⟩),
 (81, ⟨false, [.int .u64], [], [], none⟩),
 (96, ⟨false, [.int .u32], [], [], none⟩),
 (99, ⟨false, [.int .u64], [], [], none⟩),
 (119, ⟨true, [.int .i64, .sl [.sl [.int .i64]]], [(0, 1), (1, 1)], [3, 69], none⟩),
 (120, ⟨true, [.int .i64, .sl [.sl [.int .i64]]], [(0, 1), (1, 1)], [3, 69], none⟩),
 (126, ⟨false, [.int .i64], [], [], none⟩),
 (136, ⟨false, [.int .u64], [], [], none⟩),
 (152, ⟨false, [.int .u8], [], [], none⟩),
 (153, ⟨false, [.int .u8], [], [], none⟩),
 (156, ⟨false, [.int .i32], [], [], none⟩),
 (157, ⟨false, [.int .i32], [], [], none⟩)]
noncomputable def g28 : AM.Sig := ⟨28, [.val true [vl], .val false [vi], .val false [vi], .val false [(.sl [.int .i64, .sl [.int .i64], .sl [.int .i64, .sl [.int .i64], .int .i64]], .pure)]], [(false, [vb])]⟩
noncomputable def s28 : AM.Spec := ⟨g28, Go.Proofs.Tryd.f28, .s .o (.s (.s .o (.jr [b 4 vl, a 4] (.j [w 1 vi, w 2 vi, b 4 vl, a 4, .tm 13 false [(.sl [.int .i64, .sl [.int .i64], .sl [.int .i64, .sl [.int .i64], .int .i64]], .pure)], w 14 vi, w 15 vi] (.s .o (.s oo (.s (.s (.s .o (.s (.s (.j [w 1 vi, w 2 vi, b 4 vl, a 4, c 10, a 10, .tm 13 false [(.sl [.int .i64, .sl [.int .i64], .sl [.int .i64, .sl [.int .i64], .int .i64]], .pure)], w 14 vi, w 15 vi, w 41 vb] .o) (.s oo .o)) (.s .o (.jr [w 1 vi, w 2 vi, b 4 vl, a 4, .tm 13 false [(.sl [.int .i64, .sl [.int .i64], .sl [.int .i64, .sl [.int .i64], .int .i64]], .pure)], w 14 vi, w 15 vi] (.j [w 1 vi, w 2 vi, b 4 vl, a 4, .tm 13 false [(.sl [.int .i64, .sl [.int .i64], .sl [.int .i64, .sl [.int .i64], .int .i64]], .pure)], w 14 vi, w 15 vi, w 43 vr, w 44 vi, w 45 vi] (.s .o (.s oo (.s (.s (.s .o (.s .o (.s oo .o))) .o) .o)))))))) .o) .o)))))) oo), [], none⟩
noncomputable def g51 : AM.Sig := ⟨51, [.val true [vi, vk], .val false [vi]], [(false, [vi])]⟩
noncomputable def s51 : AM.Spec := ⟨g51, Go.Proofs.Tryd.f51, .s .o (.s .o (.s (.s .o (.j [w 5 vi] (.j [w 1 vi, w 5 vi, w 9 vk, w 10 vi, w 11 vi] (.s .o (.s oo (.s (.s (.s .o (.s .o (.j [w 1 vi, w 5 vi, w 9 vk, w 10 vi, w 11 vi] oo))) .o) .o)))))) oo)), [(23, 51)], none⟩
noncomputable def g29 : AM.Sig := ⟨29, [.val true [vi, vk], .val false [vi]], [(false, [vb])]⟩
noncomputable def s29 : AM.Spec := ⟨g29, Go.Proofs.Tryd.f29, .s .o oo, [(7, 51)], none⟩
noncomputable def g8 : AM.Sig := ⟨8, [.val true [vl], .val true [vi, vk], .val false [(.sl [.int .i64, .sl [.int .i64], .sl [.int .i64, .sl [.int .i64], .int .i64]], .pure)]], [(false, [vb])]⟩
noncomputable def s8 : AM.Spec := ⟨g8, Go.Proofs.Tryd.f8, .s .o (.s (.j [w 6 vb] .o) .o), [(9, 28), (12, 29)], none⟩
noncomputable def g30 : AM.Sig := ⟨30, [], [(true, [vi, wl, wr])]⟩
noncomputable def s30 : AM.Spec := ⟨g30, Go.Proofs.Tryd.f30, .s .o oo, [], none⟩
noncomputable def g62 : AM.Sig := ⟨62, [.val false [vi]], [(false, [vb])]⟩
noncomputable def s62 : AM.Spec := ⟨g62, Go.Proofs.Tryd.f62, .s .o (.s (.j [w 2 vb] .o) .o), [], none⟩
noncomputable def g1001 : AM.Sig := ⟨78, [.val false [vl], .fn 62], [(false, [vi])]⟩
noncomputable def s1001 : AM.Spec := ⟨g1001, Go.Proofs.Tryd.f78, .s .o (.s (.s .o (.jr [] (.j [w 0 vl, .fn 1 62, w 7 vi, w 8 vi] (.s .o (.s oo (.s (.s (.s .o (.s .o (.s oo .o))) .o) .o)))))) oo), [(16, 62)], none⟩
noncomputable def g1000 : AM.Sig := ⟨61, [.val false [vl], .fn 62], [(false, [vb])]⟩
noncomputable def s1000 : AM.Spec := ⟨g1000, Go.Proofs.Tryd.f61, .s .o oo, [(7, 1001)], none⟩
noncomputable def g47 : AM.Sig := ⟨47, [.val true [vl]], [(false, [vb])]⟩
noncomputable def s47 : AM.Spec := ⟨g47, Go.Proofs.Tryd.f47, .s .o (.s (.j [w 2 vb] .o) .o), [(10, 1000)], none⟩
noncomputable def g52 : AM.Sig := ⟨52, [.val false [vi], .rptr [vi, vl, vr]], [(false, [vb])]⟩
noncomputable def s52 : AM.Spec := ⟨g52, Go.Proofs.Tryd.f52, .s .o (.s (.j [w 3 vb] .o) .o), [], none⟩
noncomputable def g34 : AM.Sig := ⟨34, [.val true [vl], .val true [vi, vl, vr]], [(false, [vb])]⟩
noncomputable def s34 : AM.Spec := ⟨g34, Go.Proofs.Tryd.f34, .s .o (.s (.s (.j [b 2 vl, a 2, c 3, a 3, w 30 vb] .o) (.s oo .o)) (.s .o (.s (.s .o (.jr [b 2 vl, a 2, c 3, a 3, .clo 5 52 [(.box 3, 0)]] (.j [b 2 vl, a 2, c 3, a 3, .clo 5 52 [(.box 3, 0)], w 33 vl, w 34 vi, w 35 vi] (.s .o (.s oo (.s (.s (.s .o (.s (.j [b 2 vl, a 2, c 3, a 3, .clo 5 52 [(.box 3, 0)], w 33 vl, w 34 vi, w 35 vi, w 57 vb] .o) (.s oo .o))) .o) .o)))))) (.s (.s .o (.jr [] (.j [b 2 vl, a 2, c 3, .clo 5 52 [(.box 3, 0)], w 60 vr, w 61 vi, w 62 vi] (.s .o (.s oo (.s (.s (.s .o (.s (.s (.j [b 2 vl, a 2, c 3, .clo 5 52 [(.box 3, 0)], .bx 9 [vi, vl, vi], a 9, w 60 vr, w 61 vi, w 62 vi, w 95 vb] .o) (.s oo .o)) (.s .o (.jr [b 2 vl, a 2, c 3, .clo 5 52 [(.box 3, 0)], w 60 vr, w 61 vi, w 62 vi] (.j [b 2 vl, a 2, c 3, .clo 5 52 [(.box 3, 0)], w 60 vr, w 61 vi, w 62 vi, w 97 vl, w 98 vi, w 99 vi] (.s .o (.s oo (.s (.s (.s .o (.s .o (.s oo .o))) .o) .o)))))))) .o) .o)))))) oo)))), [(13, 47), (42, 52), (93, 52), (105, 52)], none⟩
noncomputable def g37 : AM.Sig := ⟨37, [.val false [vl]], [(false, [wl])]⟩
noncomputable def s37 : AM.Spec := ⟨g37, Go.Proofs.Tryd.f37, .o, [], (some cloneX)⟩
noncomputable def g35 : AM.Sig := ⟨35, [.val true [vi, vl, vr]], [(true, [vi, wl, wr])]⟩
noncomputable def s35 : AM.Spec := ⟨g35, Go.Proofs.Tryd.f35, .s .o (.s .o (.s (.s .o (.j [.bx 2 [vi, wl, wr], a 2, .bx 3 [vi, wl, wr], a 3] (.j [.bx 2 [vi, wl, wr], a 2, .bx 3 [vi, wl, wr], a 3, w 13 vr, w 14 vi, w 15 vi] (.s .o (.s oo (.s (.s oo .o) .o)))))) oo)), [(10, 37), (25, 37)], none⟩
noncomputable def g36 : AM.Sig := ⟨36, [.val true [vi, vl, vr]], [(false, [xb])]⟩
noncomputable def s36 : AM.Spec := ⟨g36, Go.Proofs.Tryd.f36, .s .o (.s .o (.s (.s .o (.j [w 3 xb] (.j [w 3 xb, w 10 vl, w 11 vi, w 12 vi] (.s .o (.s oo (.s (.s oo .o) .o)))))) oo)), [], none⟩
noncomputable def g68 : AM.Sig := ⟨68, [.val false [vu], .val false [vu]], [(false, [vu]), (false, [vu])]⟩
noncomputable def s68 : AM.Spec := ⟨g68, Go.Proofs.Tryd.f68, .s .o (.s .o (.s .o (.s .o (.s .o (.s .o (.s .o (.s .o (.s .o (.s .o (.s .o oo)))))))))), [], none⟩
noncomputable def g53 : AM.Sig := ⟨53, [.val false [vu], .val false [vu]], [(false, [vu]), (false, [vu])]⟩
noncomputable def s53 : AM.Spec := ⟨g53, Go.Proofs.Tryd.f53, .s .o (.s (.s (.s .o oo) .o) (.s .o oo)), [(25, 68)], none⟩
noncomputable def g38 : AM.Sig := ⟨38, [.val false [vl], .val false [vi]], [(false, [wl])]⟩
noncomputable def s38 : AM.Spec := ⟨g38, Go.Proofs.Tryd.f38, .s .o (.s (.s .o (.j [w 0 vl, w 1 vi] oo)) (.s .o (.s (.s (.j [w 0 vl, w 6 vu, w 26 vb] .o) (.j [w 0 vl, w 6 vu] oo)) (.s .o (.s .o (.s (.j [w 7 wl] (.j [w 7 wl, w 8 vi] (.s (.s .o oo) oo))) oo)))))), [(18, 53)], none⟩
noncomputable def g10 : AM.Sig := ⟨10, [.val true [vl], .val true [vi, vl, vr], .val false [vi]], [(true, [vi, vl, vr]), (false, [vi])]⟩
noncomputable def s10 : AM.Spec := ⟨g10, Go.Proofs.Tryd.f10, .s .o (.s (.s .o (.s oo .o)) (.s (.s (.j [w 2 vi, b 3 vl, a 3, c 4, a 4, .bx 6 [vi, wl, wr], a 6, w 31 vb] .o) (.s oo .o)) (.s .o (.s .o (.s .o (.s .o (.s (.s .o (.j [b 3 vl, a 3, .bx 6 [vi, wl, wr], a 6, .bx 8 [vi, wl, wr], a 8, w 9 vi, w 10 vi] (.j [w 2 vi, b 3 vl, a 3, .bx 6 [vi, wl, wr], a 6, .bx 8 [vi, wl, wr], a 8, w 9 vi, w 10 vi, w 11 xb, w 47 vr, w 48 vi, w 49 vi] (.s .o (.s oo (.s (.s (.s .o (.s (.j [w 2 vi, b 3 vl, a 3, .bx 6 [vi, wl, wr], a 6, .bx 8 [vi, wl, wr], a 8, w 9 vi, w 10 vi, w 11 xb, .bx 13 [vi, vl, vi], a 13, w 47 vr, w 48 vi, w 49 vi, w 63 vb] .o) (.j [w 2 vi, b 3 vl, a 3, .bx 6 [vi, wl, wr], a 6, .bx 8 [vi, wl, wr], a 8, w 9 vi, w 10 vi, w 11 xb, w 47 vr, w 48 vi, w 49 vi] oo))) .o) .o)))))) (.s (.s .o (.j [.bx 6 [vi, wl, wr], a 6, .bx 8 [vi, wl, wr], a 8, w 10 vi] (.j [.bx 6 [vi, wl, wr], a 6, .bx 8 [vi, wl, wr], a 8, w 9 vi, w 10 vi, w 77 vl, w 78 vi, w 79 vi] (.s .o (.s oo (.s (.s (.s .o (.s .o (.s .o (.j [.bx 6 [vi, wl, wr], a 6, .bx 8 [vi, wl, wr], a 8, w 9 vi, w 10 vi, w 77 vl, w 78 vi, w 79 vi] (.j [.bx 6 [vi, wl, wr], a 6, .bx 8 [vi, wl, wr], a 8, w 9 vi, w 10 vi, w 14 vi, w 15 vi, w 77 vl, w 78 vi, w 79 vi, w 96 vi, w 97 vi] (.s .o (.s oo (.s (.s (.s .o (.s .o oo)) .o) .o)))))))) .o) .o)))))) (.s .o (.s (.s (.j [.bx 6 [vi, wl, wr], a 6, .bx 8 [vi, wl, wr], a 8, w 130 vb] .o) (.s oo .o)) oo)))))))))), [(20, 34), (34, 35), (45, 36), (69, 37), (90, 38), (103, 38)], none⟩
noncomputable def g32 : AM.Sig := ⟨32, [], [(true, [vi, (.rsl [.int .i64], .own)])]⟩
noncomputable def s32 : AM.Spec := ⟨g32, Go.Proofs.Tryd.f32, .s .o oo, [], none⟩
noncomputable def g31 : AM.Sig := ⟨31, [.val true [vi, vk], .val true [vi, vk]], [(true, [vi, (.rsl [.int .i64], .own)])]⟩
noncomputable def s31 : AM.Spec := ⟨g31, Go.Proofs.Tryd.f31, .s .o oo, [], none⟩
noncomputable def g21 : AM.Sig := ⟨21, [.val true [vl]], [(false, [vb])]⟩
noncomputable def s21 : AM.Spec := ⟨g21, Go.Proofs.Tryd.f21, .s .o (.s (.s .o (.s oo .o)) (.s (.s .o (.jr [] (.j [w 10 vl, w 11 vi, w 12 vi] (.s .o (.s oo (.s (.s (.s .o (.s (.j [w 10 vl, w 11 vi, w 12 vi, w 21 vb] .o) (.s oo .o))) .o) .o)))))) oo)), [], none⟩
noncomputable def g33 : AM.Sig := ⟨33, [.val true [vl], .val true [vi, vl, vr]], [(false, [vb])]⟩
noncomputable def s33 : AM.Spec := ⟨g33, Go.Proofs.Tryd.f33, .s .o (.s (.s (.j [b 2 vl, a 2, c 3, a 3, w 29 vb] .o) (.s oo .o)) (.s (.s .o (.jr [b 2 vl, a 2, c 3, a 3] (.j [b 2 vl, a 2, c 3, a 3, w 31 vl, w 32 vi, w 33 vi] (.s .o (.s oo (.s (.s (.s .o (.s (.j [b 2 vl, a 2, c 3, a 3, w 31 vl, w 32 vi, w 33 vi, w 59 vb] .o) (.s oo .o))) .o) .o)))))) (.s (.s .o (.jr [] (.j [b 2 vl, a 2, c 3, a 3, w 62 vr, w 63 vi, w 64 vi] (.s .o (.s oo (.s (.s (.s .o (.s (.s (.j [b 2 vl, a 2, c 3, a 3, .bx 8 [vi, vl, vi], a 8, w 62 vr, w 63 vi, w 64 vi, w 102 vb] .o) (.s oo .o)) (.s .o (.jr [b 2 vl, a 2, c 3, a 3, w 62 vr, w 63 vi, w 64 vi] (.j [b 2 vl, a 2, c 3, a 3, w 62 vr, w 63 vi, w 64 vi, w 104 vl, w 105 vi, w 106 vi] (.s .o (.s oo (.s (.s (.s .o (.s (.j [b 2 vl, a 2, c 3, a 3, w 62 vr, w 63 vi, w 64 vi, w 104 vl, w 105 vi, w 106 vi, w 117 vb] .o) (.s oo .o))) .o) .o)))))))) .o) .o)))))) oo))), [(12, 21)], none⟩
noncomputable def g54 : AM.Sig := ⟨54, [.val false [vl], .val false [vi]], [(false, [vb])]⟩
noncomputable def s54 : AM.Spec := ⟨g54, Go.Proofs.Tryd.f54, .s .o (.s (.s .o (.jr [] (.j [w 1 vi, w 7 vl, w 8 vi, w 9 vi] (.s .o (.s oo (.s (.s (.s .o (.s .o (.s oo .o))) .o) .o)))))) oo), [], none⟩
noncomputable def g69 : AM.Sig := ⟨69, [.val false [vl], .val false [vi]], [(false, [vl])]⟩
noncomputable def s69 : AM.Spec := ⟨g69, Go.Proofs.Tryd.f69, .s .o (.s .o (.s (.j [w 0 vl, w 1 vi, w 5 vi] (.j [w 0 vl, w 1 vi, w 5 vi] (.s (.s (.j [w 0 vl, w 1 vi, w 5 vi, w 17 vb] .o) oo) oo))) (.s (.s (.j [w 0 vl, w 1 vi, w 5 vi, w 31 vb] .o) (.s oo .o)) oo))), [], none⟩
noncomputable def g55 : AM.Sig := ⟨55, [.val true [vi, vl, vr], .val false [vi], .val false [(.sl [.sl [.int .i64]], .pure)]], [(false, [vl])]⟩
noncomputable def s55 : AM.Spec := ⟨g55, Go.Proofs.Tryd.f55, .s .o (.s .o (.s (.s .o (.j [w 7 vl] (.j [w 1 vi, .tm 2 false [(.sl [.sl [.int .i64]], .pure)], w 7 vl, w 13 vr, w 14 vi, w 15 vi] (.s .o (.s oo (.s (.s (.s .o (.s .o (.s (.s .o (.j [w 1 vi, .tm 2 false [(.sl [.sl [.int .i64]], .pure)], w 7 vl, .bx 9 [vi, vl, vi], a 9, w 10 vb, w 13 vr, w 14 vi, w 15 vi] (.j [w 1 vi, .tm 2 false [(.sl [.sl [.int .i64]], .pure)], w 7 vl, .bx 9 [vi, vl, vi], a 9, w 10 vb, w 11 vi, w 13 vr, w 14 vi, w 15 vi] (.s (.s (.j [w 1 vi, .tm 2 false [(.sl [.sl [.int .i64]], .pure)], w 7 vl, .bx 9 [vi, vl, vi], a 9, w 10 vb, w 11 vi, w 13 vr, w 14 vi, w 15 vi, w 29 vb] .o) oo) (.s oo .o))))) (.s .o (.j [w 1 vi, .tm 2 false [(.sl [.sl [.int .i64]], .pure)], w 7 vl, w 13 vr, w 14 vi, w 15 vi] oo))))) .o) .o)))))) oo)), [(41, 54), (46, 69)], none⟩
noncomputable def g43 : AM.Sig := ⟨43, [.val true [vi, vl, vr], .val true [vi, vk]], [(false, [vl])]⟩
noncomputable def s43 : AM.Spec := ⟨g43, Go.Proofs.Tryd.f43, .s .o (.s .o (.s (.s .o (.j [c 2, a 2, .bx 3 [vi, vk], a 3, w 5 xl] (.j [c 2, a 2, .bx 3 [vi, vk], a 3, w 5 xl, w 9 vk, w 10 vi, w 11 vi] (.s .o (.s oo (.s (.s oo .o) .o)))))) oo)), [(18, 43), (26, 55)], none⟩
noncomputable def g42 : AM.Sig := ⟨42, [.val false [vl], .val false [vl]], [(false, [vb])]⟩
noncomputable def s42 : AM.Spec := ⟨g42, Go.Proofs.Tryd.f42, .s .o (.s (.s .o (.jr [] (.j [w 1 vl, w 7 vl, w 8 vi, w 9 vi] (.s .o (.s oo (.s (.s (.s .o (.s .o (.s oo .o))) .o) .o)))))) oo), [(15, 54)], none⟩
noncomputable def g16 : AM.Sig := ⟨16, [.val true [vi, vl, vr], .val true [vi, vk]], [(false, [vb])]⟩
noncomputable def s16 : AM.Spec := ⟨g16, Go.Proofs.Tryd.f16, .s .o oo, [(7, 43), (10, 42)], none⟩
noncomputable def g9 : AM.Sig := ⟨9, [], [(false, [vb])]⟩
noncomputable def s9 : AM.Spec := ⟨g9, Go.Proofs.Tryd.f9, .s .o (.s .o (.s .o (.s (.j [w 0 vb] .o) .o))), [(6, 30), (7, 10), (10, 32), (11, 32), (12, 32), (13, 31), (14, 31), (20, 33), (25, 16), (29, 32), (30, 16)], none⟩
noncomputable def g48 : AM.Sig := ⟨48, [.val true [vl], .val true [vl], .val false [vl]], [(false, [vi])]⟩
noncomputable def s48 : AM.Spec := ⟨g48, Go.Proofs.Tryd.f48, .s .o (.s (.s .o (.s oo .o)) (.s (.s .o (.jr [] (.j [b 3 vl, a 3, b 4 vl, a 4, w 15 vl, w 16 vi, w 17 vi] (.s .o (.s oo (.s (.s (.s .o (.s (.j [b 3 vl, a 3, b 4 vl, a 4, w 15 vl, w 16 vi, w 17 vi, w 43 vb] .o) (.s oo .o))) .o) .o)))))) oo)), [], none⟩
noncomputable def g103 : AM.Sig := ⟨103, [.val false [vu]], [(false, [vi])]⟩
noncomputable def s103 : AM.Spec := ⟨g103, Go.Proofs.Tryd.f103, .s .o (.s (.s .o (.j [w 0 vu, w 2 vi] (.s oo .o))) (.s (.s .o (.j [w 0 vu, w 2 vi] (.s oo .o))) (.s (.s .o (.j [w 0 vu, w 2 vi] (.s oo .o))) oo))), [], none⟩
noncomputable def g80 : AM.Sig := ⟨80, [.val false [vu]], [(false, [vi])]⟩
noncomputable def s80 : AM.Spec := ⟨g80, Go.Proofs.Tryd.f80, .s .o (.s (.s oo .o) oo), [(7, 103)], none⟩
noncomputable def g104 : AM.Sig := ⟨104, [.val false [vi]], [(false, [vb])]⟩
noncomputable def s104 : AM.Spec := ⟨g104, Go.Proofs.Tryd.f104, .s .o oo, [], none⟩
noncomputable def g82 : AM.Sig := ⟨82, [.val false [vi], .val false [vi]], [(false, [vi])]⟩
noncomputable def s82 : AM.Spec := ⟨g82, Go.Proofs.Tryd.f82, .s .o (.s .o (.s .o (.s (.s .o (.s (.s (.s .o (.s oo .o)) oo) .o)) (.s (.s .o (.s oo .o)) (.s (.s .o (.s oo .o)) (.s (.s .o (.s oo .o)) oo)))))), [(8, 104), (10, 104)], none⟩
noncomputable def g83 : AM.Sig := ⟨83, [.val false [vl], .val false [vl]], [(false, [vi])]⟩
noncomputable def s83 : AM.Spec := ⟨g83, Go.Proofs.Tryd.f83, .s .o (.s (.s .o (.jr [w 0 vl, w 1 vl] (.j [w 0 vl, w 1 vl, w 9 vl, w 10 vi, w 11 vi] (.s .o (.s oo (.s (.s (.s .o (.s (.s .o (.s oo .o)) (.s .o (.s .o (.s .o (.s oo .o)))))) .o) .o)))))) (.s (.s .o (.s oo .o)) oo)), [(26, 82)], none⟩
noncomputable def g81 : AM.Sig := ⟨81, [.val false [vl]], [(false, [vi])]⟩
noncomputable def s81 : AM.Spec := ⟨g81, Go.Proofs.Tryd.f81, .s .o (.s .o (.s (.s .o (.jr [w 3 vi] (.j [w 3 vi, w 6 vl, w 7 vi, w 8 vi] (.s .o (.s oo (.s (.s (.s .o (.s .o (.s oo .o))) .o) .o)))))) oo)), [], none⟩
noncomputable def g64 : AM.Sig := ⟨64, [.val true [vi, vl, vi], .val true [vi, vl, vi]], [(false, [vi])]⟩
noncomputable def s64 : AM.Spec := ⟨g64, Go.Proofs.Tryd.f64, .s .o oo, [(9, 82), (14, 83), (19, 82), (21, 81)], none⟩
noncomputable def g1004 : AM.Sig := ⟨94, [.io [wr], .val false [vi], .val false [vi], .fn 64], []⟩
noncomputable def s1004 : AM.Spec := ⟨g1004, Go.Proofs.Tryd.f94, .s .o (.j [w 0 wr] (.j [w 0 wr, w 1 vi, w 2 vi, .fn 3 64, w 8 vi] (.s (.s .o oo) (.s (.s (.s .o (.j [w 0 wr, w 1 vi, w 2 vi, .fn 3 64, w 8 vi] (.j [w 0 wr, w 1 vi, w 2 vi, .fn 3 64, w 8 vi, w 9 vi] (.s (.s (.j [w 0 wr, w 1 vi, w 2 vi, .fn 3 64, w 8 vi, w 9 vi, w 34 vb] .o) oo) (.s oo .o))))) .o) .o)))), [(32, 64)], none⟩
noncomputable def g1006 : AM.Sig := ⟨108, [.io [wr], .val false [vi], .val false [vi], .val false [vi], .fn 64], []⟩
noncomputable def s1006 : AM.Spec := ⟨g1006, Go.Proofs.Tryd.f108, .s .o (.jr [w 0 wr] (.j [w 0 wr, w 2 vi, w 3 vi, .fn 4 64, w 10 vi] (.s (.s .o (.s (.s .o oo) (.s (.s (.j [w 0 wr, w 2 vi, w 3 vi, .fn 4 64, w 10 vi, w 11 vi, w 40 vb] .o) (.j [w 0 wr, w 2 vi, w 3 vi, .fn 4 64, w 10 vi, w 11 vi] oo)) (.s (.s .o oo) oo)))) .o))), [(38, 64), (56, 64)], none⟩
noncomputable def g1005 : AM.Sig := ⟨95, [.io [wr], .val false [vi], .val false [vi], .fn 64], []⟩
noncomputable def s1005 : AM.Spec := ⟨g1005, Go.Proofs.Tryd.f95, .s .o (.s .o (.s .o (.s (.s .o (.j [w 0 wr, .fn 3 64, w 8 vi, w 9 vi, w 10 vi] (.j [w 0 wr, .fn 3 64, w 8 vi, w 9 vi, w 10 vi, w 11 vi] (.s (.s .o oo) (.s oo .o))))) (.s .o (.j [w 0 wr] (.j [w 0 wr, .fn 3 64, w 8 vi, w 9 vi, w 12 vi] (.s (.s .o oo) (.s (.s oo .o) .o)))))))), [(29, 1006), (59, 1006)], none⟩
noncomputable def g109 : AM.Sig := ⟨109, [.val false [vi]], [(false, [vu])]⟩
noncomputable def s109 : AM.Spec := ⟨g109, Go.Proofs.Tryd.f109, .s .o oo, [(5, 80)], none⟩
noncomputable def g110 : AM.Sig := ⟨110, [.ptr [vu]], [(false, [vu])]⟩
noncomputable def s110 : AM.Spec := ⟨g110, Go.Proofs.Tryd.f110, .s .o (.s .o (.s .o (.s .o oo))), [], none⟩
noncomputable def g1007 : AM.Sig := ⟨96, [.io [wr], .val false [vi], .val false [vi], .fn 64], []⟩
noncomputable def s1007 : AM.Spec := ⟨g1007, Go.Proofs.Tryd.f96, .s .o (.s .o (.j [w 0 wr] (.s (.s .o (.s .o (.s .o (.j [w 0 wr] (.j [w 0 wr, w 1 vi, w 8 vi, .bx 9 [vu], a 9, w 10 vu, w 11 vi] (.s (.s .o oo) (.s (.s (.s .o (.s (.s .o (.j [w 0 wr, w 1 vi, w 8 vi, .bx 9 [vu], a 9, w 10 vu, w 11 vi, w 12 vi] oo)) .o)) .o) .o))))))) .o))), [(21, 109), (38, 110)], none⟩
noncomputable def g1011 : AM.Sig := ⟨113, [.io [wr], .val false [vi], .val false [vi], .ptr [vi], .fn 64], [(false, [vi]), (false, [vi])]⟩
noncomputable def s1011 : AM.Spec := ⟨g1011, Go.Proofs.Tryd.f113, .s .o (.s (.s .o (.s (.s .o oo) .o)) oo), [(21, 64)], none⟩
noncomputable def g1010 : AM.Sig := ⟨112, [.io [wr], .val false [vi], .val false [vi], .val false [vi], .ptr [vi], .fn 64], [(false, [vi])]⟩
noncomputable def s1010 : AM.Spec := ⟨g1010, Go.Proofs.Tryd.f112, .s .o (.s .o (.s .o (.s .o oo))), [(19, 1011), (28, 1011), (37, 1011)], none⟩
noncomputable def g1009 : AM.Sig := ⟨111, [.io [wr], .val false [vi], .ptr [vi], .fn 64], [(false, [vi])]⟩
noncomputable def s1009 : AM.Spec := ⟨g1009, Go.Proofs.Tryd.f111, .s .o oo, [(17, 1010)], none⟩
noncomputable def g1008 : AM.Sig := ⟨97, [.io [wr], .val false [vi], .val false [vi], .fn 64], [(false, [vi]), (false, [vi])]⟩
noncomputable def s1008 : AM.Spec := ⟨g1008, Go.Proofs.Tryd.f97, .s .o (.s .o (.s .o (.s .o (.s .o (.s .o (.s (.s .o (.j [w 0 wr, b 11 vi, a 11, w 13 vi] (.s (.s (.s .o (.j [w 0 wr, .fn 3 64, b 11 vi, a 11, w 12 vi, w 13 vi, w 14 vi] (.s (.s .o oo) .o))) .o) .o))) (.s .o (.s (.s .o (.s oo (.s .o (.s oo oo)))) .o)))))))), [(40, 1009), (44, 1009), (48, 1009), (54, 1010)], none⟩
noncomputable def g1012 : AM.Sig := ⟨98, [.io [wr], .val false [vi], .val false [vi], .fn 64], []⟩
noncomputable def s1012 : AM.Spec := ⟨g1012, Go.Proofs.Tryd.f98, .s .o (.s .o (.j [w 0 wr] (.j [w 0 wr, w 8 vi, w 9 vi] (.s (.s .o oo) (.s (.s .o oo) .o))))), [], none⟩
noncomputable def g1013 : AM.Sig := ⟨99, [.io [wr], .val false [vi], .val false [vi], .fn 64], [(false, [vb])]⟩
noncomputable def s1013 : AM.Spec := ⟨g1013, Go.Proofs.Tryd.f99, .s .o (.s .o (.s (.s .o (.jr [w 0 wr] (.j [w 0 wr, w 1 vi, w 2 vi, .fn 3 64, w 9 vi, w 10 vi] (.s (.s .o oo) (.s (.s (.s (.j [w 0 wr, w 1 vi, w 2 vi, .fn 3 64, w 9 vi, w 10 vi] (.j [w 0 wr, w 1 vi, w 2 vi, .fn 3 64, w 9 vi, w 10 vi] (.s (.s (.j [w 0 wr, w 1 vi, w 2 vi, .fn 3 64, w 9 vi, w 10 vi, w 36 vb] .o) oo) oo))) (.s (.s .o (.s oo .o)) (.s (.s .o (.s oo .o)) (.s .o (.s (.s .o (.j [w 0 wr, w 1 vi, w 2 vi, .fn 3 64, w 9 vi, w 10 vi] (.s (.s .o (.j [w 0 wr, w 1 vi, w 2 vi, .fn 3 64, w 9 vi, w 10 vi] (.j [w 0 wr, w 1 vi, w 2 vi, .fn 3 64, w 9 vi, w 10 vi, w 11 vi] (.s (.s .o oo) (.s (.s (.s (.s .o oo) .o) .o) .o))))) .o))) (.s .o (.j [w 0 wr, w 1 vi, w 2 vi, .fn 3 64, w 9 vi, w 10 vi] (.s (.s .o (.j [w 0 wr, w 1 vi, w 2 vi, .fn 3 64, w 9 vi, w 10 vi] (.j [w 0 wr, w 1 vi, w 2 vi, .fn 3 64, w 9 vi, w 10 vi, w 12 vi] (.s (.s .o oo) (.s (.s (.s (.s .o oo) .o) .o) .o))))) .o)))))))) .o) .o))))) oo)), [(33, 64), (82, 64), (122, 64)], none⟩
noncomputable def g1014 : AM.Sig := ⟨100, [.io [wr], .val false [vi], .val false [vi], .val false [vi], .fn 64], [(false, [vi])]⟩
noncomputable def s1014 : AM.Spec := ⟨g1014, Go.Proofs.Tryd.f100, .s .o (.s .o (.s .o (.s (.j [w 0 wr, w 11 vi] (.j [w 0 wr, w 1 vi, .fn 4 64, w 11 vi, w 12 vi] (.s (.s (.j [w 0 wr, w 1 vi, .fn 4 64, w 11 vi, w 12 vi] (.j [w 0 wr, w 1 vi, .fn 4 64, w 11 vi, w 12 vi] (.s (.s (.j [w 0 wr, w 1 vi, .fn 4 64, w 11 vi, w 12 vi, w 47 vb] .o) oo) oo))) (.s (.j [w 0 wr, w 1 vi, .fn 4 64, w 11 vi, w 12 vi] (.j [w 0 wr, w 1 vi, .fn 4 64, w 11 vi, w 12 vi] (.s (.s (.j [w 0 wr, w 1 vi, .fn 4 64, w 11 vi, w 12 vi, w 65 vb] .o) oo) oo))) (.s (.s .o oo) (.s .o oo)))) .o))) oo))), [(44, 64), (63, 64)], none⟩
noncomputable def g1015 : AM.Sig := ⟨101, [.io [wr], .val false [vi], .val false [vi], .val false [vi], .fn 64], [(false, [vi]), (false, [vb])]⟩
noncomputable def s1015 : AM.Spec := ⟨g1015, Go.Proofs.Tryd.f101, .s .o (.s .o (.s .o (.s (.j [w 0 wr, w 1 vi, .fn 4 64, w 12 vi, w 13 vi] (.j [w 0 wr, w 1 vi, .fn 4 64, w 12 vi, w 13 vi] (.s (.s (.j [w 0 wr, w 1 vi, .fn 4 64, w 12 vi, w 13 vi, w 47 vb] .o) oo) oo))) (.s (.j [w 0 wr, w 1 vi, .fn 4 64, w 12 vi, w 13 vi] (.j [w 0 wr, w 1 vi, .fn 4 64, w 12 vi, w 13 vi] (.s (.s (.j [w 0 wr, w 1 vi, .fn 4 64, w 12 vi, w 13 vi, w 66 vb] .o) oo) oo))) (.s (.s .o (.s (.s .o oo) .o)) (.s .o (.s .o (.s .o (.s (.j [w 0 wr, w 1 vi, w 13 vi] (.j [w 0 wr, w 1 vi, .fn 4 64, w 12 vi, w 13 vi] (.s (.s (.j [w 0 wr, w 1 vi, .fn 4 64, w 12 vi, w 13 vi] (.j [w 0 wr, w 1 vi, .fn 4 64, w 12 vi, w 13 vi] (.s (.s (.j [w 0 wr, w 1 vi, .fn 4 64, w 12 vi, w 13 vi, w 120 vb] .o) oo) oo))) (.s (.j [w 0 wr, w 1 vi, .fn 4 64, w 12 vi, w 13 vi] (.j [w 0 wr, w 1 vi, .fn 4 64, w 12 vi, w 13 vi] (.s (.s (.j [w 0 wr, w 1 vi, .fn 4 64, w 12 vi, w 13 vi, w 139 vb] .o) oo) oo))) (.s (.s .o oo) (.s .o oo)))) .o))) (.s .o oo)))))))))), [(45, 64), (63, 64), (118, 64), (136, 64)], none⟩
noncomputable def g1003 : AM.Sig := ⟨79, [.io [wr], .val false [vi], .val false [vi], .val false [vi], .fn 64], []⟩
noncomputable def s1003 : AM.Spec := ⟨g1003, Go.Proofs.Tryd.f79, .s .o (.s .o (.jr [] (.j [w 0 wr, w 1 vi, w 2 vi, w 3 vi, .fn 4 64, w 10 vb, w 11 vb] (.s (.s .o (.s (.s .o (.s oo .o)) (.s (.s .o (.s oo .o)) (.s (.s .o (.j [w 0 wr, w 1 vi, w 2 vi, w 3 vi, .fn 4 64, w 10 vb, w 11 vb, w 12 vi] (.s oo .o))) (.s .o (.s (.s .o (.j [w 0 wr, w 1 vi, w 2 vi, w 3 vi, .fn 4 64, w 10 vb, w 11 vb, w 12 vi, w 13 vi, w 14 vi] (.s (.s .o oo) .o))) (.s (.s (.j [w 0 wr, w 1 vi, w 2 vi, w 3 vi, .fn 4 64, w 10 vb, w 11 vb, w 12 vi, w 13 vi, w 75 vb] .o) (.jr [w 0 wr, w 1 vi, w 2 vi, w 3 vi, .fn 4 64, w 10 vb, w 11 vb, w 12 vi, w 13 vi] (.s (.s .o oo) .o))) (.s (.s (.j [w 0 wr, w 1 vi, w 2 vi, w 3 vi, .fn 4 64, w 10 vb, w 11 vb, w 12 vi, w 13 vi, w 97 vb] .o) (.s (.s .o oo) .o)) (.s .o (.s .o (.s .o (.s .o (.s .o (.j [w 0 wr, w 1 vi, w 2 vi, w 3 vi, .fn 4 64, w 10 vb, w 11 vb] (.s (.s .o oo) (.s .o oo)))))))))))))))) .o)))), [(30, 1004), (37, 1005), (44, 1007), (52, 1008), (61, 1012), (80, 1013), (94, 64), (103, 1014), (111, 1015), (134, 1003), (146, 1003)], none⟩
noncomputable def g1002 : AM.Sig := ⟨63, [.io [wr], .fn 64], []⟩
noncomputable def s1002 : AM.Spec := ⟨g1002, Go.Proofs.Tryd.f63, .s .o .o, [(11, 80), (13, 1003)], none⟩
noncomputable def g66 : AM.Sig := ⟨66, [.val true [vi, vl, vi], .val true [vi, vl, vi]], [(false, [vb])]⟩
noncomputable def s66 : AM.Spec := ⟨g66, Go.Proofs.Tryd.f66, .s .o oo, [(7, 64)], none⟩
noncomputable def g1016 : AM.Sig := ⟨65, [.val false [wr], .fn 66], [(false, [wr])]⟩
noncomputable def s1016 : AM.Spec := ⟨g1016, Go.Proofs.Tryd.f65, .s .o (.s (.s .o (.s oo .o)) (.s (.s .o (.jr [w 0 wr] (.j [w 0 wr, .fn 1 66, w 5 vi] (.s (.s .o oo) (.s (.s (.s .o (.s (.s .o (.s (.s .o (.j [w 0 wr, w 5 vi] (.j [w 0 wr, .fn 1 66, w 5 vi, .rs 6 (.tmp 0) 0 false, w 7 vi] (.s (.s .o oo) (.s (.s (.s .o (.j [w 0 wr, .fn 1 66, w 5 vi, .rs 6 (.tmp 0) 0 false, w 7 vi] (.s oo .o))) .o) .o))))) (.s .o oo))) .o)) .o) .o))))) oo)), [(6, 2), (28, 66), (48, 66)], none⟩
noncomputable def g50 : AM.Sig := ⟨50, [.val false [wr]], [(false, [wr])]⟩
noncomputable def s50 : AM.Spec := ⟨g50, Go.Proofs.Tryd.f50, .s .o (.s .o oo), [(4, 1002), (6, 1016)], none⟩
noncomputable def g26 : AM.Sig := ⟨26, [.val true [vl], .val true [vl], .val false [vl], .val true [vi, vl, vr]], [(true, [vi, vl, vr]), (false, [vi])]⟩
noncomputable def s26 : AM.Spec := ⟨g26, Go.Proofs.Tryd.f26, .s .o (.s (.s (.j [w 2 vl, b 4 vl, a 4, b 5 vl, a 5, c 7, a 7, .bx 8 [vi, wl, wr], a 8, w 27 vb] .o) (.s oo .o)) (.s (.s .o (.s .o (.s oo .o))) (.s .o (.s (.s .o (.j [.bx 8 [vi, wl, wr], a 8, .bx 11 [vi, wl, wr], a 11] (.j [w 2 vl, .bx 8 [vi, wl, wr], a 8, .bx 11 [vi, wl, wr], a 11, .rf 40 (.box 11) 2 false 1, w 41 vi, w 42 vi] (.s .o (.s oo (.s (.s oo .o) .o)))))) (.s .o oo))))), [(15, 47), (19, 47), (25, 34), (32, 48), (38, 35), (60, 50)], none⟩
noncomputable def g11 : AM.Sig := ⟨11, [.val true [vl], .val false [(.sl [.int .i64, .sl [.int .i64], .sl [.int .i64, .sl [.int .i64], .int .i64]], .pure)]], [(false, [vb])]⟩
noncomputable def s11 : AM.Spec := ⟨g11, Go.Proofs.Tryd.f11, .s .o (.s (.s .o (.jr [] (.j [b 2 vl, a 2, .tm 7 false [(.sl [.int .i64, .sl [.int .i64], .sl [.int .i64, .sl [.int .i64], .int .i64]], .pure)], w 8 vi, w 9 vi] (.s .o (.s oo (.s (.s (.s .o (.s .o (.s oo .o))) .o) .o)))))) oo), [(15, 33)], none⟩
noncomputable def g22 : AM.Sig := ⟨22, [.val true [vl], .val true [vl], .val false [vl]], [(false, [vi])]⟩
noncomputable def s22 : AM.Spec := ⟨g22, Go.Proofs.Tryd.f22, .s .o (.s (.s .o (.s oo .o)) (.s (.s .o (.jr [] (.j [b 3 vl, a 3, b 4 vl, a 4, w 15 vl, w 16 vi, w 17 vi] (.s .o (.s oo (.s (.s (.s .o (.s (.j [b 3 vl, a 3, b 4 vl, a 4, w 15 vl, w 16 vi, w 17 vi, w 43 vb] .o) (.s oo .o))) .o) .o)))))) oo)), [], none⟩
noncomputable def g39 : AM.Sig := ⟨39, [.val true [vl], .val true [vi, vk]], [(false, [vb])]⟩
noncomputable def s39 : AM.Spec := ⟨g39, Go.Proofs.Tryd.f39, .s .o (.s (.s (.j [b 2 vl, a 2, .bx 3 [vi, vk], a 3, w 29 vb] .o) (.s oo .o)) (.s (.s .o (.jr [] (.j [b 2 vl, a 2, w 31 vk, w 32 vi, w 33 vi] (.s .o (.s oo (.s (.s (.s .o (.s .o (.s oo .o))) .o) .o)))))) oo)), [(39, 39)], none⟩
noncomputable def g12 : AM.Sig := ⟨12, [.val true [vl], .val true [vi, vk]], [(false, [vb])]⟩
noncomputable def s12 : AM.Spec := ⟨g12, Go.Proofs.Tryd.f12, .s .o (.s (.j [w 4 vb] .o) .o), [(6, 21), (9, 29), (14, 39)], none⟩
noncomputable def g24 : AM.Sig := ⟨24, [.val false [vl], .val true [vi, vk]], [(true, [vi, (.rsl [.int .i64], .own)])]⟩
noncomputable def s24 : AM.Spec := ⟨g24, Go.Proofs.Tryd.f24, .s .o (.s .o (.s (.s .o (.j [.bx 4 [vi, (.rsl [.int .i64], .own)], a 4, .bx 5 [vi, (.rsl [.int .i64], .own)], a 5] (.j [w 0 vl, .bx 4 [vi, (.rsl [.int .i64], .own)], a 4, .bx 5 [vi, (.rsl [.int .i64], .own)], a 5, w 15 vk, w 16 vi, w 17 vi] (.s .o (.s oo (.s (.s oo .o) .o)))))) oo)), [(25, 24)], none⟩
noncomputable def g27 : AM.Sig := ⟨27, [.val false [vl], .val true [vi, vl, vr]], [(true, [vi, wl, wr])]⟩
noncomputable def s27 : AM.Spec := ⟨g27, Go.Proofs.Tryd.f27, .s .o (.s .o (.s (.s .o (.j [.bx 4 [vi, wl, wr], a 4, .bx 5 [vi, wl, wr], a 5] (.j [w 0 vl, .bx 4 [vi, wl, wr], a 4, .bx 5 [vi, wl, wr], a 5, w 16 vr, w 17 vi, w 18 vi] (.s .o (.s oo (.s (.s (.s .o oo) .o) .o)))))) oo)), [], none⟩
noncomputable def g85 : AM.Sig := ⟨85, [.val true [vi, vl, vr]], [(false, [xb])]⟩
noncomputable def s85 : AM.Spec := ⟨g85, Go.Proofs.Tryd.f85, .s .o (.s .o (.s (.s .o (.j [w 3 xb] (.j [c 1, a 1, w 3 xb, w 4 vb] (.s (.s .o oo) (.s (.s .o (.s .o (.j [c 1, a 1, w 3 xb, w 4 vb] (.j [c 1, a 1, w 3 xb, w 4 vb, w 15 vr, w 16 vi, w 17 vi] (.s .o (.s oo (.s (.s (.s .o (.s .o (.s (.s .o (.j [c 1, a 1, w 3 xb, w 4 vb, .bx 6 [vi, vl, vi], a 6, w 7 vb, w 15 vr, w 16 vi, w 17 vi] (.j [c 1, a 1, w 3 xb, w 4 vb, .bx 6 [vi, vl, vi], a 6, w 7 vb, w 15 vr, w 16 vi, w 17 vi, w 22 vl, w 23 vi, w 24 vi] (.s .o (.s oo (.s (.s (.s .o (.j [c 1, a 1, w 3 xb, w 4 vb, .bx 6 [vi, vl, vi], a 6, w 7 vb, w 15 vr, w 16 vi, w 17 vi, w 22 vl, w 23 vi, w 24 vi] .o)) .o) .o)))))) (.s (.j [c 1, a 1, w 3 xb, w 4 vb, .bx 6 [vi, vl, vi], a 6, w 15 vr, w 16 vi, w 17 vi, w 44 vb] .o) (.j [c 1, a 1, w 3 xb, w 4 vb, w 15 vr, w 16 vi, w 17 vi] oo))))) .o) .o))))))) .o))))) oo)), [], none⟩
noncomputable def g72 : AM.Sig := ⟨72, [.val true [vi, vl, vr]], [(false, [xb])]⟩
noncomputable def s72 : AM.Spec := ⟨g72, Go.Proofs.Tryd.f72, .s .o (.s .o (.s .o (.s (.s .o (.j [c 1, a 1, w 3 xb, w 4 xb] (.j [c 1, a 1, w 3 xb, w 4 xb, w 21 vl, w 22 vi, w 23 vi] (.s .o (.s oo (.s (.s oo .o) .o)))))) (.s (.s .o (.j [w 4 xb] (.j [c 1, a 1, w 3 xb, w 4 xb, w 7 vb] (.s (.s .o oo) (.s (.s .o (.s .o (.j [c 1, a 1, w 3 xb, w 4 xb, w 7 vb] (.j [c 1, a 1, w 3 xb, w 4 xb, w 7 vb, w 37 vr, w 38 vi, w 39 vi] (.s .o (.s oo (.s (.s (.s .o (.s .o (.s (.s .o (.j [c 1, a 1, w 3 xb, w 4 xb, w 7 vb, .bx 9 [vi, vl, vi], a 9, w 10 vb, w 37 vr, w 38 vi, w 39 vi] (.j [c 1, a 1, w 3 xb, w 4 xb, w 7 vb, .bx 9 [vi, vl, vi], a 9, w 10 vb, w 37 vr, w 38 vi, w 39 vi, w 49 vl, w 50 vi, w 51 vi] (.s .o (.s oo (.s (.s (.s .o (.j [c 1, a 1, w 3 xb, w 4 xb, w 7 vb, .bx 9 [vi, vl, vi], a 9, w 10 vb, w 37 vr, w 38 vi, w 39 vi, w 49 vl, w 50 vi, w 51 vi] .o)) .o) .o)))))) (.s .o (.j [c 1, a 1, w 3 xb, w 4 xb, w 7 vb, w 37 vr, w 38 vi, w 39 vi] (.j [c 1, a 1, w 3 xb, w 4 xb, w 7 vb, w 10 vb, w 37 vr, w 38 vi, w 39 vi, w 64 vl, w 65 vi, w 66 vi] (.s .o (.s oo (.s (.s (.s .o (.s (.j [c 1, a 1, w 3 xb, w 4 xb, w 7 vb, w 10 vb, w 14 vi, w 37 vr, w 38 vi, w 39 vi, w 64 vl, w 65 vi, w 66 vi, w 77 vb] .o) (.j [c 1, a 1, w 3 xb, w 4 xb, w 7 vb, w 10 vb, w 37 vr, w 38 vi, w 39 vi, w 64 vl, w 65 vi, w 66 vi] oo))) .o) .o))))))))) .o) .o))))))) .o))))) oo)))), [(16, 85)], none⟩
noncomputable def g106 : AM.Sig := ⟨106, [.val true [vi, vl, vi]], [(false, [wl])]⟩
noncomputable def s106 : AM.Spec := ⟨g106, Go.Proofs.Tryd.f106, .s .o oo, [], none⟩
noncomputable def g105 : AM.Sig := ⟨105, [.val false [vl], .val false [vl]], [(false, [vi])]⟩
noncomputable def s105 : AM.Spec := ⟨g105, Go.Proofs.Tryd.f105, .s .o (.s (.s .o (.jr [w 0 vl, w 1 vl] (.j [w 0 vl, w 1 vl, w 10 vi, w 11 vi] (.s .o (.s oo (.s (.s (.s .o (.s (.s .o (.s oo .o)) (.s .o (.s oo .o)))) .o) .o)))))) (.s (.s (.s .o (.s oo (.s .o (.s oo .o)))) .o) oo)), [], none⟩
noncomputable def g84 : AM.Sig := ⟨84, [.val false [vr]], [(false, [wr])]⟩
noncomputable def s84 : AM.Spec := ⟨g84, Go.Proofs.Tryd.f84, .s .o (.s .o (.s (.s .o (.j [w 3 wr] (.j [w 3 wr, w 9 vr, w 10 vi, w 11 vi] (.s .o (.s oo (.s (.s (.s .o (.s .o (.s (.j [w 3 wr, .bx 5 [vi, vl, vi], a 5, w 6 vi, w 9 vr, w 10 vi, w 11 vi] (.j [w 3 wr, .bx 5 [vi, vl, vi], a 5, w 6 vi, w 7 vi, w 9 vr, w 10 vi, w 11 vi] (.s (.s .o oo) (.s (.s .o (.s .o (.j [w 3 wr, .bx 5 [vi, vl, vi], a 5, w 6 vi, w 7 vi, w 9 vr, w 10 vi, w 11 vi] oo))) .o)))) (.s (.j [w 3 wr, .bx 5 [vi, vl, vi], a 5, w 6 vi, w 9 vr, w 10 vi, w 11 vi, w 50 vb] .o) (.j [w 3 wr, w 9 vr, w 10 vi, w 11 vi] (.s (.s .o oo) .o)))))) .o) .o)))))) oo)), [(28, 106), (30, 106), (31, 105), (45, 106), (47, 106), (48, 105)], none⟩
noncomputable def g71 : AM.Sig := ⟨71, [.val true [vi, vl, vr], .val false [(.sl [.bool], .pure)]], [(true, [vi, wl, wr])]⟩
noncomputable def s71 : AM.Spec := ⟨g71, Go.Proofs.Tryd.f71, .s .o (.s .o (.s .o (.s (.s .o (.j [.tm 1 false [(.sl [.bool], .pure)], c 2, a 2, .bx 4 [vi, wl, wr], a 4, w 5 wl, .bx 6 [vi, wl, wr], a 6] (.j [.tm 1 false [(.sl [.bool], .pure)], c 2, a 2, .bx 4 [vi, wl, wr], a 4, w 5 wl, .bx 6 [vi, wl, wr], a 6, .tm 20 false [(.sl [.bool], .pure)], w 21 vi, w 22 vi] (.s .o (.s oo (.s (.s (.s .o (.s .o (.j [.tm 1 false [(.sl [.bool], .pure)], c 2, a 2, .bx 4 [vi, wl, wr], a 4, w 5 wl, .bx 6 [vi, wl, wr], a 6, .tm 20 false [(.sl [.bool], .pure)], w 21 vi, w 22 vi] (.s oo .o)))) .o) .o)))))) (.s (.s .o (.j [.tm 1 false [(.sl [.bool], .pure)], c 2, a 2, .bx 4 [vi, wl, wr], a 4, w 5 wl, .bx 6 [vi, wl, wr], a 6] (.j [.tm 1 false [(.sl [.bool], .pure)], c 2, a 2, .bx 4 [vi, wl, wr], a 4, w 5 wl, .bx 6 [vi, wl, wr], a 6, w 39 vl, w 40 vi, w 41 vi] (.s .o (.s oo (.s (.s (.s .o (.s .o (.j [.tm 1 false [(.sl [.bool], .pure)], c 2, a 2, .bx 4 [vi, wl, wr], a 4, w 5 wl, .bx 6 [vi, wl, wr], a 6, w 39 vl, w 40 vi, w 41 vi] oo))) .o) .o)))))) (.s (.s .o (.j [.bx 4 [vi, wl, wr], a 4, .bx 6 [vi, wl, wr], a 6] (.j [.tm 1 false [(.sl [.bool], .pure)], .bx 4 [vi, wl, wr], a 4, w 5 wl, .bx 6 [vi, wl, wr], a 6, w 60 vr, w 61 vi, w 62 vi] (.s .o (.s oo (.s (.s (.s .o (.s .o (.s .o (.s (.s .o (.j [.tm 1 false [(.sl [.bool], .pure)], .bx 4 [vi, wl, wr], a 4, w 5 wl, .bx 6 [vi, wl, wr], a 6, .bx 12 [vi, vl, vi], a 12, w 13 vb, w 14 wl, w 60 vr, w 61 vi, w 62 vi] (.j [.tm 1 false [(.sl [.bool], .pure)], .bx 4 [vi, wl, wr], a 4, w 5 wl, .bx 6 [vi, wl, wr], a 6, .bx 12 [vi, vl, vi], a 12, w 13 vb, w 14 wl, w 60 vr, w 61 vi, w 62 vi, w 72 vl, w 73 vi, w 74 vi] (.s .o (.s oo (.s (.s (.s .o (.s (.j [.tm 1 false [(.sl [.bool], .pure)], .bx 4 [vi, wl, wr], a 4, w 5 wl, .bx 6 [vi, wl, wr], a 6, .bx 12 [vi, vl, vi], a 12, w 13 vb, w 14 wl, w 16 vi, w 60 vr, w 61 vi, w 62 vi, w 72 vl, w 73 vi, w 74 vi] .o) .o)) .o) .o)))))) (.s .o (.j [.tm 1 false [(.sl [.bool], .pure)], .bx 4 [vi, wl, wr], a 4, w 5 wl, .bx 6 [vi, wl, wr], a 6, w 60 vr, w 61 vi, w 62 vi] oo)))))) .o) .o)))))) (.s .o oo)))))), [(111, 84)], none⟩
noncomputable def g57 : AM.Sig := ⟨57, [.val true [vi, vl, vr]], [(true, [vi, wl, wr])]⟩
noncomputable def s57 : AM.Spec := ⟨g57, Go.Proofs.Tryd.f57, .s .o oo, [(5, 72), (6, 71)], none⟩
noncomputable def g70 : AM.Sig := ⟨70, [.val false [vi], .val false [vi]], [(false, [vi])]⟩
noncomputable def s70 : AM.Spec := ⟨g70, Go.Proofs.Tryd.f70, .s .o (.s .o (.s (.s .o (.j [w 5 vi] (.j [w 0 vi, w 5 vi, w 6 vi, w 7 vi] (.s .o (.s oo (.s oo .o)))))) oo)), [], none⟩
noncomputable def g56 : AM.Sig := ⟨56, [.val true [vi, vl, vr]], [(false, [vi])]⟩
noncomputable def s56 : AM.Spec := ⟨g56, Go.Proofs.Tryd.f56, .s .o oo, [(4, 57), (6, 70)], none⟩
noncomputable def g49 : AM.Sig := ⟨49, [.val false [vl], .val false [vl]], [(false, [vb])]⟩
noncomputable def s49 : AM.Spec := ⟨g49, Go.Proofs.Tryd.f49, .s .o (.s (.s .o (.s oo .o)) (.s (.s .o (.jr [] (.j [w 0 vl, w 1 vl, w 12 vi, w 13 vi] (.s .o (.s oo (.s (.s (.s .o (.s .o (.s oo .o))) .o) .o)))))) oo)), [], none⟩
noncomputable def g23 : AM.Sig := ⟨23, [.val true [vi, vl, vr]], [(false, [vb])]⟩
noncomputable def s23 : AM.Spec := ⟨g23, Go.Proofs.Tryd.f23, .s .o (.s (.s .o (.jr [] (.j [c 1, a 1, w 8 vr, w 9 vi, w 10 vi] (.s .o (.s oo (.s (.s (.s .o (.s .o (.jr [c 1, a 1, w 8 vr, w 9 vi, w 10 vi] (.j [c 1, a 1, .bx 4 [vi, vl, vi], a 4, w 8 vr, w 9 vi, w 10 vi, w 18 vr, w 19 vi, w 20 vi] (.s .o (.s oo (.s (.s (.s .o (.s (.j [c 1, a 1, .bx 4 [vi, vl, vi], a 4, w 8 vr, w 9 vi, w 10 vi, w 18 vr, w 19 vi, w 20 vi, w 35 vb] .o) (.s oo .o))) .o) .o))))))) .o) .o)))))) oo), [(34, 49)], none⟩
noncomputable def g58 : AM.Sig := ⟨58, [.val true [vl], .val false [vi]], [(false, [vi])]⟩
noncomputable def s58 : AM.Spec := ⟨g58, Go.Proofs.Tryd.f58, .s .o (.s .o (.s (.s .o (.j [w 5 vi] (.j [w 1 vi, w 5 vi, w 9 vl, w 10 vi, w 11 vi] (.s .o (.s oo (.s (.s oo .o) .o)))))) oo)), [(18, 70)], none⟩
noncomputable def g44 : AM.Sig := ⟨44, [.val true [vl], .val false [(.sl [.int .i64, .sl [.int .i64], .sl [.int .i64, .sl [.int .i64], .int .i64]], .pure)]], [(false, [vb])]⟩
noncomputable def s44 : AM.Spec := ⟨g44, Go.Proofs.Tryd.f44, .s .o (.s (.s .o (.jr [] (.j [b 2 vl, a 2, .tm 8 false [(.sl [.int .i64, .sl [.int .i64], .sl [.int .i64, .sl [.int .i64], .int .i64]], .pure)], w 9 vi, w 10 vi] (.s .o (.s oo (.s (.s (.s .o (.s (.s (.j [b 2 vl, a 2, c 6, a 6, .tm 8 false [(.sl [.int .i64, .sl [.int .i64], .sl [.int .i64, .sl [.int .i64], .int .i64]], .pure)], w 9 vi, w 10 vi, w 22 vb] .o) (.s oo .o)) (.s .o (.s (.s .o (.j [b 2 vl, a 2, w 7 vi, .tm 8 false [(.sl [.int .i64, .sl [.int .i64], .sl [.int .i64, .sl [.int .i64], .int .i64]], .pure)], w 9 vi, w 10 vi] oo)) (.s .o (.s oo .o)))))) .o) .o)))))) oo), [(24, 56), (26, 23), (28, 57), (33, 58)], none⟩
noncomputable def g87 : AM.Sig := ⟨87, [.val false [vi], .val false [vi]], [(false, [xl])]⟩
noncomputable def s87 : AM.Spec := ⟨g87, Go.Proofs.Tryd.f87, .s .o (.s (.s .o (.s oo .o)) (.s .o (.s (.s .o (.j [w 5 xl] (.j [w 0 vi, w 1 vi, w 5 xl, w 12 vi, w 13 vi] (.s .o (.s oo (.s (.s (.s .o (.s .o (.j [w 0 vi, w 1 vi, w 5 xl, w 12 vi, w 13 vi] (.j [w 0 vi, w 1 vi, w 5 xl, w 6 vi, w 12 vi, w 13 vi, w 19 xl, w 20 vi, w 21 vi] (.s .o (.s oo (.s (.s oo .o) .o))))))) .o) .o)))))) oo))), [(19, 87)], none⟩
noncomputable def g88 : AM.Sig := ⟨88, [.val false [(.sl [.sl [.int .i64]], .pure)], .val false [vl]], [(false, [xl])]⟩
noncomputable def s88 : AM.Spec := ⟨g88, Go.Proofs.Tryd.f88, .s .o (.s .o (.s (.s .o (.j [w 5 xl] (.j [.tm 0 false [(.sl [.sl [.int .i64]], .pure)], w 5 xl, w 8 vl, w 9 vi, w 10 vi] (.s .o (.s oo (.s (.s oo .o) .o)))))) oo)), [], none⟩
noncomputable def g89 : AM.Sig := ⟨89, [.val false [(.sl [.sl [.int .i64]], .pure)], .val false [vl]], [(false, [vi])]⟩
noncomputable def s89 : AM.Spec := ⟨g89, Go.Proofs.Tryd.f89, .s .o (.s (.s .o (.jr [] (.j [w 1 vl, .tm 7 false [(.sl [.sl [.int .i64]], .pure)], w 8 vi, w 9 vi] (.s .o (.s oo (.s (.s (.s .o (.s .o (.s oo .o))) .o) .o)))))) oo), [(16, 49)], none⟩
noncomputable def g86 : AM.Sig := ⟨86, [.val true [vl], .val true [vi, vl, vr]], [(false, [(.sl [.sl [.int .i64]], .pure)]), (false, [vb])]⟩
noncomputable def s86 : AM.Spec := ⟨g86, Go.Proofs.Tryd.f86, .s .o (.s .o (.jr [] (.j [b 2 vl, a 2, c 3, a 3, .tm 6 false [(.sl [.sl [.int .i64]], .tip)]] (.s (.s .o (.s (.s .o (.j [b 2 vl, a 2, c 3, a 3, .tm 6 false [(.sl [.sl [.int .i64]], .tip)], w 7 vi] (.j [b 2 vl, a 2, c 3, a 3, .tm 6 false [(.sl [.sl [.int .i64]], .tip)], w 7 vi, w 16 vl, w 17 vi, w 18 vi] (.s .o (.s oo (.s (.s (.s .o (.s .o (.j [b 2 vl, a 2, c 3, a 3, .tm 6 false [(.sl [.sl [.int .i64]], .tip)], w 7 vi, w 16 vl, w 17 vi, w 18 vi] (.j [b 2 vl, a 2, c 3, a 3, .tm 6 false [(.sl [.sl [.int .i64]], .tip)], w 7 vi, w 8 vi, w 16 vl, w 17 vi, w 18 vi, w 25 xl, w 26 vi, w 27 vi] (.s .o (.s oo (.s (.s (.s .o (.s .o (.s (.j [b 2 vl, a 2, c 3, a 3, .tm 6 false [(.sl [.sl [.int .i64]], .tip)], w 7 vi, w 8 vi, w 12 vl, w 16 vl, w 17 vi, w 18 vi, w 25 xl, w 26 vi, w 27 vi, w 47 vb] .o) (.j [b 2 vl, a 2, c 3, a 3, .tm 6 false [(.sl [.sl [.int .i64]], .tip)], w 7 vi, w 8 vi, w 16 vl, w 17 vi, w 18 vi, w 25 xl, w 26 vi, w 27 vi] oo)))) .o) .o))))))) .o) .o)))))) (.s (.s .o (.s oo .o)) (.s .o (.s oo .o))))) .o)))), [(25, 87), (37, 88), (38, 55), (45, 89)], none⟩
noncomputable def g73 : AM.Sig := ⟨73, [.val true [vl], .val true [vi, vl, vr]], [(true, [vi, vl, vr]), (false, [(.sl [.sl [.int .i64]], .pure)]), (false, [vi])]⟩
noncomputable def s73 : AM.Spec := ⟨g73, Go.Proofs.Tryd.f73, .s .o (.s (.s .o (.s oo .o)) (.s .o (.s (.s .o (.s oo .o)) (.s .o (.s (.s .o (.j [b 2 vl, a 2, c 3, a 3, .bx 4 [vi, wl, wr], a 4, .tm 7 false [(.sl [.sl [.int .i64]], .pure)], .bx 9 [vi, wl, wr], a 9] (.j [b 2 vl, a 2, c 3, a 3, .bx 4 [vi, wl, wr], a 4, .tm 7 false [(.sl [.sl [.int .i64]], .pure)], .bx 9 [vi, wl, wr], a 9, .tm 34 false [(.sl [.sl [.int .i64]], .pure)], w 35 vi, w 36 vi] (.s .o (.s oo (.s (.s (.s .o (.s .o (.j [b 2 vl, a 2, c 3, a 3, .bx 4 [vi, wl, wr], a 4, .tm 7 false [(.sl [.sl [.int .i64]], .pure)], .bx 9 [vi, wl, wr], a 9, .tm 34 false [(.sl [.sl [.int .i64]], .pure)], w 35 vi, w 36 vi] oo))) .o) .o)))))) (.s (.s .o (.j [.bx 4 [vi, wl, wr], a 4, .tm 7 false [(.sl [.sl [.int .i64]], .pure)], .bx 9 [vi, wl, wr], a 9] (.j [c 3, a 3, .bx 4 [vi, wl, wr], a 4, .tm 7 false [(.sl [.sl [.int .i64]], .pure)], .bx 9 [vi, wl, wr], a 9, w 53 vl, w 54 vi, w 55 vi] (.s .o (.s oo (.s (.s (.s .o (.s .o (.j [c 3, a 3, .bx 4 [vi, wl, wr], a 4, .tm 7 false [(.sl [.sl [.int .i64]], .pure)], .bx 9 [vi, wl, wr], a 9, w 53 vl, w 54 vi, w 55 vi] (.j [c 3, a 3, .bx 4 [vi, wl, wr], a 4, .tm 7 false [(.sl [.sl [.int .i64]], .pure)], .bx 9 [vi, wl, wr], a 9, w 12 vi, w 53 vl, w 54 vi, w 55 vi, w 63 xl, w 64 vi, w 65 vi] (.s .o (.s oo (.s (.s (.s .o (.s .o (.s .o (.j [c 3, a 3, .bx 4 [vi, wl, wr], a 4, .tm 7 false [(.sl [.sl [.int .i64]], .pure)], .bx 9 [vi, wl, wr], a 9, w 12 vi, w 53 vl, w 54 vi, w 55 vi, w 63 xl, w 64 vi, w 65 vi] oo)))) .o) .o))))))) .o) .o)))))) (.s (.s .o (.s oo .o)) oo))))))), [(19, 33), (25, 86), (44, 42), (63, 87), (73, 88), (74, 55), (84, 89)], none⟩
noncomputable def g74 : AM.Sig := ⟨74, [.val true [vl], .val false [vi]], [(false, [vb])]⟩
noncomputable def s74 : AM.Spec := ⟨g74, Go.Proofs.Tryd.f74, .s .o (.s (.j [w 4 vb] .o) .o), [(10, 58)], none⟩
noncomputable def g75 : AM.Sig := ⟨75, [.val true [vl], .val true [vi, vl, vr]], [(true, [vi, wl, wr])]⟩
noncomputable def s75 : AM.Spec := ⟨g75, Go.Proofs.Tryd.f75, .s .o (.s .o (.s (.s .o (.j [.bx 4 [vi, wl, wr], a 4, .bx 5 [vi, wl, wr], a 5] (.j [c 3, a 3, .bx 4 [vi, wl, wr], a 4, .bx 5 [vi, wl, wr], a 5, w 26 vl, w 27 vi, w 28 vi] (.s .o (.s oo (.s (.s (.s .o (.s .o (.j [c 3, a 3, .bx 4 [vi, wl, wr], a 4, .bx 5 [vi, wl, wr], a 5, w 26 vl, w 27 vi, w 28 vi] (.j [c 3, a 3, .bx 4 [vi, wl, wr], a 4, .bx 5 [vi, wl, wr], a 5, w 6 vi, w 26 vl, w 27 vi, w 28 vi, w 37 xl, w 38 vi, w 39 vi] (.s .o (.s oo (.s (.s (.s .o (.s .o (.s (.s .o (.j [c 3, a 3, .bx 4 [vi, wl, wr], a 4, .bx 5 [vi, wl, wr], a 5, w 6 vi, w 9 vl, w 10 vb, w 26 vl, w 27 vi, w 28 vi, w 37 xl, w 38 vi, w 39 vi] (.j [c 3, a 3, .bx 4 [vi, wl, wr], a 4, .bx 5 [vi, wl, wr], a 5, w 6 vi, w 9 vl, w 10 vb, w 26 vl, w 27 vi, w 28 vi, w 37 xl, w 38 vi, w 39 vi, w 44 vr, w 45 vi, w 46 vi] (.s .o (.s oo (.s (.s (.s .o (.j [c 3, a 3, .bx 4 [vi, wl, wr], a 4, .bx 5 [vi, wl, wr], a 5, w 6 vi, w 9 vl, w 10 vb, w 26 vl, w 27 vi, w 28 vi, w 37 xl, w 38 vi, w 39 vi, w 44 vr, w 45 vi, w 46 vi] .o)) .o) .o)))))) (.s .o (.j [c 3, a 3, .bx 4 [vi, wl, wr], a 4, .bx 5 [vi, wl, wr], a 5, w 6 vi, w 26 vl, w 27 vi, w 28 vi, w 37 xl, w 38 vi, w 39 vi] oo))))) .o) .o))))))) .o) .o)))))) oo)), [(37, 87), (60, 49)], none⟩
noncomputable def g107 : AM.Sig := ⟨107, [.val true [vi, (.sl [.sl [.int .i64]], .pure)], .val false [vl]], [(false, [vi])]⟩
noncomputable def s107 : AM.Spec := ⟨g107, Go.Proofs.Tryd.f107, .s .o (.s .o (.s (.s .o (.j [w 5 vi] (.j [.bx 2 [vi, (.sl [.sl [.int .i64]], .pure)], a 2, w 5 vi, w 8 vl, w 9 vi, w 10 vi] (.s .o (.s oo (.s (.s oo .o) .o)))))) oo)), [], none⟩
noncomputable def g90 : AM.Sig := ⟨90, [.val true [vl], .val true [vi, vl, vr]], [(true, [vi, (.sl [.sl [.int .i64]], .own)])]⟩
noncomputable def s90 : AM.Spec := ⟨g90, Go.Proofs.Tryd.f90, .s .o (.s .o (.s (.s .o (.j [c 3, a 3, .bx 4 [vi, (.sl [.sl [.int .i64]], .own)], a 4, .bx 5 [vi, (.dl [.sl [.int .i64]], .own)], a 5] (.j [c 3, a 3, .bx 4 [vi, (.sl [.sl [.int .i64]], .own)], a 4, .bx 5 [vi, (.dl [.sl [.int .i64]], .own)], a 5, w 16 vl, w 17 vi, w 18 vi] (.s .o (.s oo (.s (.s (.s .o (.s .o (.s (.s .o (.j [c 3, a 3, .bx 4 [vi, (.sl [.sl [.int .i64]], .own)], a 4, .bx 5 [vi, (.dl [.sl [.int .i64]], .own)], a 5, w 8 wl, w 16 vl, w 17 vi, w 18 vi] (.j [c 3, a 3, .bx 4 [vi, (.sl [.sl [.int .i64]], .own)], a 4, .bx 5 [vi, (.dl [.sl [.int .i64]], .own)], a 5, w 8 wl, w 16 vl, w 17 vi, w 18 vi, w 28 vi, w 29 vi] (.s .o (.s oo (.s (.s oo .o) .o)))))) .o))) .o) .o)))))) (.s (.s .o (.j [.bx 4 [vi, (.sl [.sl [.int .i64]], .own)], a 4, .bx 5 [vi, (.dl [.sl [.int .i64]], .own)], a 5] (.j [.bx 4 [vi, (.sl [.sl [.int .i64]], .own)], a 4, .bx 5 [vi, (.dl [.sl [.int .i64]], .own)], a 5, w 44 vr, w 45 vi, w 46 vi] (.s .o (.s oo (.s (.s oo .o) .o)))))) oo))), [(5, 1), (14, 1), (25, 70), (39, 1), (59, 107)], none⟩
noncomputable def g93 : AM.Sig := ⟨93, [.val true [vi, (.sl [.sl [.int .i64]], .pure)], .val false [vi], .val false [vl]], [(false, [vi])]⟩
noncomputable def s93 : AM.Spec := ⟨g93, Go.Proofs.Tryd.f93, .s .o oo, [(14, 107)], none⟩
noncomputable def g91 : AM.Sig := ⟨91, [.val true [vl], .val true [vi, (.sl [.sl [.int .i64]], .pure)], .val false [vl], .val false [vi], .val false [vi]], [(false, [vb])]⟩
noncomputable def s91 : AM.Spec := ⟨g91, Go.Proofs.Tryd.f91, .s .o (.s (.s .o (.jr [] (.j [w 2 vl, w 3 vi, w 4 vi, .bx 6 [vi, (.sl [.sl [.int .i64]], .pure)], a 6, w 19 vl, w 20 vi, w 21 vi] (.s .o (.s oo (.s (.s (.s .o (.s (.s .o oo) (.s .o (.jr [w 2 vl, w 3 vi, w 4 vi, .bx 6 [vi, (.sl [.sl [.int .i64]], .pure)], a 6, w 19 vl, w 20 vi, w 21 vi] (.j [w 2 vl, w 3 vi, w 4 vi, .bx 6 [vi, (.sl [.sl [.int .i64]], .pure)], a 6, w 11 vi, w 12 vi, w 19 vl, w 20 vi, w 21 vi, w 32 xl, w 33 vi, w 34 vi] (.s .o (.s oo (.s (.s (.s .o (.s .o (.jr [w 2 vl, w 3 vi, w 4 vi, .bx 6 [vi, (.sl [.sl [.int .i64]], .pure)], a 6, w 11 vi, w 12 vi, w 19 vl, w 20 vi, w 21 vi, w 32 xl, w 33 vi, w 34 vi] (.j [w 2 vl, w 3 vi, w 4 vi, .bx 6 [vi, (.sl [.sl [.int .i64]], .pure)], a 6, w 11 vi, w 12 vi, w 14 vl, w 19 vl, w 20 vi, w 21 vi, w 32 xl, w 33 vi, w 34 vi, w 38 vi, w 39 vi] (.s .o (.s oo (.s (.s (.s .o (.s .o (.s .o (.s .o (.s oo .o))))) .o) .o))))))) .o) .o)))))))) .o) .o)))))) oo), [(32, 87), (70, 93), (77, 93)], none⟩
noncomputable def g92 : AM.Sig := ⟨92, [.val false [vl]], [(false, [vi])]⟩
noncomputable def s92 : AM.Spec := ⟨g92, Go.Proofs.Tryd.f92, .s .o (.s .o (.s (.s .o (.j [w 3 vl] (.j [w 3 vl, w 6 vl, w 7 vi, w 8 vi] (.s .o (.s oo (.s (.s oo .o) .o)))))) oo)), [(14, 69)], none⟩
noncomputable def g76 : AM.Sig := ⟨76, [.val true [vl], .val true [vi, vl, vr]], [(false, [wl])]⟩
noncomputable def s76 : AM.Spec := ⟨g76, Go.Proofs.Tryd.f76, .s .o (.s .o (.s .o (.s (.s .o (.j [b 2 vl, a 2, c 3, a 3, .bx 5 [vi, (.sl [.sl [.int .i64]], .own)], a 5, w 6 wl] (.j [b 2 vl, a 2, c 3, a 3, .bx 5 [vi, (.sl [.sl [.int .i64]], .own)], a 5, w 6 wl, w 21 vl, w 22 vi, w 23 vi] (.s .o (.s oo (.s (.s oo .o) .o)))))) (.jr [] (.j [b 2 vl, a 2, c 3, a 3, .bx 5 [vi, (.sl [.sl [.int .i64]], .own)], a 5, w 6 wl] (.s (.s .o (.s .o (.s (.s .o (.j [b 2 vl, a 2, c 3, a 3, .bx 5 [vi, (.sl [.sl [.int .i64]], .own)], a 5, w 6 wl, w 10 wl] (.j [b 2 vl, a 2, c 3, a 3, .bx 5 [vi, (.sl [.sl [.int .i64]], .own)], a 5, w 6 wl, w 9 wl, w 10 wl, w 35 vi, w 36 vi] (.s .o (.s oo (.s (.s (.s .o (.s .o (.s (.s .o (.j [b 2 vl, a 2, c 3, a 3, .bx 5 [vi, (.sl [.sl [.int .i64]], .own)], a 5, w 6 wl, w 9 wl, w 10 wl, w 11 vi, w 35 vi, w 36 vi] (.j [b 2 vl, a 2, c 3, a 3, .bx 5 [vi, (.sl [.sl [.int .i64]], .own)], a 5, w 6 wl, w 9 wl, w 10 wl, w 11 vi, w 35 vi, w 36 vi, .rf 44 (.tmp 9) 0 false 1, w 45 vi, w 46 vi] (.s .o (.s oo (.s (.s (.s .o (.s (.j [b 2 vl, a 2, c 3, a 3, .bx 5 [vi, (.sl [.sl [.int .i64]], .own)], a 5, w 6 wl, w 9 wl, w 10 wl, w 11 vi, w 12 vi, w 35 vi, w 36 vi, .rf 44 (.tmp 9) 0 false 1, w 45 vi, w 46 vi, w 67 vb] .o) (.s oo .o))) .o) .o)))))) (.s .o (.j [b 2 vl, a 2, c 3, a 3, .bx 5 [vi, (.sl [.sl [.int .i64]], .own)], a 5, w 6 wl, w 9 wl, w 10 wl, w 35 vi, w 36 vi] oo))))) .o) .o)))))) (.s (.s .o (.s oo .o)) .o)))) .o)))))), [(16, 90), (66, 91), (86, 92), (88, 92)], none⟩
noncomputable def g77 : AM.Sig := ⟨77, [.val true [vl], .val true [vi, vl, vr]], [(true, [vi, wl, wr])]⟩
noncomputable def s77 : AM.Spec := ⟨g77, Go.Proofs.Tryd.f77, .s .o (.s .o (.s .o (.s (.s .o (.j [b 2 vl, a 2, c 3, a 3, .bx 4 [vi, wl, wr], a 4, .bx 5 [vi, (.sl [.sl [.int .i64]], .own)], a 5, w 6 wl] (.j [b 2 vl, a 2, c 3, a 3, .bx 4 [vi, wl, wr], a 4, .bx 5 [vi, (.sl [.sl [.int .i64]], .own)], a 5, w 6 wl, w 33 vi, w 34 vi] (.s .o (.s oo (.s (.s oo .o) .o)))))) (.s .o (.s (.j [c 3, a 3, .bx 4 [vi, wl, wr], a 4, w 6 wl, w 8 wl] (.j [b 2 vl, a 2, c 3, a 3, .bx 4 [vi, wl, wr], a 4, .bx 5 [vi, (.sl [.sl [.int .i64]], .own)], a 5, w 6 wl, w 8 wl] (.s (.s .o (.s (.s .o (.j [b 2 vl, a 2, c 3, a 3, .bx 4 [vi, wl, wr], a 4, .bx 5 [vi, (.sl [.sl [.int .i64]], .own)], a 5, w 6 wl, w 8 wl, w 9 vi] (.j [b 2 vl, a 2, c 3, a 3, .bx 4 [vi, wl, wr], a 4, .bx 5 [vi, (.sl [.sl [.int .i64]], .own)], a 5, w 6 wl, w 8 wl, w 9 vi, w 44 vl, w 45 vi, w 46 vi] (.s .o (.s oo (.s (.s (.s .o (.s .o (.j [b 2 vl, a 2, c 3, a 3, .bx 4 [vi, wl, wr], a 4, .bx 5 [vi, (.sl [.sl [.int .i64]], .own)], a 5, w 6 wl, w 8 wl, w 9 vi, w 44 vl, w 45 vi, w 46 vi] (.j [b 2 vl, a 2, c 3, a 3, .bx 4 [vi, wl, wr], a 4, .bx 5 [vi, (.sl [.sl [.int .i64]], .own)], a 5, w 6 wl, w 8 wl, w 9 vi, w 10 vi, w 44 vl, w 45 vi, w 46 vi, w 53 xl, w 54 vi, w 55 vi] (.s .o (.s oo (.s (.s (.s .o (.s .o (.s (.s .o (.j [b 2 vl, a 2, c 3, a 3, .bx 4 [vi, wl, wr], a 4, .bx 5 [vi, (.sl [.sl [.int .i64]], .own)], a 5, w 6 wl, w 8 wl, w 9 vi, w 10 vi, w 14 wl, w 44 vl, w 45 vi, w 46 vi, w 53 xl, w 54 vi, w 55 vi] (.j [b 2 vl, a 2, c 3, a 3, .bx 4 [vi, wl, wr], a 4, .bx 5 [vi, (.sl [.sl [.int .i64]], .own)], a 5, w 6 wl, w 8 wl, w 9 vi, w 10 vi, w 14 wl, w 44 vl, w 45 vi, w 46 vi, w 53 xl, w 54 vi, w 55 vi, w 59 vl, w 60 vi, w 61 vi] (.s .o (.s oo (.s (.s oo .o) .o)))))) (.s .o (.s (.j [b 2 vl, a 2, c 3, a 3, .bx 4 [vi, wl, wr], a 4, .bx 5 [vi, (.sl [.sl [.int .i64]], .own)], a 5, w 6 wl, w 8 wl, w 9 vi, w 10 vi, w 17 vi, w 44 vl, w 45 vi, w 46 vi, w 53 xl, w 54 vi, w 55 vi, w 85 vb] .o) (.j [b 2 vl, a 2, c 3, a 3, .bx 4 [vi, wl, wr], a 4, .bx 5 [vi, (.sl [.sl [.int .i64]], .own)], a 5, w 6 wl, w 8 wl, w 9 vi, w 10 vi, w 44 vl, w 45 vi, w 46 vi, w 53 xl, w 54 vi, w 55 vi] (.s oo .o))))))) .o) .o))))))) .o) .o)))))) (.s .o oo))) .o))) (.s .o (.s (.s .o (.j [c 3, a 3, .bx 4 [vi, wl, wr], a 4, w 6 wl, .bx 18 [vi, wl, wr], a 18] (.j [c 3, a 3, .bx 4 [vi, wl, wr], a 4, w 6 wl, w 8 wl, .bx 18 [vi, wl, wr], a 18, .rf 104 (.tmp 8) 0 false 1, w 105 vi, w 106 vi] (.s .o (.s oo (.s (.s (.s .o (.s .o (.j [c 3, a 3, .bx 4 [vi, wl, wr], a 4, w 6 wl, w 8 wl, .bx 18 [vi, wl, wr], a 18, .rf 104 (.tmp 8) 0 false 1, w 105 vi, w 106 vi] oo))) .o) .o)))))) (.s (.s .o (.j [.bx 4 [vi, wl, wr], a 4, .bx 18 [vi, wl, wr], a 18] (.j [.bx 4 [vi, wl, wr], a 4, w 6 wl, .bx 18 [vi, wl, wr], a 18, w 123 vr, w 124 vi, w 125 vi] (.s .o (.s oo (.s (.s (.s .o (.s .o (.s (.s .o (.j [.bx 4 [vi, wl, wr], a 4, w 6 wl, .bx 18 [vi, wl, wr], a 18, .bx 23 [vi, wl, vi], a 23, w 123 vr, w 124 vi, w 125 vi] (.j [.bx 4 [vi, wl, wr], a 4, w 6 wl, .bx 18 [vi, wl, wr], a 18, .bx 23 [vi, wl, vi], a 23, w 123 vr, w 124 vi, w 125 vi, w 138 vl, w 139 vi, w 140 vi] (.s .o (.s oo (.s (.s oo .o) .o)))))) .o))) .o) .o)))))) (.s .o oo))))))))), [(28, 90), (53, 87), (76, 93), (114, 54), (163, 84)], none⟩
noncomputable def g59 : AM.Sig := ⟨59, [.val true [vl], .val true [vi, vl, vr]], [(true, [vi, vl, vr]), (false, [vb])]⟩
noncomputable def s59 : AM.Spec := ⟨g59, Go.Proofs.Tryd.f59, .s .o (.s .o (.s (.s (.j [b 2 vl, a 2, .bx 4 [vi, wl, wr], a 4, c 6, a 6, w 36 vb] .o) (.s oo .o)) (.s .o (.s .o (.s .o (.s (.s .o (.j [b 2 vl, a 2, .bx 4 [vi, wl, wr], a 4, .bx 6 [vi, (.sl [.int .i64], .tip), (.sl [.int .i64, .sl [.int .i64], .int .i64], .tip)], a 6, w 9 wl, .bx 10 [vi, wl, wr], a 10] (.j [b 2 vl, a 2, .bx 4 [vi, wl, wr], a 4, .bx 6 [vi, (.sl [.int .i64], .tip), (.sl [.int .i64, .sl [.int .i64], .int .i64], .tip)], a 6, w 9 wl, .bx 10 [vi, wl, wr], a 10, .rf 45 (.tmp 9) 0 false 1, w 46 vi, w 47 vi] (.s .o (.s oo (.s (.s oo .o) .o)))))) (.s (.s .o (.j [b 2 vl, a 2, .bx 4 [vi, wl, wr], a 4, .bx 6 [vi, (.sl [.int .i64], .tip), (.sl [.int .i64, .sl [.int .i64], .int .i64], .tip)], a 6, w 9 wl, .bx 10 [vi, vl, wr], a 10] (.j [b 2 vl, a 2, .bx 4 [vi, wl, wr], a 4, .bx 6 [vi, (.sl [.int .i64], .tip), (.sl [.int .i64, .sl [.int .i64], .int .i64], .tip)], a 6, w 9 wl, .bx 10 [vi, vl, wr], a 10, .rf 58 (.tmp 9) 0 false 1, w 59 vi, w 60 vi] (.s .o (.s oo (.s (.s (.s .o (.s .o (.j [b 2 vl, a 2, .bx 4 [vi, wl, wr], a 4, .bx 6 [vi, (.sl [.int .i64], .tip), (.sl [.int .i64, .sl [.int .i64], .int .i64], .tip)], a 6, w 9 wl, .bx 10 [vi, vl, wr], a 10, .rf 58 (.tmp 9) 0 false 1, w 59 vi, w 60 vi] oo))) .o) .o)))))) (.s (.s .o (.j [b 2 vl, a 2, .bx 4 [vi, wl, wr], a 4, .bx 10 [vi, vl, wr], a 10] (.j [b 2 vl, a 2, .bx 4 [vi, wl, wr], a 4, .bx 6 [vi, (.sl [.int .i64], .tip), (.sl [.int .i64, .sl [.int .i64], .int .i64], .tip)], w 9 wl, .bx 10 [vi, vl, wr], a 10, .rf 76 (.box 6) 2 false 1, w 77 vi, w 78 vi] (.s .o (.s oo (.s (.s (.s .o (.s .o (.s (.s .o (.j [b 2 vl, a 2, .bx 4 [vi, wl, wr], a 4, .bx 6 [vi, (.sl [.int .i64], .tip), (.sl [.int .i64, .sl [.int .i64], .int .i64], .tip)], w 9 wl, .bx 10 [vi, vl, wr], a 10, .bx 17 [vi, wl, vi], a 17, .rf 76 (.box 6) 2 false 1, w 77 vi, w 78 vi] (.j [b 2 vl, a 2, .bx 4 [vi, wl, wr], a 4, .bx 6 [vi, (.sl [.int .i64], .tip), (.sl [.int .i64, .sl [.int .i64], .int .i64], .tip)], w 9 wl, .bx 10 [vi, vl, wr], a 10, .bx 17 [vi, wl, vi], a 17, .rf 76 (.box 6) 2 false 1, w 77 vi, w 78 vi, w 91 vl, w 92 vi, w 93 vi] (.s .o (.s oo (.s (.s oo .o) .o)))))) .o))) .o) .o)))))) oo)))))))), [(23, 57), (24, 73), (35, 74), (40, 75), (43, 76), (68, 54), (72, 69), (116, 57), (117, 77)], none⟩
noncomputable def g60 : AM.Sig := ⟨60, [.val true [vi, vl, vr], .val true [vi, vl, vr]], [(false, [vb])]⟩
noncomputable def s60 : AM.Spec := ⟨g60, Go.Proofs.Tryd.f60, .s .o (.s (.s (.j [c 2, a 2, c 3, a 3, w 28 vb] .o) (.s oo .o)) (.s (.s .o (.jr [] (.j [c 3, a 3, w 30 vr, w 31 vi, w 32 vi] (.s .o (.s oo (.s (.s (.s .o (.s (.j [c 3, a 3, w 30 vr, w 31 vi, w 32 vi, w 68 vb] .o) (.s oo .o))) .o) .o)))))) oo)), [(17, 49), (66, 49)], none⟩
noncomputable def g45 : AM.Sig := ⟨45, [.val true [vl], .val true [vi, vl, vr], .val true [vi, vl, vr]], [(false, [vb]), (false, [vb])]⟩
noncomputable def s45 : AM.Spec := ⟨g45, Go.Proofs.Tryd.f45, .s .o (.s .o (.s .o (.s (.j [w 6 vb, w 7 vb] .o) .o))), [(14, 59), (20, 59), (30, 60)], none⟩
noncomputable def g17 : AM.Sig := ⟨17, [.val true [vl], .val true [vi, vl, vr], .val true [vi, vl, vr]], [(false, [vb])]⟩
noncomputable def s17 : AM.Spec := ⟨g17, Go.Proofs.Tryd.f17, .s .o (.s (.s .o (.s oo .o)) (.s .o (.s (.j [w 6 vb] .o) .o))), [(13, 44), (19, 45)], none⟩
noncomputable def g7 : AM.Sig := ⟨7, [.val true [vl], .val true [vl], .val false [vl], .val true [vi, vl, vr], .val true [vi, vk]], [(false, [vb])]⟩
noncomputable def s7 : AM.Spec := ⟨g7, Go.Proofs.Tryd.f7, .s .o (.s (.s (.j [w 2 vl, b 5 vl, a 5, b 6 vl, a 6, c 8, a 8, .bx 9 [vi, vk], a 9, w 30 vb] .o) (.s oo .o)) (.s .o (.s (.s (.j [w 2 vl, b 5 vl, a 5, b 6 vl, a 6, c 8, a 8, .bx 9 [vi, vk], a 9, c 11, a 11, w 12 vi, w 49 vb] .o) (.s (.s (.j [w 10 vb] .o) .o) .o)) (.s (.s .o (.s .o (.s (.s (.j [w 10 vb] .o) .o) .o))) (.s (.s (.j [w 2 vl, b 5 vl, a 5, b 6 vl, a 6, c 8, a 8, .bx 9 [vi, vk], a 9, c 11, a 11, w 75 vb] .o) (.s oo .o)) (.s (.s (.j [w 2 vl, b 6 vl, a 6, c 8, a 8, c 11, a 11, w 91 vb] .o) (.s oo .o)) (.s (.j [w 10 vb] .o) .o))))))), [(18, 8), (31, 9), (37, 26), (43, 11), (47, 21), (53, 9), (58, 22), (65, 9), (73, 11), (78, 12), (82, 16), (88, 24), (89, 16), (96, 27), (97, 17), (99, 9)], none⟩
noncomputable def specTab : List (Nat × AM.Spec) := [(28, s28), (51, s51), (29, s29), (8, s8), (30, s30), (62, s62), (1001, s1001), (1000, s1000), (47, s47), (52, s52), (34, s34), (37, s37), (35, s35), (36, s36), (68, s68), (53, s53), (38, s38), (10, s10), (32, s32), (31, s31), (21, s21), (33, s33), (54, s54), (69, s69), (55, s55), (43, s43), (42, s42), (16, s16), (9, s9), (48, s48), (103, s103), (80, s80), (104, s104), (82, s82), (83, s83), (81, s81), (64, s64), (1004, s1004), (1006, s1006), (1005, s1005), (109, s109), (110, s110), (1007, s1007), (1011, s1011), (1010, s1010), (1009, s1009), (1008, s1008), (1012, s1012), (1013, s1013), (1014, s1014), (1015, s1015), (1003, s1003), (1002, s1002), (66, s66), (1016, s1016), (50, s50), (26, s26), (11, s11), (22, s22), (39, s39), (12, s12), (24, s24), (27, s27), (85, s85), (72, s72), (106, s106), (105, s105), (84, s84), (71, s71), (57, s57), (70, s70), (56, s56), (49, s49), (23, s23), (58, s58), (44, s44), (87, s87), (88, s88), (89, s89), (86, s86), (73, s73), (74, s74), (75, s75), (107, s107), (90, s90), (93, s93), (91, s91), (92, s92), (76, s76), (77, s77), (59, s59), (60, s60), (45, s45), (17, s17), (7, s7)]
noncomputable def globAt (g : Nat) : Option (List CV) := bif Nat.beq g 0 then some [⟨.sl [.int .i64], .pure, ([0, 2] : List Int)⟩] else none
noncomputable def prg : AM.Prg := ⟨tabAt tyTab, globAt, orAt s28 specTab⟩
noncomputable def envX (i : Nat) : Env := prg.env i fun _ _ => none
theorem fn28 : FnOk Go.Proofs.Tryd.prog s28 := ⟨Go.Proofs.Tryd.func28, by kernel_rfl, by kernel_rfl⟩
theorem fn51 : FnOk Go.Proofs.Tryd.prog s51 := ⟨Go.Proofs.Tryd.func51, by kernel_rfl, by kernel_rfl⟩
theorem fn29 : FnOk Go.Proofs.Tryd.prog s29 := ⟨Go.Proofs.Tryd.func29, by kernel_rfl, by kernel_rfl⟩
theorem fn8 : FnOk Go.Proofs.Tryd.prog s8 := ⟨Go.Proofs.Tryd.func8, by kernel_rfl, by kernel_rfl⟩
theorem fn30 : FnOk Go.Proofs.Tryd.prog s30 := ⟨Go.Proofs.Tryd.func30, by kernel_rfl, by kernel_rfl⟩
theorem fn62 : FnOk Go.Proofs.Tryd.prog s62 := ⟨Go.Proofs.Tryd.func62, by kernel_rfl, by kernel_rfl⟩
theorem fn1001 : FnOk Go.Proofs.Tryd.prog s1001 := ⟨Go.Proofs.Tryd.func78, by kernel_rfl, by kernel_rfl⟩
theorem fn1000 : FnOk Go.Proofs.Tryd.prog s1000 := ⟨Go.Proofs.Tryd.func61, by kernel_rfl, by kernel_rfl⟩
theorem fn47 : FnOk Go.Proofs.Tryd.prog s47 := ⟨Go.Proofs.Tryd.func47, by kernel_rfl, by kernel_rfl⟩
theorem fn52 : FnOk Go.Proofs.Tryd.prog s52 := ⟨Go.Proofs.Tryd.func52, by kernel_rfl, by kernel_rfl⟩
theorem fn34 : FnOk Go.Proofs.Tryd.prog s34 := ⟨Go.Proofs.Tryd.func34, by kernel_rfl, by kernel_rfl⟩
theorem fn37 : FnOk Go.Proofs.Tryd.prog s37 := ⟨Go.Proofs.Tryd.func37, by kernel_rfl, by kernel_rfl⟩
theorem fn35 : FnOk Go.Proofs.Tryd.prog s35 := ⟨Go.Proofs.Tryd.func35, by kernel_rfl, by kernel_rfl⟩
theorem fn36 : FnOk Go.Proofs.Tryd.prog s36 := ⟨Go.Proofs.Tryd.func36, by kernel_rfl, by kernel_rfl⟩
theorem fn68 : FnOk Go.Proofs.Tryd.prog s68 := ⟨Go.Proofs.Tryd.func68, by kernel_rfl, by kernel_rfl⟩
theorem fn53 : FnOk Go.Proofs.Tryd.prog s53 := ⟨Go.Proofs.Tryd.func53, by kernel_rfl, by kernel_rfl⟩
theorem fn38 : FnOk Go.Proofs.Tryd.prog s38 := ⟨Go.Proofs.Tryd.func38, by kernel_rfl, by kernel_rfl⟩
theorem fn10 : FnOk Go.Proofs.Tryd.prog s10 := ⟨Go.Proofs.Tryd.func10, by kernel_rfl, by kernel_rfl⟩
theorem fn32 : FnOk Go.Proofs.Tryd.prog s32 := ⟨Go.Proofs.Tryd.func32, by kernel_rfl, by kernel_rfl⟩
theorem fn31 : FnOk Go.Proofs.Tryd.prog s31 := ⟨Go.Proofs.Tryd.func31, by kernel_rfl, by kernel_rfl⟩
theorem fn21 : FnOk Go.Proofs.Tryd.prog s21 := ⟨Go.Proofs.Tryd.func21, by kernel_rfl, by kernel_rfl⟩
theorem fn33 : FnOk Go.Proofs.Tryd.prog s33 := ⟨Go.Proofs.Tryd.func33, by kernel_rfl, by kernel_rfl⟩
theorem fn54 : FnOk Go.Proofs.Tryd.prog s54 := ⟨Go.Proofs.Tryd.func54, by kernel_rfl, by kernel_rfl⟩
theorem fn69 : FnOk Go.Proofs.Tryd.prog s69 := ⟨Go.Proofs.Tryd.func69, by kernel_rfl, by kernel_rfl⟩
theorem fn55 : FnOk Go.Proofs.Tryd.prog s55 := ⟨Go.Proofs.Tryd.func55, by kernel_rfl, by kernel_rfl⟩
theorem fn43 : FnOk Go.Proofs.Tryd.prog s43 := ⟨Go.Proofs.Tryd.func43, by kernel_rfl, by kernel_rfl⟩
theorem fn42 : FnOk Go.Proofs.Tryd.prog s42 := ⟨Go.Proofs.Tryd.func42, by kernel_rfl, by kernel_rfl⟩
theorem fn16 : FnOk Go.Proofs.Tryd.prog s16 := ⟨Go.Proofs.Tryd.func16, by kernel_rfl, by kernel_rfl⟩
theorem fn9 : FnOk Go.Proofs.Tryd.prog s9 := ⟨Go.Proofs.Tryd.func9, by kernel_rfl, by kernel_rfl⟩
theorem fn48 : FnOk Go.Proofs.Tryd.prog s48 := ⟨Go.Proofs.Tryd.func48, by kernel_rfl, by kernel_rfl⟩
theorem fn103 : FnOk Go.Proofs.Tryd.prog s103 := ⟨Go.Proofs.Tryd.func103, by kernel_rfl, by kernel_rfl⟩
theorem fn80 : FnOk Go.Proofs.Tryd.prog s80 := ⟨Go.Proofs.Tryd.func80, by kernel_rfl, by kernel_rfl⟩
theorem fn104 : FnOk Go.Proofs.Tryd.prog s104 := ⟨Go.Proofs.Tryd.func104, by kernel_rfl, by kernel_rfl⟩
theorem fn82 : FnOk Go.Proofs.Tryd.prog s82 := ⟨Go.Proofs.Tryd.func82, by kernel_rfl, by kernel_rfl⟩
theorem fn83 : FnOk Go.Proofs.Tryd.prog s83 := ⟨Go.Proofs.Tryd.func83, by kernel_rfl, by kernel_rfl⟩
theorem fn81 : FnOk Go.Proofs.Tryd.prog s81 := ⟨Go.Proofs.Tryd.func81, by kernel_rfl, by kernel_rfl⟩
theorem fn64 : FnOk Go.Proofs.Tryd.prog s64 := ⟨Go.Proofs.Tryd.func64, by kernel_rfl, by kernel_rfl⟩
theorem fn1004 : FnOk Go.Proofs.Tryd.prog s1004 := ⟨Go.Proofs.Tryd.func94, by kernel_rfl, by kernel_rfl⟩
theorem fn1006 : FnOk Go.Proofs.Tryd.prog s1006 := ⟨Go.Proofs.Tryd.func108, by kernel_rfl, by kernel_rfl⟩
theorem fn1005 : FnOk Go.Proofs.Tryd.prog s1005 := ⟨Go.Proofs.Tryd.func95, by kernel_rfl, by kernel_rfl⟩
theorem fn109 : FnOk Go.Proofs.Tryd.prog s109 := ⟨Go.Proofs.Tryd.func109, by kernel_rfl, by kernel_rfl⟩
theorem fn110 : FnOk Go.Proofs.Tryd.prog s110 := ⟨Go.Proofs.Tryd.func110, by kernel_rfl, by kernel_rfl⟩
theorem fn1007 : FnOk Go.Proofs.Tryd.prog s1007 := ⟨Go.Proofs.Tryd.func96, by kernel_rfl, by kernel_rfl⟩
theorem fn1011 : FnOk Go.Proofs.Tryd.prog s1011 := ⟨Go.Proofs.Tryd.func113, by kernel_rfl, by kernel_rfl⟩
theorem fn1010 : FnOk Go.Proofs.Tryd.prog s1010 := ⟨Go.Proofs.Tryd.func112, by kernel_rfl, by kernel_rfl⟩
theorem fn1009 : FnOk Go.Proofs.Tryd.prog s1009 := ⟨Go.Proofs.Tryd.func111, by kernel_rfl, by kernel_rfl⟩
theorem fn1008 : FnOk Go.Proofs.Tryd.prog s1008 := ⟨Go.Proofs.Tryd.func97, by kernel_rfl, by kernel_rfl⟩
theorem fn1012 : FnOk Go.Proofs.Tryd.prog s1012 := ⟨Go.Proofs.Tryd.func98, by kernel_rfl, by kernel_rfl⟩
theorem fn1013 : FnOk Go.Proofs.Tryd.prog s1013 := ⟨Go.Proofs.Tryd.func99, by kernel_rfl, by kernel_rfl⟩
theorem fn1014 : FnOk Go.Proofs.Tryd.prog s1014 := ⟨Go.Proofs.Tryd.func100, by kernel_rfl, by kernel_rfl⟩
theorem fn1015 : FnOk Go.Proofs.Tryd.prog s1015 := ⟨Go.Proofs.Tryd.func101, by kernel_rfl, by kernel_rfl⟩
theorem fn1003 : FnOk Go.Proofs.Tryd.prog s1003 := ⟨Go.Proofs.Tryd.func79, by kernel_rfl, by kernel_rfl⟩
theorem fn1002 : FnOk Go.Proofs.Tryd.prog s1002 := ⟨Go.Proofs.Tryd.func63, by kernel_rfl, by kernel_rfl⟩
theorem fn66 : FnOk Go.Proofs.Tryd.prog s66 := ⟨Go.Proofs.Tryd.func66, by kernel_rfl, by kernel_rfl⟩
theorem fn1016 : FnOk Go.Proofs.Tryd.prog s1016 := ⟨Go.Proofs.Tryd.func65, by kernel_rfl, by kernel_rfl⟩
theorem fn50 : FnOk Go.Proofs.Tryd.prog s50 := ⟨Go.Proofs.Tryd.func50, by kernel_rfl, by kernel_rfl⟩
theorem fn26 : FnOk Go.Proofs.Tryd.prog s26 := ⟨Go.Proofs.Tryd.func26, by kernel_rfl, by kernel_rfl⟩
theorem fn11 : FnOk Go.Proofs.Tryd.prog s11 := ⟨Go.Proofs.Tryd.func11, by kernel_rfl, by kernel_rfl⟩
theorem fn22 : FnOk Go.Proofs.Tryd.prog s22 := ⟨Go.Proofs.Tryd.func22, by kernel_rfl, by kernel_rfl⟩
theorem fn39 : FnOk Go.Proofs.Tryd.prog s39 := ⟨Go.Proofs.Tryd.func39, by kernel_rfl, by kernel_rfl⟩
theorem fn12 : FnOk Go.Proofs.Tryd.prog s12 := ⟨Go.Proofs.Tryd.func12, by kernel_rfl, by kernel_rfl⟩
theorem fn24 : FnOk Go.Proofs.Tryd.prog s24 := ⟨Go.Proofs.Tryd.func24, by kernel_rfl, by kernel_rfl⟩
theorem fn27 : FnOk Go.Proofs.Tryd.prog s27 := ⟨Go.Proofs.Tryd.func27, by kernel_rfl, by kernel_rfl⟩
theorem fn85 : FnOk Go.Proofs.Tryd.prog s85 := ⟨Go.Proofs.Tryd.func85, by kernel_rfl, by kernel_rfl⟩
theorem fn72 : FnOk Go.Proofs.Tryd.prog s72 := ⟨Go.Proofs.Tryd.func72, by kernel_rfl, by kernel_rfl⟩
theorem fn106 : FnOk Go.Proofs.Tryd.prog s106 := ⟨Go.Proofs.Tryd.func106, by kernel_rfl, by kernel_rfl⟩
theorem fn105 : FnOk Go.Proofs.Tryd.prog s105 := ⟨Go.Proofs.Tryd.func105, by kernel_rfl, by kernel_rfl⟩
theorem fn84 : FnOk Go.Proofs.Tryd.prog s84 := ⟨Go.Proofs.Tryd.func84, by kernel_rfl, by kernel_rfl⟩
theorem fn71 : FnOk Go.Proofs.Tryd.prog s71 := ⟨Go.Proofs.Tryd.func71, by kernel_rfl, by kernel_rfl⟩
theorem fn57 : FnOk Go.Proofs.Tryd.prog s57 := ⟨Go.Proofs.Tryd.func57, by kernel_rfl, by kernel_rfl⟩
theorem fn70 : FnOk Go.Proofs.Tryd.prog s70 := ⟨Go.Proofs.Tryd.func70, by kernel_rfl, by kernel_rfl⟩
theorem fn56 : FnOk Go.Proofs.Tryd.prog s56 := ⟨Go.Proofs.Tryd.func56, by kernel_rfl, by kernel_rfl⟩
theorem fn49 : FnOk Go.Proofs.Tryd.prog s49 := ⟨Go.Proofs.Tryd.func49, by kernel_rfl, by kernel_rfl⟩
theorem fn23 : FnOk Go.Proofs.Tryd.prog s23 := ⟨Go.Proofs.Tryd.func23, by kernel_rfl, by kernel_rfl⟩
theorem fn58 : FnOk Go.Proofs.Tryd.prog s58 := ⟨Go.Proofs.Tryd.func58, by kernel_rfl, by kernel_rfl⟩
theorem fn44 : FnOk Go.Proofs.Tryd.prog s44 := ⟨Go.Proofs.Tryd.func44, by kernel_rfl, by kernel_rfl⟩
theorem fn87 : FnOk Go.Proofs.Tryd.prog s87 := ⟨Go.Proofs.Tryd.func87, by kernel_rfl, by kernel_rfl⟩
theorem fn88 : FnOk Go.Proofs.Tryd.prog s88 := ⟨Go.Proofs.Tryd.func88, by kernel_rfl, by kernel_rfl⟩
theorem fn89 : FnOk Go.Proofs.Tryd.prog s89 := ⟨Go.Proofs.Tryd.func89, by kernel_rfl, by kernel_rfl⟩
theorem fn86 : FnOk Go.Proofs.Tryd.prog s86 := ⟨Go.Proofs.Tryd.func86, by kernel_rfl, by kernel_rfl⟩
theorem fn73 : FnOk Go.Proofs.Tryd.prog s73 := ⟨Go.Proofs.Tryd.func73, by kernel_rfl, by kernel_rfl⟩
theorem fn74 : FnOk Go.Proofs.Tryd.prog s74 := ⟨Go.Proofs.Tryd.func74, by kernel_rfl, by kernel_rfl⟩
theorem fn75 : FnOk Go.Proofs.Tryd.prog s75 := ⟨Go.Proofs.Tryd.func75, by kernel_rfl, by kernel_rfl⟩
theorem fn107 : FnOk Go.Proofs.Tryd.prog s107 := ⟨Go.Proofs.Tryd.func107, by kernel_rfl, by kernel_rfl⟩
theorem fn90 : FnOk Go.Proofs.Tryd.prog s90 := ⟨Go.Proofs.Tryd.func90, by kernel_rfl, by kernel_rfl⟩
theorem fn93 : FnOk Go.Proofs.Tryd.prog s93 := ⟨Go.Proofs.Tryd.func93, by kernel_rfl, by kernel_rfl⟩
theorem fn91 : FnOk Go.Proofs.Tryd.prog s91 := ⟨Go.Proofs.Tryd.func91, by kernel_rfl, by kernel_rfl⟩
theorem fn92 : FnOk Go.Proofs.Tryd.prog s92 := ⟨Go.Proofs.Tryd.func92, by kernel_rfl, by kernel_rfl⟩
theorem fn76 : FnOk Go.Proofs.Tryd.prog s76 := ⟨Go.Proofs.Tryd.func76, by kernel_rfl, by kernel_rfl⟩
theorem fn77 : FnOk Go.Proofs.Tryd.prog s77 := ⟨Go.Proofs.Tryd.func77, by kernel_rfl, by kernel_rfl⟩
theorem fn59 : FnOk Go.Proofs.Tryd.prog s59 := ⟨Go.Proofs.Tryd.func59, by kernel_rfl, by kernel_rfl⟩
theorem fn60 : FnOk Go.Proofs.Tryd.prog s60 := ⟨Go.Proofs.Tryd.func60, by kernel_rfl, by kernel_rfl⟩
theorem fn45 : FnOk Go.Proofs.Tryd.prog s45 := ⟨Go.Proofs.Tryd.func45, by kernel_rfl, by kernel_rfl⟩
theorem fn17 : FnOk Go.Proofs.Tryd.prog s17 := ⟨Go.Proofs.Tryd.func17, by kernel_rfl, by kernel_rfl⟩
theorem fn7 : FnOk Go.Proofs.Tryd.prog s7 := ⟨Go.Proofs.Tryd.func7, by kernel_rfl, by kernel_rfl⟩
theorem fnAll : ∀ i, FnOk Go.Proofs.Tryd.prog (prg.spec i) := orAt_all fn28 specTab (by
 intro x hx
 simp only [specTab, List.mem_cons, List.not_mem_nil, or_false] at hx
 rcases hx with rfl | rfl | rfl | rfl | rfl | rfl | rfl | rfl | rfl | rfl | rfl | rfl | rfl | rfl | rfl | rfl | rfl | rfl | rfl | rfl | rfl | rfl | rfl | rfl | rfl | rfl | rfl | rfl | rfl | rfl | rfl | rfl | rfl | rfl | rfl | rfl | rfl | rfl | rfl | rfl | rfl | rfl | rfl | rfl | rfl | rfl | rfl | rfl | rfl | rfl | rfl | rfl | rfl | rfl | rfl | rfl | rfl | rfl | rfl | rfl | rfl | rfl | rfl | rfl | rfl | rfl | rfl | rfl | rfl | rfl | rfl | rfl | rfl | rfl | rfl | rfl | rfl | rfl | rfl | rfl | rfl | rfl | rfl | rfl | rfl | rfl | rfl | rfl | rfl | rfl | rfl | rfl | rfl | rfl | rfl
 ·exact fn28
 ·exact fn51
 ·exact fn29
 ·exact fn8
 ·exact fn30
 ·exact fn62
 ·exact fn1001
 ·exact fn1000
 ·exact fn47
 ·exact fn52
 ·exact fn34
 ·exact fn37
 ·exact fn35
 ·exact fn36
 ·exact fn68
 ·exact fn53
 ·exact fn38
 ·exact fn10
 ·exact fn32
 ·exact fn31
 ·exact fn21
 ·exact fn33
 ·exact fn54
 ·exact fn69
 ·exact fn55
 ·exact fn43
 ·exact fn42
 ·exact fn16
 ·exact fn9
 ·exact fn48
 ·exact fn103
 ·exact fn80
 ·exact fn104
 ·exact fn82
 ·exact fn83
 ·exact fn81
 ·exact fn64
 ·exact fn1004
 ·exact fn1006
 ·exact fn1005
 ·exact fn109
 ·exact fn110
 ·exact fn1007
 ·exact fn1011
 ·exact fn1010
 ·exact fn1009
 ·exact fn1008
 ·exact fn1012
 ·exact fn1013
 ·exact fn1014
 ·exact fn1015
 ·exact fn1003
 ·exact fn1002
 ·exact fn66
 ·exact fn1016
 ·exact fn50
 ·exact fn26
 ·exact fn11
 ·exact fn22
 ·exact fn39
 ·exact fn12
 ·exact fn24
 ·exact fn27
 ·exact fn85
 ·exact fn72
 ·exact fn106
 ·exact fn105
 ·exact fn84
 ·exact fn71
 ·exact fn57
 ·exact fn70
 ·exact fn56
 ·exact fn49
 ·exact fn23
 ·exact fn58
 ·exact fn44
 ·exact fn87
 ·exact fn88
 ·exact fn89
 ·exact fn86
 ·exact fn73
 ·exact fn74
 ·exact fn75
 ·exact fn107
 ·exact fn90
 ·exact fn93
 ·exact fn91
 ·exact fn92
 ·exact fn76
 ·exact fn77
 ·exact fn59
 ·exact fn60
 ·exact fn45
 ·exact fn17
 ·exact fn7)
theorem tyOk : TyOk Go.Proofs.Tryd.prog prg.ty := tyOk_of (by kernel_rfl)
theorem rdOk : RdOk Go.Proofs.Tryd.prog prg.ty := rdOk_of (by kernel_rfl)
theorem mixed : Go.Proofs.Tryd.prog.follows .mixedOrders = true := by kernel_rfl
theorem envX_ok (i : Nat) : EnvOk Go.Proofs.Tryd.prog (envX i) := ⟨tyOk, fun _ x r h => by cases h⟩
end Go.Proofs.YtgkobbodicfofaaDoor.Am
end
