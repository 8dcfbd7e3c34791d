import Derived.Test.YtdchbjmbgecejaaGreatDoorMd
import Derived.Test.YtdchbjmbgecejaaGreatDoorProg
import Derived.Test.YtdchbjmbgecejaaGreatDoorMk
import Derived.KernelRfl
set_option linter.unusedVariables false
noncomputable section
namespace Go.Proofs.YtdchbjmbgecejaaGreatDoor.Am
open Go Go.AM Go.Bk
noncomputable def IJ (x:List Int):Option (List Int):=bif decide (List.length x<=au)then some x else none
noncomputable def yM (x:List Int):Option (List Int×List Int):=bif decide (List.length x<=au)then some (x,x)else none
noncomputable def pU (x:List Int×Int×Int):Option (List Int):=bif decide (x.2.2=10)&&decide (0<=x.2.1)&&decide (x.2.1<18446744073709551616)&&decide (List.length x.1<=2000000000)then some (x.1++BI 20 x.2.1.toNat)else none
noncomputable def U5 (x:List Int):Option (List Int):=bif decide (List.length x<=au)then some (Es (λ a b=>decide (a<=b)) x)else none
noncomputable def zl (x:List (Int×Int)):Option (List (Int×Int)):=
 bif decide (List.length x<=au)&&x.all (λ p=>decide (0<=p.1)&&decide (p.1<=1000000000000)&&x.all λ q=> !decide (p.1=q.1)||decide (p.2=q.2))then some (Es (λ p q=>decide (p.1<=q.1)) x)else none
noncomputable def vY (x:List (Int×List Int×Int)):Option (List (Int×List Int×Int)):=bif decide (List.length x<=au)&&x.all (λ p=>decide (List.length p.2.1<=1000))then some (Es (λ p q=>decide (xK p q<=0)) x)else none
end Go.Proofs.YtdchbjmbgecejaaGreatDoor.Am
end
noncomputable section
namespace Go.Proofs.YtdchbjmbgecejaaGreatDoor.Am
open Go Go.AM
set_option maxRecDepth 100000
abbrev vi:Sh×Tg:=(.int .i64,.pure)
abbrev vl:Sh×Tg:=(.sl [.int .i64],.pure)
abbrev vr:Sh×Tg:=(.sl [.int .i64,.sl [.int .i64],.int .i64],.pure)
abbrev vb:Sh×Tg:=(.bool,.pure)
abbrev wl:Sh×Tg:=(.sl [.int .i64],.own)
abbrev wr:Sh×Tg:=(.sl [.int .i64,.sl [.int .i64],.int .i64],.own)
abbrev vk:Sh×Tg:=(.rsl [.int .i64],.pure)
abbrev xb:Sh×Tg:=(.sl [.bool],.own)
abbrev xl:Sh×Tg:=(.sl [.sl [.int .i64]],.own)
abbrev vu:Sh×Tg:=(.int .u64,.pure)
abbrev w (n:Nat) (v:Sh×Tg):JE:= .tm n false [v]
abbrev b (n:Nat) (v:Sh×Tg):JE:= .bx n [v]
abbrev c (n:Nat):JE:= .bx n [vi,vl,vr]
abbrev a (n:Nat):JE:= .adr n (.box n) 0
abbrev oo:H:= .s .o .o
noncomputable def ahe:List (Nat×TyI):=[(2,⟨false,[.int .i64],[],[],none⟩),
 (3,⟨false,[.int .i64],[],[],none⟩),
 (4,⟨false,[.bool],[],[],none⟩),
 (5,⟨false,[.int .u8],[],[],none⟩),
 (6,⟨false,[.int .u8],[],[],none⟩),
 (7,⟨true,[.int .i64,.int .i64,.bool,.int .u8],[(0,1),(1,1),(2,1),(3,1)],[2,3,4,6],none⟩),
 (8,⟨true,[.int .i64,.int .i64,.bool,.int .u8],[(0,1),(1,1),(2,1),(3,1)],[2,3,4,6],none⟩),
 (9,⟨false,[.str],[],[],none⟩),
 (10,⟨false,[.str],[],[],none⟩),
 (11,⟨false,[.str],[],[],none⟩),
 (12,⟨false,[.int .u64],[],[],none⟩),
 (13,⟨true,[.str,.int .u64],[(0,1),(1,1)],[9,12],none⟩),
 (14,⟨true,[.str,.int .u64],[(0,1),(1,1)],[9,12],none⟩),
 (21,⟨false,[.int .i32],[],[],none⟩),
 (22,⟨false,[.sl [.int .i64]],[],[],(some 3)⟩),
 (23,⟨true,[.sl [.int .i64]],[(0,1)],[22],none⟩),
 (24,⟨true,[.sl [.int .i64]],[(0,1)],[22],none⟩),
 (25,⟨false,[.sl [.int .i64,.sl [.int .i64],.int .i64]],[],[],(some 69)⟩),
 (26,⟨true,[.int .i64,.sl [.int .i64],.sl [.int .i64,.sl [.int .i64],.int .i64]],[(0,1),(1,1),(2,1)],[3,22,25],none⟩),
 (27,⟨true,[.int .i64,.sl [.int .i64],.sl [.int .i64,.sl [.int .i64],.int .i64]],[(0,1),(1,1),(2,1)],[3,22,25],none⟩),
 (31,⟨false,[.int .i64],[],[],none⟩),
 (42,⟨false,[.rsl [.int .i64]],[],[],(some 44)⟩),
 (43,⟨true,[.int .i64,.rsl [.int .i64]],[(0,1),(1,1)],[3,42],none⟩),
 (44,⟨true,[.int .i64,.rsl [.int .i64]],[(0,1),(1,1)],[3,42],none⟩),
 (66,⟨false,[.sl [.int .i64,.sl [.int .i64],.sl [.int .i64,.sl [.int .i64],.int .i64]]],[],[],(some 27)⟩),
 (68,⟨true,[.int .i64,.sl [.int .i64],.int .i64],[(0,1),(1,1),(2,1)],[3,22,3],none⟩),
 (69,⟨true,[.int .i64,.sl [.int .i64],.int .i64],[(0,1),(1,1),(2,1)],[3,22,3],none⟩),
 (81,⟨false,[.sl [.bool]],[],[],(some 4)⟩),
 (89,⟨false,[.sl [.sl [.int .i64]]],[],[],(some 22)⟩),
 (107,⟨false,[.sl [.sl [.int .i64,.int .i64]]],[],[],(some 112)⟩),
 (109,⟨false,[.sl [.str]],[],[],(some 9)⟩),
 (110,⟨false,[.sl [.int .u8]],[],[],(some 5)⟩),
 (112,⟨false,[.sl [.int .i64,.int .i64]],[],[],(some 114)⟩),
 (113,⟨true,[.int .i64,.int .i64],[(0,1),(1,1)],[3,3],none⟩),
 (114,⟨true,[.int .i64,.int .i64],[(0,1),(1,1)],[3,3],none⟩),
 (128,⟨false,[.sl [.sl [.bool]]],[],[],(some 81)⟩),
 (132,⟨false,[.int .u64],[],[],none⟩),
 (134,⟨false,[.mp .str .bool],[],[9,4],none⟩),
 (137,⟨false,[.mp .str (.int .i64)],[],[9,3],none⟩),
 (138,⟨false,[.sl [.sl [.int .u64]]],[],[],(some 143)⟩),
 (139,⟨true,[.int .i64,.sl [.int .i64],.sl [.int .i64,.sl [.int .i64],.int .i64],.sl [.sl [.int .i64]],.sl [.sl [.int .u64]],.mp .str (.int .i64),.sl [.int .i64,.sl [.int .i64],.int .i64],.int .i64,.int .i64,.bool],[(0,3),(3,1),(4,1),(5,1),(6,1),(7,1),(8,1),(9,1)],[27,89,138,137,25,3,3,4],none⟩),
 (140,⟨true,[.int .i64,.sl [.int .i64],.sl [.int .i64,.sl [.int .i64],.int .i64],.sl [.sl [.int .i64]],.sl [.sl [.int .u64]],.mp .str (.int .i64),.sl [.int .i64,.sl [.int .i64],.int .i64],.int .i64,.int .i64,.bool],[(0,3),(3,1),(4,1),(5,1),(6,1),(7,1),(8,1),(9,1)],[27,89,138,137,25,3,3,4],none⟩),
 (142,⟨false,[.sl [.int .u64]],[],[],(some 180)⟩),
 (143,⟨false,[.sl [.int .u64]],[],[],(some 180)⟩),
 (146,⟨false,[.mp (.int .i64) .bool],[],[3,4],none⟩),
 (147,⟨true,[.sl [.int .i64],.mp (.int .i64) .bool],[(0,1),(1,1)],[22,146],none⟩),
 (148,⟨true,[.sl [.int .i64],.mp (.int .i64) .bool],[(0,1),(1,1)],[22,146],none⟩),
 (150,⟨false,[.mp .bool (.int .i64)],[],[4,3],none⟩),
 (160,⟨true,[.int .i64,.sl [.sl [.int .i64]]],[(0,1),(1,1)],[3,89],none⟩),
 (161,⟨true,[.int .i64,.sl [.sl [.int .i64]]],[(0,1),(1,1)],[3,89],none⟩),
 (170,⟨false,[.int .i64],[],[],none⟩),
 (178,⟨false,[.int .u32],[],[],none⟩),
 (180,⟨false,[.int .u64],[],[],none⟩),
 (198,⟨false,[.int .u64],[],[],none⟩),
 (236,⟨false,[.int .u8],[],[],none⟩),
 (237,⟨false,[.int .u8],[],[],none⟩),
 (240,⟨false,[.int .i32],[],[],none⟩),
 (241,⟨false,[.int .i32],[],[],none⟩)]
noncomputable def g43:AM.Sig:=⟨43,[.val true [vl],.val false [vi],.val false [vi],.val false [(.sl [.int .i64,.sl [.int .i64],.sl [.int .i64,.sl [.int .i64],.int .i64]],.pure)]],[(false,[vb])]⟩
noncomputable def s43:AM.Spec:=⟨g43,Go.Proofs.Tryz.f43,.s .o (.s (.s .o (.jr [b 4 vl,a 4] (.j [w 1 vi,w 2 vi,b 4 vl,a 4,.tm 13 false [(.sl [.int .i64,.sl [.int .i64],.sl [.int .i64,.sl [.int .i64],.int .i64]],.pure)],w 14 vi,w 15 vi] (.s .o (.s oo (.s (.s (.s .o (.s (.s (.j [w 1 vi,w 2 vi,b 4 vl,a 4,c 10,a 10,.tm 13 false [(.sl [.int .i64,.sl [.int .i64],.sl [.int .i64,.sl [.int .i64],.int .i64]],.pure)],w 14 vi,w 15 vi,w 41 vb] .o) (.s oo .o)) (.s .o (.jr [w 1 vi,w 2 vi,b 4 vl,a 4,.tm 13 false [(.sl [.int .i64,.sl [.int .i64],.sl [.int .i64,.sl [.int .i64],.int .i64]],.pure)],w 14 vi,w 15 vi] (.j [w 1 vi,w 2 vi,b 4 vl,a 4,.tm 13 false [(.sl [.int .i64,.sl [.int .i64],.sl [.int .i64,.sl [.int .i64],.int .i64]],.pure)],w 14 vi,w 15 vi,w 43 vr,w 44 vi,w 45 vi] (.s .o (.s oo (.s (.s (.s .o (.s .o (.s oo .o))) .o) .o)))))))) .o) .o)))))) oo),[],none⟩
noncomputable def g11:AM.Sig:=⟨11,[.val true [vl],.val false [(.sl [.int .i64,.sl [.int .i64],.sl [.int .i64,.sl [.int .i64],.int .i64]],.pure)]],[(false,[vb])]⟩
noncomputable def s11:AM.Spec:=⟨g11,Go.Proofs.Tryz.f11,.s .o oo,[(7,43)],none⟩
noncomputable def g62:AM.Sig:=⟨62,[.val true [vi,vk],.val false [vi]],[(false,[vi])]⟩
noncomputable def s62:AM.Spec:=⟨g62,Go.Proofs.Tryz.f62,.s .o (.s .o (.s (.s .o (.j [w 5 vi] (.j [w 1 vi,w 5 vi,w 9 vk,w 10 vi,w 11 vi] (.s .o (.s oo (.s (.s (.s .o (.s .o (.j [w 1 vi,w 5 vi,w 9 vk,w 10 vi,w 11 vi] oo))) .o) .o)))))) oo)),[(23,62)],none⟩
noncomputable def g22:AM.Sig:=⟨22,[.val true [vi,vk],.val false [vi]],[(false,[vb])]⟩
noncomputable def s22:AM.Spec:=⟨g22,Go.Proofs.Tryz.f22,.s .o oo,[(7,62)],none⟩
noncomputable def g45:AM.Sig:=⟨45,[],[(true,[vi,wl,wr])]⟩
noncomputable def s45:AM.Spec:=⟨g45,Go.Proofs.Tryz.f45,.s .o oo,[],none⟩
noncomputable def akq:AM.Sig:=⟨149,[.val false [vi]],[(false,[vb])]⟩
noncomputable def ai7:AM.Spec:=⟨akq,Go.Proofs.Tryz.f149,.s .o (.s (.j [w 2 vb] .o) .o),[],none⟩
noncomputable def ahZ:AM.Sig:=⟨169,[.val false [vl],.fn 149],[(false,[vi])]⟩
noncomputable def agO:AM.Spec:=⟨ahZ,Go.Proofs.Tryz.f169,.s .o (.s (.s .o (.jr [] (.j [w 0 vl,.fn 1 149,w 7 vi,w 8 vi] (.s .o (.s oo (.s (.s (.s .o (.s .o (.s oo .o))) .o) .o)))))) oo),[(16,149)],none⟩
noncomputable def ahY:AM.Sig:=⟨128,[.val false [vl],.fn 149],[(false,[vb])]⟩
noncomputable def agN:AM.Spec:=⟨ahY,Go.Proofs.Tryz.f128,.s .o oo,[(7,1001)],none⟩
noncomputable def aj8:AM.Sig:=⟨108,[.val true [vl]],[(false,[vb])]⟩
noncomputable def aiQ:AM.Spec:=⟨aj8,Go.Proofs.Tryz.f108,.s .o (.s (.j [w 2 vb] .o) .o),[(10,1000)],none⟩
noncomputable def aj9:AM.Sig:=⟨109,[.val false [vi],.rptr [vi,vl,vr]],[(false,[vb])]⟩
noncomputable def aiR:AM.Spec:=⟨aj9,Go.Proofs.Tryz.f109,.s .o (.s (.j [w 3 vb] .o) .o),[],none⟩
noncomputable def g60:AM.Sig:=⟨60,[.val true [vl],.val true [vi,vl,vr]],[(false,[vb])]⟩
noncomputable def s60:AM.Spec:=⟨g60,Go.Proofs.Tryz.f60,.s .o (.s (.s (.j [b 2 vl,a 2,c 3,a 3,w 30 vb] .o) (.s oo .o)) (.s .o (.s (.s .o (.jr [b 2 vl,a 2,c 3,a 3,.clo 5 109 [(.box 3,0)]] (.j [b 2 vl,a 2,c 3,a 3,.clo 5 109 [(.box 3,0)],w 33 vl,w 34 vi,w 35 vi] (.s .o (.s oo (.s (.s (.s .o (.s (.j [b 2 vl,a 2,c 3,a 3,.clo 5 109 [(.box 3,0)],w 33 vl,w 34 vi,w 35 vi,w 57 vb] .o) (.s oo .o))) .o) .o)))))) (.s (.s .o (.jr [] (.j [b 2 vl,a 2,c 3,.clo 5 109 [(.box 3,0)],w 60 vr,w 61 vi,w 62 vi] (.s .o (.s oo (.s (.s (.s .o (.s (.s (.j [b 2 vl,a 2,c 3,.clo 5 109 [(.box 3,0)],.bx 9 [vi,vl,vi],a 9,w 60 vr,w 61 vi,w 62 vi,w 95 vb] .o) (.s oo .o)) (.s .o (.jr [b 2 vl,a 2,c 3,.clo 5 109 [(.box 3,0)],w 60 vr,w 61 vi,w 62 vi] (.j [b 2 vl,a 2,c 3,.clo 5 109 [(.box 3,0)],w 60 vr,w 61 vi,w 62 vi,w 97 vl,w 98 vi,w 99 vi] (.s .o (.s oo (.s (.s (.s .o (.s .o (.s oo .o))) .o) .o)))))))) .o) .o)))))) oo)))),[(13,108),(42,109),(93,109),(105,109)],none⟩
noncomputable def ah9:AM.Sig:=⟨171,[.val false [(.sl [.int .u8],.own)],.val false [vu],.val false [vi]],[(false,[(.sl [.int .u8],.own)])]⟩
noncomputable def ajc:AM.Spec:=⟨ah9,Go.Proofs.Tryz.f171,.o,[],(some pU)⟩
noncomputable def ako:AM.Sig:=⟨137,[.val false [(.sl [.int .u8],.own)],.val false [vi],.val false [vi]],[(false,[(.sl [.int .u8],.own)])]⟩
noncomputable def ai5:AM.Spec:=⟨ako,Go.Proofs.Tryz.f137,.s .o (.s .o (.s (.s .o (.j [.tm 0 false [(.sl [.int .u8],.own)],w 2 vi,w 7 vu] (.s oo .o))) oo)),[(20,171)],none⟩
noncomputable def g96:AM.Sig:=⟨96,[.val false [(.sl [.int .u8],.own)],.val false [vi],.val false [vi]],[(false,[(.sl [.int .u8],.own)])]⟩
noncomputable def s96:AM.Spec:=⟨g96,Go.Proofs.Tryz.f96,.s .o oo,[(10,137)],none⟩
noncomputable def akf:AM.Sig:=⟨125,[.val false [vi],.val false [vl]],[(false,[(.str,.pure)])]⟩
noncomputable def aiW:AM.Spec:=⟨akf,Go.Proofs.Tryz.f125,.s .o (.s .o (.s (.s .o (.j [.tm 5 false [(.sl [.int .u8],.own)]] (.j [.tm 5 false [(.sl [.int .u8],.own)],w 10 vl,w 11 vi,w 12 vi] (.s .o (.s oo (.s (.s oo .o) .o)))))) oo)),[(9,96),(20,96)],none⟩
noncomputable def g89:AM.Sig:=⟨89,[.val true [vl],.val true [vi,vl,vr]],[(false,[vb]),(false,[vi])]⟩
noncomputable def s89:AM.Spec:=⟨g89,Go.Proofs.Tryz.f89,.s .o (.s (.s .o (.s oo .o)) (.s .o (.s (.s .o (.jr [] (.j [.tm 6 false [(.mp .str .bool,.own)],w 16 vr,w 17 vi,w 18 vi] (.s .o (.s oo (.s (.s (.s .o (.s .o (.s (.s .o (.s oo .o)) .o))) .o) .o)))))) oo))),[(12,60),(26,125)],none⟩
noncomputable def ah8:AM.Sig:=⟨116,[.val false [vl]],[(false,[wl])]⟩
noncomputable def aiV:AM.Spec:=⟨ah8,Go.Proofs.Tryz.f116,.o,[],(some IJ)⟩
noncomputable def g85:AM.Sig:=⟨85,[.val true [vi,vl,vr]],[(true,[vi,wl,wr])]⟩
noncomputable def s85:AM.Spec:=⟨g85,Go.Proofs.Tryz.f85,.s .o (.s .o (.s (.s .o (.j [.bx 2 [vi,wl,wr],a 2,.bx 3 [vi,wl,wr],a 3] (.j [.bx 2 [vi,wl,wr],a 2,.bx 3 [vi,wl,wr],a 3,w 13 vr,w 14 vi,w 15 vi] (.s .o (.s oo (.s (.s oo .o) .o)))))) oo)),[(10,116),(25,116)],none⟩
noncomputable def akm:AM.Sig:=⟨133,[.ptr [wl,(.mp (.int .i64) .bool,.own)],.val false [vi]],[]⟩
noncomputable def ai3:AM.Spec:=⟨akm,Go.Proofs.Tryz.f133,.s (.s .o (.j [.bx 0 [wl,(.mp (.int .i64) .bool,.own)],a 0,w 1 vi] oo)) (.s .o (.j [.bx 0 [wl,(.mp (.int .i64) .bool,.own)],a 0] (.s oo .o))),[],none⟩
noncomputable def akk:AM.Sig:=⟨131,[.val true [vi,vl,vr]],[(false,[xb])]⟩
noncomputable def ai1:AM.Spec:=⟨akk,Go.Proofs.Tryz.f131,.s .o (.s .o (.s .o (.s .o (.s .o (.st 5 (.s .o (.j [c 1,a 1,w 3 xb,w 4 wl,.tm 5 false [(.dl [.sl [.int .i64]],.own)],.bx 6 [wl,(.mp (.int .i64) .bool,.own)],a 6] (.j [c 1,a 1,w 3 xb,w 4 wl,.tm 5 false [(.dl [.sl [.int .i64]],.own)],.bx 6 [wl,(.mp (.int .i64) .bool,.own)],a 6,w 25 vr,w 26 vi,w 27 vi] (.s .o (.s oo (.s (.s (.s .o (.s .o (.s (.s .o (.j [c 1,a 1,w 3 xb,w 4 wl,.tm 5 false [(.dl [.sl [.int .i64]],.own)],.bx 6 [wl,(.mp (.int .i64) .bool,.own)],a 6,w 7 vi,.bx 8 [vi,vl,vi],a 8,w 25 vr,w 26 vi,w 27 vi] (.j [c 1,a 1,w 3 xb,w 4 wl,.tm 5 false [(.dl [.sl [.int .i64]],.own)],.bx 6 [wl,(.mp (.int .i64) .bool,.own)],a 6,w 7 vi,.bx 8 [vi,vl,vi],a 8,w 25 vr,w 26 vi,w 27 vi,w 39 vl,w 40 vi,w 41 vi] (.s .o (.s oo (.s (.s oo .o) .o)))))) (.s .o (.j [c 1,a 1,w 3 xb,w 4 wl,.tm 5 false [(.dl [.sl [.int .i64]],.own)],.bx 6 [wl,(.mp (.int .i64) .bool,.own)],a 6,w 25 vr,w 26 vi,w 27 vi] oo))))) .o) .o)))))) (.s (.s .o (.j [w 3 xb] (.j [c 1,a 1,w 3 xb,w 4 wl,w 5 xl,.bx 6 [wl,(.mp (.int .i64) .bool,.own)],a 6,w 11 vi] (.s (.s .o oo) (.s (.s (.s .o (.s .o (.j [c 1,a 1,w 3 xb,w 4 wl,w 5 xl,.bx 6 [wl,(.mp (.int .i64) .bool,.own)],a 6,w 11 vi] (.j [c 1,a 1,w 3 xb,w 4 wl,w 5 xl,.bx 6 [wl,(.mp (.int .i64) .bool,.own)],a 6,w 11 vi,w 86 vl,w 87 vi,w 88 vi] (.s .o (.s oo (.s (.s (.s .o (.s .o (.s .o (.j [c 1,a 1,w 3 xb,w 4 wl,w 5 xl,.bx 6 [wl,(.mp (.int .i64) .bool,.own)],a 6,w 11 vi,w 86 vl,w 87 vi,w 88 vi] oo)))) .o) .o))))))) .o) .o))))) oo)))))),[(23,1),(63,133),(109,133)],none⟩
noncomputable def akl:AM.Sig:=⟨132,[.val false [vi],.rptr [(.sl [.bool],.pure)]],[(false,[vb])]⟩
noncomputable def ai2:AM.Spec:=⟨akl,Go.Proofs.Tryz.f132,.s .o oo,[],none⟩
noncomputable def ah1:AM.Sig:=⟨169,[.val false [vl],.clo 132 [(.sl [.bool],.pure)]],[(false,[vi])]⟩
noncomputable def agQ:AM.Spec:=⟨ah1,Go.Proofs.Tryz.f169,.s .o (.s (.s .o (.jr [] (.j [w 0 vl,.cpd 1 132 [(.sl [.bool],.pure)],w 7 vi,w 8 vi] (.s .o (.s oo (.s (.s (.s .o (.s .o (.s oo .o))) .o) .o)))))) oo),[(16,132)],none⟩
noncomputable def ah0:AM.Sig:=⟨128,[.val false [vl],.clo 132 [(.sl [.bool],.pure)]],[(false,[vb])]⟩
noncomputable def agP:AM.Spec:=⟨ah0,Go.Proofs.Tryz.f128,.s .o oo,[(7,1003)],none⟩
noncomputable def g92:AM.Sig:=⟨92,[.val true [vi,vl,vr]],[(false,[xb])]⟩
noncomputable def s92:AM.Spec:=⟨g92,Go.Proofs.Tryz.f92,.s .o (.s .o (.s .o (.s (.s .o (.j [c 1,a 1,.bx 3 [xb],a 3,.tm 4 false [(.dl [.sl [.int .i64]],.own)]] (.j [c 1,a 1,.bx 3 [xb],a 3,.tm 4 false [(.dl [.sl [.int .i64]],.own)],w 22 vr,w 23 vi,w 24 vi] (.s .o (.s oo (.s (.s (.s .o (.s .o (.j [c 1,a 1,.bx 3 [xb],a 3,.tm 4 false [(.dl [.sl [.int .i64]],.own)],w 22 vr,w 23 vi,w 24 vi] oo))) .o) .o)))))) (.s .o (.s .o (.st 4 (.s .o (.j [c 1,a 1,.tm 4 false [(.dl [.sl [.int .i64]],.own)],w 7 xb,.bx 8 [wl,(.mp (.int .i64) .bool,.own)],a 8] (.j [c 1,a 1,.bx 3 [xb],a 3,.tm 4 false [(.dl [.sl [.int .i64]],.own)],w 7 xb,.bx 8 [wl,(.mp (.int .i64) .bool,.own)],a 8,w 51 vl,w 52 vi,w 53 vi] (.s .o (.s oo (.s (.s (.s .o (.s .o (.j [c 1,a 1,.bx 3 [xb],a 3,.tm 4 false [(.dl [.sl [.int .i64]],.own)],w 7 xb,.bx 8 [wl,(.mp (.int .i64) .bool,.own)],a 8,w 51 vl,w 52 vi,w 53 vi] oo))) .o) .o)))))) (.s (.s .o (.j [w 7 xb] (.j [c 1,a 1,w 4 xl,w 7 xb,.bx 8 [wl,(.mp (.int .i64) .bool,.own)],a 8,w 11 vi] (.s (.s .o oo) (.s (.s (.s .o (.s .o (.j [c 1,a 1,w 4 xl,w 7 xb,.bx 8 [wl,(.mp (.int .i64) .bool,.own)],a 8,w 11 vi] (.j [c 1,a 1,w 4 xl,w 7 xb,.bx 8 [wl,(.mp (.int .i64) .bool,.own)],a 8,w 11 vi,w 85 vl,w 86 vi,w 87 vi] (.s .o (.s oo (.s (.s (.s .o (.s .o (.j [c 1,a 1,w 4 xl,w 7 xb,.bx 8 [wl,(.mp (.int .i64) .bool,.own)],a 8,w 11 vi,w 85 vl,w 86 vi,w 87 vi] (.j [c 1,a 1,w 4 xl,w 7 xb,.bx 8 [wl,(.mp (.int .i64) .bool,.own)],a 8,w 11 vi,w 85 vl,w 86 vi,w 87 vi,w 96 vl,w 97 vi,w 98 vi] (.s .o (.s oo (.s (.s oo .o) .o))))))) .o) .o))))))) .o) .o))))) oo))))))),[(17,131),(20,1),(32,1002),(62,133),(103,133)],none⟩
noncomputable def akj:AM.Sig:=⟨130,[.val false [vi],.rptr [(.sl [.bool],.pure)]],[(false,[vb])]⟩
noncomputable def ai0:AM.Spec:=⟨akj,Go.Proofs.Tryz.f130,.s .o oo,[],none⟩
noncomputable def ah3:AM.Sig:=⟨169,[.val false [vl],.clo 130 [(.sl [.bool],.pure)]],[(false,[vi])]⟩
noncomputable def agS:AM.Spec:=⟨ah3,Go.Proofs.Tryz.f169,.s .o (.s (.s .o (.jr [] (.j [w 0 vl,.cpd 1 130 [(.sl [.bool],.pure)],w 7 vi,w 8 vi] (.s .o (.s oo (.s (.s (.s .o (.s .o (.s oo .o))) .o) .o)))))) oo),[(16,130)],none⟩
noncomputable def ah2:AM.Sig:=⟨128,[.val false [vl],.clo 130 [(.sl [.bool],.pure)]],[(false,[vb])]⟩
noncomputable def agR:AM.Spec:=⟨ah2,Go.Proofs.Tryz.f128,.s .o oo,[(7,1005)],none⟩
noncomputable def agj:AM.Sig:=⟨100,[.io [wr],.fn 49],[]⟩
noncomputable def agT:AM.Spec:=⟨agj,Go.Proofs.Tryz.f100,.o,[],(some vY)⟩
noncomputable def ake:AM.Sig:=⟨124,[.val false [vi]],[(false,[vb])]⟩
noncomputable def ahn:AM.Spec:=⟨ake,Go.Proofs.Tryz.f124,.s .o oo,[],none⟩
noncomputable def g87:AM.Sig:=⟨87,[.val false [vi],.val false [vi]],[(false,[vi])]⟩
noncomputable def s87:AM.Spec:=⟨g87,Go.Proofs.Tryz.f87,.s .o (.s .o (.s .o (.s (.s .o (.s (.s (.s .o (.s oo .o)) oo) .o)) (.s (.s .o (.s oo .o)) (.s (.s .o (.s oo .o)) (.s (.s .o (.s oo .o)) oo)))))),[(8,124),(10,124)],none⟩
noncomputable def g88:AM.Sig:=⟨88,[.val false [vl],.val false [vl]],[(false,[vi])]⟩
noncomputable def s88:AM.Spec:=⟨g88,Go.Proofs.Tryz.f88,.s .o (.s (.s .o (.jr [w 0 vl,w 1 vl] (.j [w 0 vl,w 1 vl,w 9 vl,w 10 vi,w 11 vi] (.s .o (.s oo (.s (.s (.s .o (.s (.s .o (.s oo .o)) (.s .o (.s .o (.s .o (.s oo .o)))))) .o) .o)))))) (.s (.s .o (.s oo .o)) oo)),[(26,87)],none⟩
noncomputable def g86:AM.Sig:=⟨86,[.val false [vl]],[(false,[vi])]⟩
noncomputable def s86:AM.Spec:=⟨g86,Go.Proofs.Tryz.f86,.s .o (.s .o (.s (.s .o (.jr [w 3 vi] (.j [w 3 vi,w 6 vl,w 7 vi,w 8 vi] (.s .o (.s oo (.s (.s (.s .o (.s .o (.s oo .o))) .o) .o)))))) oo)),[],none⟩
noncomputable def g49:AM.Sig:=⟨49,[.val true [vi,vl,vi],.val true [vi,vl,vi]],[(false,[vi])]⟩
noncomputable def s49:AM.Spec:=⟨g49,Go.Proofs.Tryz.f49,.s .o oo,[(9,87),(14,88),(19,87),(21,86)],none⟩
noncomputable def akp:AM.Sig:=⟨139,[.val true [vi,vl,vi],.val true [vi,vl,vi]],[(false,[vb])]⟩
noncomputable def ai6:AM.Spec:=⟨akp,Go.Proofs.Tryz.f139,.s .o oo,[(7,49)],none⟩
noncomputable def ah4:AM.Sig:=⟨138,[.val false [wr],.fn 139],[(false,[wr])]⟩
noncomputable def agU:AM.Spec:=⟨ah4,Go.Proofs.Tryz.f138,.s .o (.s (.s .o (.s oo .o)) (.s (.s .o (.jr [w 0 wr] (.j [w 0 wr,.fn 1 139,w 5 vi] (.s (.s .o oo) (.s (.s (.s .o (.s (.s .o (.s (.s .o (.j [w 0 wr,w 5 vi] (.j [w 0 wr,.fn 1 139,w 5 vi,.rs 6 (.tmp 0) 0 false,w 7 vi] (.s (.s .o oo) (.s (.s (.s .o (.j [w 0 wr,.fn 1 139,w 5 vi,.rs 6 (.tmp 0) 0 false,w 7 vi] (.s oo .o))) .o) .o))))) (.s .o oo))) .o)) .o) .o))))) oo)),[(6,2),(28,139),(48,139)],none⟩
noncomputable def g99:AM.Sig:=⟨99,[.val false [wr]],[(false,[wr])]⟩
noncomputable def s99:AM.Spec:=⟨g99,Go.Proofs.Tryz.f99,.s .o (.s .o oo),[(4,1006),(6,1007)],none⟩
noncomputable def g91:AM.Sig:=⟨91,[.val true [vi,vl,vr],.val false [(.sl [.bool],.pure)]],[(true,[vi,wl,wr])]⟩
noncomputable def s91:AM.Spec:=⟨g91,Go.Proofs.Tryz.f91,.s .o (.s .o (.s .o (.s (.s .o (.j [c 2,a 2,.bx 3 [(.sl [.bool],.pure)],a 3,.bx 4 [vi,wl,wr],a 4,.bx 5 [vi,wl,wr],a 5,w 6 wl] (.j [c 2,a 2,.bx 3 [(.sl [.bool],.pure)],a 3,.bx 4 [vi,wl,wr],a 4,.bx 5 [vi,wl,wr],a 5,w 6 wl,.tm 19 false [(.sl [.bool],.pure)],w 20 vi,w 21 vi] (.s .o (.s oo (.s (.s (.s .o (.s .o (.j [c 2,a 2,.bx 3 [(.sl [.bool],.pure)],a 3,.bx 4 [vi,wl,wr],a 4,.bx 5 [vi,wl,wr],a 5,w 6 wl,.tm 19 false [(.sl [.bool],.pure)],w 20 vi,w 21 vi] (.s oo .o)))) .o) .o)))))) (.s (.s .o (.j [c 2,a 2,.bx 3 [(.sl [.bool],.pure)],a 3,.bx 4 [vi,wl,wr],a 4,.bx 5 [vi,wl,wr],a 5,w 6 wl] (.j [c 2,a 2,.bx 3 [(.sl [.bool],.pure)],a 3,.bx 4 [vi,wl,wr],a 4,.bx 5 [vi,wl,wr],a 5,w 6 wl,w 38 vl,w 39 vi,w 40 vi] (.s .o (.s oo (.s (.s (.s .o (.s .o (.j [c 2,a 2,.bx 3 [(.sl [.bool],.pure)],a 3,.bx 4 [vi,wl,wr],a 4,.bx 5 [vi,wl,wr],a 5,w 6 wl,w 38 vl,w 39 vi,w 40 vi] oo))) .o) .o)))))) (.s (.s .o (.j [.bx 4 [vi,wl,wr],a 4,.bx 5 [vi,wl,wr],a 5] (.j [.bx 3 [(.sl [.bool],.pure)],a 3,.bx 4 [vi,wl,wr],a 4,.bx 5 [vi,wl,wr],a 5,w 6 wl,w 59 vr,w 60 vi,w 61 vi] (.s .o (.s oo (.s (.s (.s .o (.s (.s (.j [.bx 3 [(.sl [.bool],.pure)],a 3,.bx 4 [vi,wl,wr],a 4,.bx 5 [vi,wl,wr],a 5,w 6 wl,.bx 12 [vi,vl,vi],a 12,w 59 vr,w 60 vi,w 61 vi,w 76 vb] .o) oo) (.s .o (.s .o (.s (.s .o (.j [.bx 3 [(.sl [.bool],.pure)],a 3,.bx 4 [vi,wl,wr],a 4,.bx 5 [vi,wl,wr],a 5,w 6 wl,.bx 13 [vi,wl,vi],a 13,w 59 vr,w 60 vi,w 61 vi] (.j [.bx 3 [(.sl [.bool],.pure)],a 3,.bx 4 [vi,wl,wr],a 4,.bx 5 [vi,wl,wr],a 5,w 6 wl,.bx 13 [vi,wl,vi],a 13,w 59 vr,w 60 vi,w 61 vi,.rf 95 (.box 13) 1 false 1,w 96 vi,w 97 vi] (.s .o (.s oo (.s (.s oo .o) .o)))))) .o))))) .o) .o)))))) (.s .o oo)))))),[(75,1004),(120,99)],none⟩
noncomputable def g74:AM.Sig:=⟨74,[.val true [vl],.val true [vi,vl,vr]],[(true,[vi,vl,vr]),(false,[vi])]⟩
noncomputable def s74:AM.Spec:=⟨g74,Go.Proofs.Tryz.f74,.s .o (.s (.s .o (.s oo .o)) oo),[(8,60),(13,92),(14,91)],none⟩
noncomputable def g75:AM.Sig:=⟨75,[.val true [vl],.val true [vi,vl,vr]],[(false,[xl])]⟩
noncomputable def s75:AM.Spec:=⟨g75,Go.Proofs.Tryz.f75,.s .o (.s .o (.st 5 (.s .o (.j [.tm 5 false [(.dl [.sl [.int .i64]],.own)]] (.j [.tm 5 false [(.dl [.sl [.int .i64]],.own)],w 13 vr,w 14 vi,w 15 vi] (.s .o (.s oo (.s (.s oo .o) .o)))))) oo)),[(11,1)],none⟩
noncomputable def aep:AM.Sig:=⟨116,[.io [wl]],[(false,[wl])]⟩
noncomputable def agV:AM.Spec:=⟨aep,Go.Proofs.Tryz.f116,.o,[],(some yM)⟩
noncomputable def akv:AM.Sig:=⟨189,[.val false [(.sl [.int .u64],.pure)]],[(false,[(.str,.pure)])]⟩
noncomputable def ajd:AM.Spec:=⟨akv,Go.Proofs.Tryz.f189,.s .o (.s .o (.s (.s .o (.j [.tm 3 false [(.sl [.int .u8],.own)]] (.j [.tm 3 false [(.sl [.int .u8],.own)],.tm 11 false [(.sl [.int .u64],.pure)],w 12 vi,w 13 vi] (.s .o (.s oo (.s (.s (.s .o (.s .o (.j [.tm 3 false [(.sl [.int .u8],.own)],.tm 11 false [(.sl [.int .u64],.pure)],w 12 vi,w 13 vi] (.j [.tm 3 false [(.sl [.int .u8],.own)],w 5 vu,.tm 11 false [(.sl [.int .u64],.pure)],w 12 vi,w 13 vi,w 17 vi] (.s .o (.s oo (.s (.s oo .o) .o))))))) .o) .o)))))) oo)),[],none⟩
noncomputable def akt:AM.Sig:=⟨167,[.ptr [vi,vl,vr,(.sl [.sl [.int .i64]],.pure),(.sl [.sl [.int .u64]],.own),(.mp .str (.int .i64),.own),(.sl [.int .i64,.sl [.int .i64],.int .i64],.dead),vi,vi,vb],.val false [vl]],[(false,[vi])]⟩
noncomputable def aja:AM.Spec:=⟨akt,Go.Proofs.Tryz.f167,.s .o (.s (.s .o (.s oo .o)) (.s .o (.s (.s .o (.j [.bx 0 [vi,vl,vr,(.sl [.sl [.int .i64]],.pure),(.sl [.sl [.int .u64]],.own),(.mp .str (.int .i64),.own),(.sl [.int .i64,.sl [.int .i64],.int .i64],.dead),vi,vi,vb],a 0,.tm 5 false [(.sl [.int .u64],.own)]] (.j [.bx 0 [vi,vl,vr,(.sl [.sl [.int .i64]],.pure),(.sl [.sl [.int .u64]],.own),(.mp .str (.int .i64),.own),(.sl [.int .i64,.sl [.int .i64],.int .i64],.dead),vi,vi,vb],a 0,.tm 5 false [(.sl [.int .u64],.own)],w 23 vl,w 24 vi,w 25 vi] (.s .o (.s oo (.s (.s (.s .o oo) .o) .o)))))) (.s .o (.s .o (.s (.s .o (.j [.bx 0 [vi,vl,vr,(.sl [.sl [.int .i64]],.pure),(.sl [.sl [.int .u64]],.own),(.mp .str (.int .i64),.own),(.sl [.int .i64,.sl [.int .i64],.int .i64],.dead),vi,vi,vb],a 0,w 10 vi] (.s (.s .o oo) .o))) oo)))))),[(50,189)],none⟩
noncomputable def aku:AM.Sig:=⟨168,[.val false [(.sl [.int .u64],.pure)],.val false [vi]],[(false,[vb])]⟩
noncomputable def ajb:AM.Spec:=⟨aku,Go.Proofs.Tryz.f168,.s .o oo,[],none⟩
noncomputable def akg:AM.Sig:=⟨126,[.ptr [vi,vl,vr,(.sl [.sl [.int .i64]],.pure),(.sl [.sl [.int .u64]],.own),(.mp .str (.int .i64),.own),wr,vi,vi,vb],.val false [vi],.val false [vi],.io [wl],.val false [vl],.val false [vb]],[]⟩
noncomputable def aiX:AM.Spec:=⟨akg,Go.Proofs.Tryz.f126,.s (.s (.j [.bx 0 [vi,vl,vr,(.sl [.sl [.int .i64]],.pure),(.sl [.sl [.int .u64]],.own),(.mp .str (.int .i64),.own),wr,vi,vi,vb],a 0,w 1 vi,w 2 vi,w 3 wl,w 4 vl,w 5 vb,w 25 vb] .o) oo) (.s (.s .o (.s (.s .o (.s (.j [.bx 0 [vi,vl,vr,(.sl [.sl [.int .i64]],.pure),(.sl [.sl [.int .u64]],.own),(.mp .str (.int .i64),.own),wr,vi,vi,vb],a 0,w 3 wl] .o) .o)) .o)) (.s .o (.s (.s (.j [.bx 0 [vi,vl,vr,(.sl [.sl [.int .i64]],.pure),(.sl [.sl [.int .u64]],.own),(.mp .str (.int .i64),.own),wr,vi,vi,vb],a 0,w 1 vi,w 2 vi,w 3 wl,w 4 vl,w 5 vb,w 12 vi,w 71 vb] .o) (.j [.bx 0 [vi,vl,vr,(.sl [.sl [.int .i64]],.pure),(.sl [.sl [.int .u64]],.own),(.mp .str (.int .i64),.own),wr,vi,vi,vb],a 0,w 1 vi,w 2 vi,w 3 wl,w 4 vl,w 5 vb,w 12 vi] oo)) (.s .o (.j [.bx 0 [vi,vl,vr,(.sl [.sl [.int .i64]],.pure),(.sl [.sl [.int .u64]],.own),(.mp .str (.int .i64),.own),wr,vi,vi,vb],a 0,w 3 wl] (.j [.bx 0 [vi,vl,vr,(.sl [.sl [.int .i64]],.pure),(.sl [.sl [.int .u64]],.own),(.mp .str (.int .i64),.own),wr,vi,vi,vb],a 0,w 1 vi,w 2 vi,w 3 wl,w 4 vl,w 5 vb,w 13 vi] (.s (.s .o oo) (.s (.s (.s .o (.s (.s .o (.j [.bx 0 [vi,vl,vr,(.sl [.sl [.int .i64]],.pure),(.sl [.sl [.int .u64]],.own),(.mp .str (.int .i64),.own),wr,vi,vi,vb],a 0,w 1 vi,w 2 vi,w 3 wl,w 4 vl,w 5 vb,w 13 vi,w 14 wl] (.j [.bx 0 [vi,vl,vr,(.sl [.sl [.int .i64]],.pure),(.sl [.sl [.int .u64]],.own),(.mp .str (.int .i64),.own),wr,vi,vi,vb],a 0,w 1 vi,w 2 vi,w 3 wl,w 4 vl,w 5 vb,w 13 vi,w 14 wl,w 85 vl,w 86 vi,w 87 vi] (.s .o (.s oo (.s (.s (.s .o (.s .o (.j [.bx 0 [vi,vl,vr,(.sl [.sl [.int .i64]],.pure),(.sl [.sl [.int .u64]],.own),(.mp .str (.int .i64),.own),wr,vi,vi,vb],a 0,w 1 vi,w 2 vi,w 3 wl,w 4 vl,w 5 vb,w 13 vi,w 14 wl,w 85 vl,w 86 vi,w 87 vi] oo))) .o) .o)))))) (.j [.bx 0 [vi,vl,vr,(.sl [.sl [.int .i64]],.pure),(.sl [.sl [.int .u64]],.own),(.mp .str (.int .i64),.own),wr,vi,vi,vb],a 0,w 1 vi,w 2 vi,w 3 wl,w 4 vl,w 5 vb,w 13 vi] .o))) .o) .o)))))))),[(37,1008),(40,167),(111,168),(123,3),(134,126)],none⟩
noncomputable def g94:AM.Sig:=⟨94,[.val true [vi,vl,vr]],[(false,[xb])]⟩
noncomputable def s94:AM.Spec:=⟨g94,Go.Proofs.Tryz.f94,.s .o (.s .o (.s (.s .o (.j [w 3 xb] (.j [w 3 xb,w 10 vl,w 11 vi,w 12 vi] (.s .o (.s oo (.s (.s oo .o) .o)))))) oo)),[],none⟩
noncomputable def akh:AM.Sig:=⟨127,[.val false [(.sl [.int .u64],.pure)]],[(false,[wl])]⟩
noncomputable def aiY:AM.Spec:=⟨akh,Go.Proofs.Tryz.f127,.s .o (.s .o (.s (.s .o (.j [w 3 wl] (.j [.tm 0 false [(.sl [.int .u64],.pure)],w 3 wl,w 7 vi,w 8 vi] (.s .o (.s oo (.s (.s (.s .o (.s .o (.j [.tm 0 false [(.sl [.int .u64],.pure)],w 3 wl,w 7 vi,w 8 vi] oo))) .o) .o)))))) oo)),[(13,168)],none⟩
noncomputable def aki:AM.Sig:=⟨129,[.val false [vi],.rptr [(.sl [.bool],.pure)]],[(false,[vb])]⟩
noncomputable def aiZ:AM.Spec:=⟨aki,Go.Proofs.Tryz.f129,.s .o oo,[],none⟩
noncomputable def ah6:AM.Sig:=⟨169,[.val false [vl],.clo 129 [(.sl [.bool],.pure)]],[(false,[vi])]⟩
noncomputable def agX:AM.Spec:=⟨ah6,Go.Proofs.Tryz.f169,.s .o (.s (.s .o (.jr [] (.j [w 0 vl,.cpd 1 129 [(.sl [.bool],.pure)],w 7 vi,w 8 vi] (.s .o (.s oo (.s (.s (.s .o (.s .o (.s oo .o))) .o) .o)))))) oo),[(16,129)],none⟩
noncomputable def ah5:AM.Sig:=⟨128,[.val false [vl],.clo 129 [(.sl [.bool],.pure)]],[(false,[vb])]⟩
noncomputable def agW:AM.Spec:=⟨ah5,Go.Proofs.Tryz.f128,.s .o oo,[(7,1010)],none⟩
noncomputable def g90:AM.Sig:=⟨90,[.val true [vl],.val true [vi,vl,vr]],[(true,[vi,vl,vr]),(false,[(.sl [.sl [.int .i64]],.pure)]),(false,[vi])]⟩
noncomputable def s90:AM.Spec:=⟨g90,Go.Proofs.Tryz.f90,.s .o (.s (.s .o (.s oo .o)) (.s .o (.s (.s .o (.jr [c 3,a 3,.bx 4 [vi,wl,wr],a 4,.adr 7 (.box 28) 0,.bx 28 [vi,vl,vr,(.sl [.sl [.int .i64]],.pure),(.sl [.sl [.int .u64]],.own),(.mp .str (.int .i64),.own),wr,vi,vi,vb]] (.j [b 2 vl,a 2,c 3,a 3,.bx 4 [vi,wl,wr],a 4,.adr 7 (.box 28) 0,w 8 vi,.bx 28 [vi,vl,vr,(.sl [.sl [.int .i64]],.pure),(.sl [.sl [.int .u64]],.own),(.mp .str (.int .i64),.own),wr,vi,vi,vb]] (.s (.s (.j [b 2 vl,a 2,c 3,a 3,.bx 4 [vi,wl,wr],a 4,.adr 7 (.box 28) 0,w 8 vi,.bx 28 [vi,vl,vr,(.sl [.sl [.int .i64]],.pure),(.sl [.sl [.int .u64]],.own),(.mp .str (.int .i64),.own),wr,vi,vi,vb],w 41 vb] .o) oo) (.s (.s (.s (.s .o (.j [b 2 vl,a 2,c 3,a 3,.bx 4 [vi,wl,wr],a 4,.adr 7 (.box 28) 0,w 8 vi,.bx 28 [vi,vl,vr,(.sl [.sl [.int .i64]],.pure),(.sl [.sl [.int .u64]],.own),(.mp .str (.int .i64),.own),wr,vi,vi,vb]] (.j [b 2 vl,a 2,c 3,a 3,.bx 4 [vi,wl,wr],a 4,.adr 7 (.box 28) 0,w 8 vi,.bx 28 [vi,vl,vr,(.sl [.sl [.int .i64]],.pure),(.sl [.sl [.int .u64]],.own),(.mp .str (.int .i64),.own),wr,vi,vi,vb],w 45 vl,w 46 vi,w 47 vi] (.s .o (.s oo (.s (.s (.s .o (.s .o (.j [b 2 vl,a 2,c 3,a 3,.bx 4 [vi,wl,wr],a 4,.adr 7 (.box 28) 0,w 8 vi,.bx 28 [vi,vl,vr,(.sl [.sl [.int .i64]],.pure),(.sl [.sl [.int .u64]],.own),(.mp .str (.int .i64),.own),wr,vi,vi,vb],w 45 vl,w 46 vi,w 47 vi] oo))) .o) .o)))))) (.s (.s .o (.s oo .o)) .o)) .o) .o))))) (.s .o (.s .o (.s .o (.s (.s .o (.j [.bx 4 [vi,wl,wr],a 4,.bx 11 [vi,wl,wr],a 11,w 13 xl] (.j [.bx 4 [vi,wl,wr],a 4,.bx 11 [vi,wl,wr],a 11,.bx 12 [xb],a 12,w 13 xl,.bx 28 [vi,vl,vr,(.sl [.sl [.int .i64]],.pure),(.sl [.sl [.int .u64]],.own),(.mp .str (.int .i64),.own),(.sl [.int .i64,.sl [.int .i64],.int .i64],.dead),vi,vi,vb],.rf 107 (.box 28) 4 false 1,w 108 vi,w 109 vi] (.s .o (.s oo (.s (.s (.s .o (.s .o (.s .o (.s .o (.j [.bx 4 [vi,wl,wr],a 4,.bx 11 [vi,wl,wr],a 11,.bx 12 [xb],a 12,w 13 xl,.bx 28 [vi,vl,vr,(.sl [.sl [.int .i64]],.pure),(.sl [.sl [.int .u64]],.own),(.mp .str (.int .i64),.own),(.sl [.int .i64,.sl [.int .i64],.int .i64],.dead),vi,vi,vb],.rf 107 (.box 28) 4 false 1,w 108 vi,w 109 vi] oo))))) .o) .o)))))) oo))))))),[(19,60),(25,75),(69,126),(100,99),(103,94),(115,127),(122,1009)],none⟩
noncomputable def g51:AM.Sig:=⟨51,[.val true [vl],.val true [vi,vl,vr]],[(true,[vi,vl,vr]),(false,[vi])]⟩
noncomputable def s51:AM.Spec:=⟨g51,Go.Proofs.Tryz.f51,.s .o (.s .o (.s (.s .o (.s oo .o)) (.s (.s .o (.s oo .o)) (.s .o (.s (.s .o (.s oo .o)) (.s .o oo)))))),[(14,89),(23,85),(27,74),(37,90)],none⟩
noncomputable def g52:AM.Sig:=⟨52,[.val true [vi,vl,vr]],[(true,[vi,wl,wr])]⟩
noncomputable def s52:AM.Spec:=⟨g52,Go.Proofs.Tryz.f52,.s .o oo,[(5,92),(6,91)],none⟩
noncomputable def g93:AM.Sig:=⟨93,[.val false [(.sl [.bool],.pure)]],[(false,[vl]),(false,[vi])]⟩
noncomputable def s93:AM.Spec:=⟨g93,Go.Proofs.Tryz.f93,.s .o (.s .o (.s .o (.s (.s .o (.j [.tm 4 false [(.mp .bool (.int .i64),.own)],w 5 wl] (.j [.tm 4 false [(.mp .bool (.int .i64),.own)],w 5 wl,.tm 11 false [(.sl [.bool],.pure)],w 12 vi,w 13 vi] (.s .o (.s oo (.s (.s (.s .o (.s .o (.s (.s .o (.j [.tm 4 false [(.mp .bool (.int .i64),.own)],w 5 wl,w 8 vi,.tm 11 false [(.sl [.bool],.pure)],w 12 vi,w 13 vi] (.s oo .o))) .o))) .o) .o)))))) oo))),[],none⟩
noncomputable def akn:AM.Sig:=⟨134,[.val false [vi],.val false [vl]],[(false,[(.str,.pure)])]⟩
noncomputable def ai4:AM.Spec:=⟨akn,Go.Proofs.Tryz.f134,.s .o oo,[(7,125)],none⟩
noncomputable def agk:AM.Sig:=⟨135,[.io [(.sl [.int .i64,.int .i64],.own)],.fn 136],[]⟩
noncomputable def agY:AM.Spec:=⟨agk,Go.Proofs.Tryz.f135,.o,[],(some zl)⟩
noncomputable def g95:AM.Sig:=⟨95,[.val true [vi,vl,vr]],[(false,[(.dl [.sl [.int .i64,.int .i64]],.own)])]⟩
noncomputable def s95:AM.Spec:=⟨g95,Go.Proofs.Tryz.f95,.s .o (.s .o (.s .o (.s (.s .o (.j [.tm 4 false [(.dl [.sl [.int .i64,.int .i64]],.own)]] (.j [.tm 3 false [(.mp .str (.int .i64),.own)],.tm 4 false [(.dl [.sl [.int .i64,.int .i64]],.own)],w 20 vr,w 21 vi,w 22 vi] (.s .o (.s oo (.s (.s (.s .o (.s .o (.j [.tm 3 false [(.mp .str (.int .i64),.own)],.tm 4 false [(.dl [.sl [.int .i64,.int .i64]],.own)],w 20 vr,w 21 vi,w 22 vi] (.j [.tm 3 false [(.mp .str (.int .i64),.own)],.tm 4 false [(.dl [.sl [.int .i64,.int .i64]],.own)],.bx 6 [vi,vl,vi],a 6,w 20 vr,w 21 vi,w 22 vi,w 27 vl,w 28 vi,w 29 vi] (.s .o (.s oo (.s (.s (.s .o (.s .o (.s .o (.s .o (.s .o (.s (.s .o (.j [.tm 3 false [(.mp .str (.int .i64),.own)],.tm 4 false [(.dl [.sl [.int .i64,.int .i64]],.own)],.bx 6 [vi,vl,vi],a 6,w 8 vi,w 11 vi,w 20 vr,w 21 vi,w 22 vi,w 27 vl,w 28 vi,w 29 vi] (.s oo .o))) .o)))))) .o) .o))))))) .o) .o)))))) (.s (.s .o (.j [.tm 4 false [(.dl [.sl [.int .i64,.int .i64]],.own)]] (.j [.tm 4 false [(.dl [.sl [.int .i64,.int .i64]],.own)],.rf 72 (.tmp 4) 0 false 1,w 73 vi,w 74 vi] (.s .o (.s oo (.s (.s oo .o) .o)))))) oo)))),[(14,2),(18,1),(36,116),(43,134),(79,1011)],none⟩
noncomputable def g97:AM.Sig:=⟨97,[.val false [(.sl [.str],.pure)]],[(false,[vl]),(false,[vi])]⟩
noncomputable def s97:AM.Spec:=⟨g97,Go.Proofs.Tryz.f97,.s .o (.s .o (.s .o (.s (.s .o (.j [.tm 4 false [(.mp .str (.int .i64),.own)],w 5 wl] (.j [.tm 4 false [(.mp .str (.int .i64),.own)],w 5 wl,.tm 11 false [(.sl [.str],.pure)],w 12 vi,w 13 vi] (.s .o (.s oo (.s (.s (.s .o (.s .o (.s (.s .o (.j [.tm 4 false [(.mp .str (.int .i64),.own)],w 5 wl,w 8 vi,.tm 11 false [(.sl [.str],.pure)],w 12 vi,w 13 vi] (.s oo .o))) .o))) .o) .o)))))) oo))),[],none⟩
noncomputable def g53:AM.Sig:=⟨53,[.val true [vi,vl,vr]],[(false,[vl])]⟩
noncomputable def s53:AM.Spec:=⟨g53,Go.Proofs.Tryz.f53,.s .o (.s .o (.st 5 .o (.jr [] (.j [c 1,a 1,w 3 vl,w 4 vi,.tm 5 false [(.sl [.sl [.int .i64,.int .i64]],.own)]] (.s (.s .o (.s (.s .o (.j [c 1,a 1,w 4 vi,.tm 5 false [(.sl [.sl [.int .i64,.int .i64]],.own)],.tm 6 false [(.sl [.str],.own)]] (.j [c 1,a 1,w 3 vl,w 4 vi,.tm 5 false [(.sl [.sl [.int .i64,.int .i64]],.own)],.tm 6 false [(.sl [.str],.own)],w 25 vi,w 26 vi] (.s .o (.s oo (.s (.s (.s .o (.s .o (.s (.s .o (.j [c 1,a 1,w 3 vl,w 4 vi,.tm 5 false [(.sl [.sl [.int .i64,.int .i64]],.own)],.tm 6 false [(.sl [.str],.own)],w 7 vi,.tm 8 false [(.sl [.int .u8],.own)],w 25 vi,w 26 vi] (.j [c 1,a 1,w 3 vl,w 4 vi,.tm 5 false [(.sl [.sl [.int .i64,.int .i64]],.own)],.tm 6 false [(.sl [.str],.own)],w 7 vi,.tm 8 false [(.sl [.int .u8],.own)],w 25 vi,w 26 vi,.tm 37 false [(.sl [.int .i64,.int .i64],.pure)],w 38 vi,w 39 vi] (.s .o (.s oo (.s (.s (.s .o oo) .o) .o)))))) .o))) .o) .o)))))) (.s .o (.s .o (.s (.s .o (.s oo .o)) .o))))) .o))))),[(15,94),(16,93),(20,95),(33,96),(48,96),(57,96),(67,97)],none⟩
noncomputable def g78:AM.Sig:=⟨78,[.io [wl]],[]⟩
noncomputable def s78:AM.Spec:=⟨g78,Go.Proofs.Tryz.f78,.o,[],(some U5)⟩
noncomputable def g98:AM.Sig:=⟨98,[.val false [wl]],[(false,[wl])]⟩
noncomputable def s98:AM.Spec:=⟨g98,Go.Proofs.Tryz.f98,.s .o (.s (.s .o (.s oo .o)) (.s (.s .o (.jr [w 0 wl] (.j [w 0 wl,w 3 vi] (.s (.s .o oo) (.s (.s (.s .o (.s (.s .o (.s (.s .o (.j [w 0 wl,w 3 vi] (.j [w 0 wl,w 3 vi,.rs 4 (.tmp 0) 0 false,w 5 vi] (.s (.s .o oo) (.s (.s (.s .o (.j [w 0 wl,w 3 vi,.rs 4 (.tmp 0) 0 false,w 5 vi] (.s oo .o))) .o) .o))))) (.s .o oo))) .o)) .o) .o))))) oo)),[(4,2)],none⟩
noncomputable def g54:AM.Sig:=⟨54,[.val true [vi,vl,vr],.val false [vi],.val false [vl]],[(true,[vi,vl,vr])]⟩
noncomputable def s54:AM.Spec:=⟨g54,Go.Proofs.Tryz.f54,.s .o (.s .o (.s (.s .o (.j [w 2 vl,c 3,a 3,.bx 6 [vi,wl,wr],a 6,.bx 7 [vi,wl,wr],a 7] (.j [w 2 vl,c 3,a 3,.bx 6 [vi,wl,wr],a 6,.bx 7 [vi,wl,wr],a 7,w 18 vl,w 19 vi,w 20 vi] (.s .o (.s oo (.s (.s oo .o) .o)))))) (.s .o (.s .o (.s (.s .o (.j [.bx 6 [vi,wl,wr],a 6,.bx 7 [vi,wl,wr],a 7] (.j [w 2 vl,.bx 6 [vi,wl,wr],a 6,.bx 7 [vi,wl,wr],a 7,w 42 vr,w 43 vi,w 44 vi] (.s .o (.s oo (.s (.s (.s .o (.s .o (.s (.s .o (.j [w 2 vl,.bx 6 [vi,wl,wr],a 6,.bx 7 [vi,wl,wr],a 7,.bx 12 [vi,wl,vi],a 12,w 42 vr,w 43 vi,w 44 vi] (.j [w 2 vl,.bx 6 [vi,wl,wr],a 6,.bx 7 [vi,wl,wr],a 7,.bx 12 [vi,wl,vi],a 12,w 42 vr,w 43 vi,w 44 vi,w 57 vl,w 58 vi,w 59 vi] (.s .o (.s oo (.s (.s oo .o) .o)))))) .o))) .o) .o)))))) (.s .o oo)))))),[(36,78),(39,98),(82,99)],none⟩
noncomputable def g55:AM.Sig:=⟨55,[.val true [vi,vl,vr]],[(false,[wl])]⟩
noncomputable def s55:AM.Spec:=⟨g55,Go.Proofs.Tryz.f55,.s .o (.s .o (.s (.s .o (.j [c 1,a 1,w 3 wl] (.j [c 1,a 1,w 3 wl,w 18 vi,w 19 vi] (.s .o (.s oo (.s (.s oo .o) .o)))))) (.s (.s .o (.j [w 3 wl] (.j [c 1,a 1,w 3 wl,w 5 vi] (.s (.s .o oo) (.s (.s .o (.s .o (.s (.s .o (.j [c 1,a 1,w 3 wl,w 5 vi,w 6 wr] (.j [c 1,a 1,w 3 wl,w 5 vi,w 6 wr,w 31 vr,w 32 vi,w 33 vi] (.s .o (.s oo (.s (.s (.s .o (.s (.s .o oo) (.s .o (.s (.s .o (.jr [c 1,a 1,w 3 wl,w 5 vi,w 6 wr,.bx 9 [vi,wl,vi],a 9,w 31 vr,w 32 vi,w 33 vi] (.j [c 1,a 1,w 3 wl,w 5 vi,w 6 wr,.bx 9 [vi,wl,vi],a 9,w 31 vr,w 32 vi,w 33 vi,w 49 vl,w 50 vi,w 51 vi] (.s .o (.s oo (.s (.s (.s .o (.s (.s .o oo) .o)) .o) .o)))))) .o)))) .o) .o)))))) (.s (.s .o oo) (.s .o (.s .o (.j [c 1,a 1,w 3 wl,w 5 vi] (.j [c 1,a 1,w 3 wl,w 5 vi,w 6 wr,.rf 80 (.tmp 6) 0 false 1,w 81 vi,w 82 vi] (.s .o (.s oo (.s (.s (.s .o (.s .o (.j [c 1,a 1,w 3 wl,w 5 vi,w 6 wr,.rf 80 (.tmp 6) 0 false 1,w 81 vi,w 82 vi] (.s oo .o)))) .o) .o))))))))))) .o))))) oo))),[(79,1006)],none⟩
noncomputable def g15:AM.Sig:=⟨15,[.val true [vl],.val true [vi,vl,vr]],[(true,[vi,vl,vr]),(false,[vi])]⟩
noncomputable def s15:AM.Spec:=⟨g15,Go.Proofs.Tryz.f15,.s .o (.s .o (.s (.s .o (.s oo .o)) (.s .o (.s .o (.s .o (.s (.s .o (.j [.bx 4 [vi,wl,wr],a 4,.bx 6 [vi,(.sl [.int .i64],.tip),(.sl [.int .i64,.sl [.int .i64],.int .i64],.tip)],a 6,w 8 vl,w 9 vi] (.j [.bx 4 [vi,wl,wr],a 4,.bx 6 [vi,(.sl [.int .i64],.tip),(.sl [.int .i64,.sl [.int .i64],.int .i64],.tip)],a 6,w 8 vl,w 9 vi,w 27 vl,w 28 vi,w 29 vi] (.s .o (.s oo (.s (.s oo .o) .o)))))) (.s .o oo))))))),[(16,51),(24,52),(26,53),(41,54),(45,55),(46,54)],none⟩
noncomputable def g50:AM.Sig:=⟨50,[.val false [vl],.val false [vl]],[(false,[vb])]⟩
noncomputable def s50:AM.Spec:=⟨g50,Go.Proofs.Tryz.f50,.s .o (.s (.s .o (.s oo .o)) (.s (.s .o (.jr [] (.j [w 0 vl,w 1 vl,w 12 vi,w 13 vi] (.s .o (.s oo (.s (.s (.s .o (.s .o (.s oo .o))) .o) .o)))))) oo)),[],none⟩
noncomputable def g14:AM.Sig:=⟨14,[.val true [vi,vl,vr],.val true [vi,vl,vr]],[(false,[vb])]⟩
noncomputable def s14:AM.Spec:=⟨g14,Go.Proofs.Tryz.f14,.s .o (.s (.s (.j [c 2,a 2,c 3,a 3,w 28 vb] .o) (.s oo .o)) (.s (.s .o (.jr [] (.j [c 3,a 3,w 30 vr,w 31 vi,w 32 vi] (.s .o (.s oo (.s (.s (.s .o (.s (.j [c 3,a 3,w 30 vr,w 31 vi,w 32 vi,w 68 vb] .o) (.s oo .o))) .o) .o)))))) oo)),[(17,50),(66,50)],none⟩
noncomputable def g12:AM.Sig:=⟨12,[],[(false,[vb])]⟩
noncomputable def s12:AM.Spec:=⟨g12,Go.Proofs.Tryz.f12,.s .o (.s .o (.s (.j [w 0 vb] .o) .o)),[(5,45),(6,15),(26,14)],none⟩
noncomputable def g56:AM.Sig:=⟨56,[.val true [vl]],[(false,[vb])]⟩
noncomputable def s56:AM.Spec:=⟨g56,Go.Proofs.Tryz.f56,.s .o (.s (.s .o (.s oo .o)) (.s (.s .o (.jr [] (.j [w 10 vl,w 11 vi,w 12 vi] (.s .o (.s oo (.s (.s (.s .o (.s (.j [w 10 vl,w 11 vi,w 12 vi,w 21 vb] .o) (.s oo .o))) .o) .o)))))) oo)),[],none⟩
noncomputable def g16:AM.Sig:=⟨16,[.val true [vl],.val true [vi,vl,vr]],[(false,[vb])]⟩
noncomputable def s16:AM.Spec:=⟨g16,Go.Proofs.Tryz.f16,.s .o (.s (.s (.j [b 2 vl,a 2,c 3,a 3,w 29 vb] .o) (.s oo .o)) (.s (.s .o (.jr [b 2 vl,a 2,c 3,a 3] (.j [b 2 vl,a 2,c 3,a 3,w 31 vl,w 32 vi,w 33 vi] (.s .o (.s oo (.s (.s (.s .o (.s (.j [b 2 vl,a 2,c 3,a 3,w 31 vl,w 32 vi,w 33 vi,w 59 vb] .o) (.s oo .o))) .o) .o)))))) (.s (.s .o (.jr [] (.j [b 2 vl,a 2,c 3,a 3,w 62 vr,w 63 vi,w 64 vi] (.s .o (.s oo (.s (.s (.s .o (.s (.s (.j [b 2 vl,a 2,c 3,a 3,.bx 8 [vi,vl,vi],a 8,w 62 vr,w 63 vi,w 64 vi,w 102 vb] .o) (.s oo .o)) (.s .o (.jr [b 2 vl,a 2,c 3,a 3,w 62 vr,w 63 vi,w 64 vi] (.j [b 2 vl,a 2,c 3,a 3,w 62 vr,w 63 vi,w 64 vi,w 104 vl,w 105 vi,w 106 vi] (.s .o (.s oo (.s (.s (.s .o (.s (.j [b 2 vl,a 2,c 3,a 3,w 62 vr,w 63 vi,w 64 vi,w 104 vl,w 105 vi,w 106 vi,w 117 vb] .o) (.s oo .o))) .o) .o)))))))) .o) .o)))))) oo))),[(12,56)],none⟩
noncomputable def g46:AM.Sig:=⟨46,[.val false [vl],.val false [vl]],[(false,[vb])]⟩
noncomputable def s46:AM.Spec:=⟨g46,Go.Proofs.Tryz.f46,.s .o (.s (.s .o (.s oo .o)) (.s (.s .o (.jr [] (.j [w 0 vl,w 1 vl,w 12 vi,w 13 vi] (.s .o (.s oo (.s (.s (.s .o (.s .o (.s oo .o))) .o) .o)))))) oo)),[],none⟩
noncomputable def g48:AM.Sig:=⟨48,[.val true [vi,vl,vi],.val true [vi,vl,vi]],[(false,[vb])]⟩
noncomputable def s48:AM.Spec:=⟨g48,Go.Proofs.Tryz.f48,.s .o oo,[(7,49)],none⟩
noncomputable def ah7:AM.Sig:=⟨47,[.val false [vr],.val false [vr],.fn 48],[(false,[vb])]⟩
noncomputable def agZ:AM.Spec:=⟨ah7,Go.Proofs.Tryz.f47,.s .o (.s (.s .o (.s oo .o)) (.s (.s .o (.jr [] (.j [w 1 vr,.fn 2 48,w 15 vr,w 16 vi,w 17 vi] (.s .o (.s oo (.s (.s (.s .o (.s .o (.s .o (.s oo .o)))) .o) .o)))))) oo)),[(29,48)],none⟩
noncomputable def g13:AM.Sig:=⟨13,[.val true [vi,vl,vr],.val true [vi,vl,vr]],[(false,[vb])]⟩
noncomputable def s13:AM.Spec:=⟨g13,Go.Proofs.Tryz.f13,.s .o (.s (.j [w 4 vb] .o) .o),[(15,46),(22,1012)],none⟩
noncomputable def g20:AM.Sig:=⟨20,[.val true [vl],.val true [vi,vl,vr],.val true [vi,vl,vr]],[(false,[vb]),(false,[vi])]⟩
noncomputable def s20:AM.Spec:=⟨g20,Go.Proofs.Tryz.f20,.s .o (.s (.s (.j [b 3 vl,a 3,c 4,a 4,c 5,a 5,w 20 vb] .o) (.s oo .o)) (.s .o (.s (.s .o (.s oo .o)) (.s .o (.s (.s .o (.s oo .o)) oo))))),[(13,60),(18,60),(24,15),(33,15),(41,13)],none⟩
noncomputable def g23:AM.Sig:=⟨23,[.val true [vi,vl,vr]],[(false,[vb])]⟩
noncomputable def s23:AM.Spec:=⟨g23,Go.Proofs.Tryz.f23,.s .o (.s (.s .o (.jr [] (.j [c 1,a 1,w 8 vr,w 9 vi,w 10 vi] (.s .o (.s oo (.s (.s (.s .o (.s .o (.jr [c 1,a 1,w 8 vr,w 9 vi,w 10 vi] (.j [c 1,a 1,.bx 4 [vi,vl,vi],a 4,w 8 vr,w 9 vi,w 10 vi,w 18 vr,w 19 vi,w 20 vi] (.s .o (.s oo (.s (.s (.s .o (.s (.j [c 1,a 1,.bx 4 [vi,vl,vi],a 4,w 8 vr,w 9 vi,w 10 vi,w 18 vr,w 19 vi,w 20 vi,w 35 vb] .o) (.s oo .o))) .o) .o))))))) .o) .o)))))) oo),[(34,50)],none⟩
noncomputable def akc:AM.Sig:=⟨111,[.val true [vi,vl,vr]],[(false,[xb])]⟩
noncomputable def aiT:AM.Spec:=⟨akc,Go.Proofs.Tryz.f111,.s .o (.s .o (.s (.s .o (.j [w 3 xb] (.j [c 1,a 1,w 3 xb,w 4 vb] (.s (.s .o oo) (.s (.s .o (.s .o (.j [c 1,a 1,w 3 xb,w 4 vb] (.j [c 1,a 1,w 3 xb,w 4 vb,w 15 vr,w 16 vi,w 17 vi] (.s .o (.s oo (.s (.s (.s .o (.s .o (.s (.s .o (.j [c 1,a 1,w 3 xb,w 4 vb,.bx 6 [vi,vl,vi],a 6,w 7 vb,w 15 vr,w 16 vi,w 17 vi] (.j [c 1,a 1,w 3 xb,w 4 vb,.bx 6 [vi,vl,vi],a 6,w 7 vb,w 15 vr,w 16 vi,w 17 vi,w 22 vl,w 23 vi,w 24 vi] (.s .o (.s oo (.s (.s (.s .o (.j [c 1,a 1,w 3 xb,w 4 vb,.bx 6 [vi,vl,vi],a 6,w 7 vb,w 15 vr,w 16 vi,w 17 vi,w 22 vl,w 23 vi,w 24 vi] .o)) .o) .o)))))) (.s (.j [c 1,a 1,w 3 xb,w 4 vb,.bx 6 [vi,vl,vi],a 6,w 15 vr,w 16 vi,w 17 vi,w 44 vb] .o) (.j [c 1,a 1,w 3 xb,w 4 vb,w 15 vr,w 16 vi,w 17 vi] oo))))) .o) .o))))))) .o))))) oo)),[],none⟩
noncomputable def g64:AM.Sig:=⟨64,[.val true [vi,vl,vr]],[(false,[xb])]⟩
noncomputable def s64:AM.Spec:=⟨g64,Go.Proofs.Tryz.f64,.s .o (.s .o (.s .o (.s (.s .o (.j [c 1,a 1,w 3 xb,w 4 xb] (.j [c 1,a 1,w 3 xb,w 4 xb,w 21 vl,w 22 vi,w 23 vi] (.s .o (.s oo (.s (.s oo .o) .o)))))) (.s (.s .o (.j [w 4 xb] (.j [c 1,a 1,w 3 xb,w 4 xb,w 7 vb] (.s (.s .o oo) (.s (.s .o (.s .o (.j [c 1,a 1,w 3 xb,w 4 xb,w 7 vb] (.j [c 1,a 1,w 3 xb,w 4 xb,w 7 vb,w 37 vr,w 38 vi,w 39 vi] (.s .o (.s oo (.s (.s (.s .o (.s .o (.s (.s .o (.j [c 1,a 1,w 3 xb,w 4 xb,w 7 vb,.bx 9 [vi,vl,vi],a 9,w 10 vb,w 37 vr,w 38 vi,w 39 vi] (.j [c 1,a 1,w 3 xb,w 4 xb,w 7 vb,.bx 9 [vi,vl,vi],a 9,w 10 vb,w 37 vr,w 38 vi,w 39 vi,w 49 vl,w 50 vi,w 51 vi] (.s .o (.s oo (.s (.s (.s .o (.j [c 1,a 1,w 3 xb,w 4 xb,w 7 vb,.bx 9 [vi,vl,vi],a 9,w 10 vb,w 37 vr,w 38 vi,w 39 vi,w 49 vl,w 50 vi,w 51 vi] .o)) .o) .o)))))) (.s .o (.j [c 1,a 1,w 3 xb,w 4 xb,w 7 vb,w 37 vr,w 38 vi,w 39 vi] (.j [c 1,a 1,w 3 xb,w 4 xb,w 7 vb,w 10 vb,w 37 vr,w 38 vi,w 39 vi,w 64 vl,w 65 vi,w 66 vi] (.s .o (.s oo (.s (.s (.s .o (.s (.j [c 1,a 1,w 3 xb,w 4 xb,w 7 vb,w 10 vb,w 14 vi,w 37 vr,w 38 vi,w 39 vi,w 64 vl,w 65 vi,w 66 vi,w 77 vb] .o) (.j [c 1,a 1,w 3 xb,w 4 xb,w 7 vb,w 10 vb,w 37 vr,w 38 vi,w 39 vi,w 64 vl,w 65 vi,w 66 vi] oo))) .o) .o))))))))) .o) .o))))))) .o))))) oo)))),[(16,111)],none⟩
noncomputable def aks:AM.Sig:=⟨151,[.val true [vi,vl,vi]],[(false,[wl])]⟩
noncomputable def ai9:AM.Spec:=⟨aks,Go.Proofs.Tryz.f151,.s .o oo,[],none⟩
noncomputable def akr:AM.Sig:=⟨150,[.val false [vl],.val false [vl]],[(false,[vi])]⟩
noncomputable def ai8:AM.Spec:=⟨akr,Go.Proofs.Tryz.f150,.s .o (.s (.s .o (.jr [w 0 vl,w 1 vl] (.j [w 0 vl,w 1 vl,w 10 vi,w 11 vi] (.s .o (.s oo (.s (.s (.s .o (.s (.s .o (.s oo .o)) (.s .o (.s oo .o)))) .o) .o)))))) (.s (.s (.s .o (.s oo (.s .o (.s oo .o)))) .o) oo)),[],none⟩
noncomputable def akb:AM.Sig:=⟨110,[.val false [vr]],[(false,[wr])]⟩
noncomputable def aiS:AM.Spec:=⟨akb,Go.Proofs.Tryz.f110,.s .o (.s .o (.s (.s .o (.j [w 3 wr] (.j [w 3 wr,w 9 vr,w 10 vi,w 11 vi] (.s .o (.s oo (.s (.s (.s .o (.s .o (.s (.j [w 3 wr,.bx 5 [vi,vl,vi],a 5,w 6 vi,w 9 vr,w 10 vi,w 11 vi] (.j [w 3 wr,.bx 5 [vi,vl,vi],a 5,w 6 vi,w 7 vi,w 9 vr,w 10 vi,w 11 vi] (.s (.s .o oo) (.s (.s .o (.s .o (.j [w 3 wr,.bx 5 [vi,vl,vi],a 5,w 6 vi,w 7 vi,w 9 vr,w 10 vi,w 11 vi] oo))) .o)))) (.s (.j [w 3 wr,.bx 5 [vi,vl,vi],a 5,w 6 vi,w 9 vr,w 10 vi,w 11 vi,w 50 vb] .o) (.j [w 3 wr,w 9 vr,w 10 vi,w 11 vi] (.s (.s .o oo) .o)))))) .o) .o)))))) oo)),[(28,151),(30,151),(31,150),(45,151),(47,151),(48,150)],none⟩
noncomputable def g63:AM.Sig:=⟨63,[.val true [vi,vl,vr],.val false [(.sl [.bool],.pure)]],[(true,[vi,wl,wr])]⟩
noncomputable def s63:AM.Spec:=⟨g63,Go.Proofs.Tryz.f63,.s .o (.s .o (.s .o (.s (.s .o (.j [.tm 1 false [(.sl [.bool],.pure)],c 2,a 2,.bx 4 [vi,wl,wr],a 4,w 5 wl,.bx 6 [vi,wl,wr],a 6] (.j [.tm 1 false [(.sl [.bool],.pure)],c 2,a 2,.bx 4 [vi,wl,wr],a 4,w 5 wl,.bx 6 [vi,wl,wr],a 6,.tm 20 false [(.sl [.bool],.pure)],w 21 vi,w 22 vi] (.s .o (.s oo (.s (.s (.s .o (.s .o (.j [.tm 1 false [(.sl [.bool],.pure)],c 2,a 2,.bx 4 [vi,wl,wr],a 4,w 5 wl,.bx 6 [vi,wl,wr],a 6,.tm 20 false [(.sl [.bool],.pure)],w 21 vi,w 22 vi] (.s oo .o)))) .o) .o)))))) (.s (.s .o (.j [.tm 1 false [(.sl [.bool],.pure)],c 2,a 2,.bx 4 [vi,wl,wr],a 4,w 5 wl,.bx 6 [vi,wl,wr],a 6] (.j [.tm 1 false [(.sl [.bool],.pure)],c 2,a 2,.bx 4 [vi,wl,wr],a 4,w 5 wl,.bx 6 [vi,wl,wr],a 6,w 39 vl,w 40 vi,w 41 vi] (.s .o (.s oo (.s (.s (.s .o (.s .o (.j [.tm 1 false [(.sl [.bool],.pure)],c 2,a 2,.bx 4 [vi,wl,wr],a 4,w 5 wl,.bx 6 [vi,wl,wr],a 6,w 39 vl,w 40 vi,w 41 vi] oo))) .o) .o)))))) (.s (.s .o (.j [.bx 4 [vi,wl,wr],a 4,.bx 6 [vi,wl,wr],a 6] (.j [.tm 1 false [(.sl [.bool],.pure)],.bx 4 [vi,wl,wr],a 4,w 5 wl,.bx 6 [vi,wl,wr],a 6,w 60 vr,w 61 vi,w 62 vi] (.s .o (.s oo (.s (.s (.s .o (.s .o (.s .o (.s (.s .o (.j [.tm 1 false [(.sl [.bool],.pure)],.bx 4 [vi,wl,wr],a 4,w 5 wl,.bx 6 [vi,wl,wr],a 6,.bx 12 [vi,vl,vi],a 12,w 13 vb,w 14 wl,w 60 vr,w 61 vi,w 62 vi] (.j [.tm 1 false [(.sl [.bool],.pure)],.bx 4 [vi,wl,wr],a 4,w 5 wl,.bx 6 [vi,wl,wr],a 6,.bx 12 [vi,vl,vi],a 12,w 13 vb,w 14 wl,w 60 vr,w 61 vi,w 62 vi,w 72 vl,w 73 vi,w 74 vi] (.s .o (.s oo (.s (.s (.s .o (.s (.j [.tm 1 false [(.sl [.bool],.pure)],.bx 4 [vi,wl,wr],a 4,w 5 wl,.bx 6 [vi,wl,wr],a 6,.bx 12 [vi,vl,vi],a 12,w 13 vb,w 14 wl,w 16 vi,w 60 vr,w 61 vi,w 62 vi,w 72 vl,w 73 vi,w 74 vi] .o) .o)) .o) .o)))))) (.s .o (.j [.tm 1 false [(.sl [.bool],.pure)],.bx 4 [vi,wl,wr],a 4,w 5 wl,.bx 6 [vi,wl,wr],a 6,w 60 vr,w 61 vi,w 62 vi] oo)))))) .o) .o)))))) (.s .o oo)))))),[(111,110)],none⟩
noncomputable def g24:AM.Sig:=⟨24,[.val true [vi,vl,vr]],[(true,[vi,wl,wr])]⟩
noncomputable def s24:AM.Spec:=⟨g24,Go.Proofs.Tryz.f24,.s .o oo,[(5,64),(6,63)],none⟩
noncomputable def aj3:AM.Sig:=⟨101,[.val false [vi],.val false [vi]],[(false,[vi])]⟩
noncomputable def aiN:AM.Spec:=⟨aj3,Go.Proofs.Tryz.f101,.s .o (.s .o (.s (.s .o (.j [w 5 vi] (.j [w 0 vi,w 5 vi,w 6 vi,w 7 vi] (.s .o (.s oo (.s oo .o)))))) oo)),[],none⟩
noncomputable def g58:AM.Sig:=⟨58,[.val true [vi,vl,vr]],[(false,[vi])]⟩
noncomputable def s58:AM.Spec:=⟨g58,Go.Proofs.Tryz.f58,.s .o oo,[(4,24),(6,101)],none⟩
noncomputable def g83:AM.Sig:=⟨83,[.val true [vl],.val false [vi]],[(false,[vi])]⟩
noncomputable def s83:AM.Spec:=⟨g83,Go.Proofs.Tryz.f83,.s .o (.s .o (.s (.s .o (.j [w 5 vi] (.j [w 1 vi,w 5 vi,w 9 vl,w 10 vi,w 11 vi] (.s .o (.s oo (.s (.s oo .o) .o)))))) oo)),[(18,101)],none⟩
noncomputable def g57:AM.Sig:=⟨57,[.val true [vl],.val false [vi]],[(false,[vb])]⟩
noncomputable def s57:AM.Spec:=⟨g57,Go.Proofs.Tryz.f57,.s .o (.s (.j [w 4 vb] .o) .o),[(10,83)],none⟩
noncomputable def g17:AM.Sig:=⟨17,[.val true [vl],.val true [vi,vl,vr]],[(false,[vb])]⟩
noncomputable def s17:AM.Spec:=⟨g17,Go.Proofs.Tryz.f17,.s .o (.s (.j [w 4 vb] .o) .o),[(6,23),(10,58),(11,57)],none⟩
noncomputable def g65:AM.Sig:=⟨65,[.val true [vl],.val true [vi,vk]],[(false,[vb])]⟩
noncomputable def s65:AM.Spec:=⟨g65,Go.Proofs.Tryz.f65,.s .o (.s (.s (.j [b 2 vl,a 2,.bx 3 [vi,vk],a 3,w 29 vb] .o) (.s oo .o)) (.s (.s .o (.jr [] (.j [b 2 vl,a 2,w 31 vk,w 32 vi,w 33 vi] (.s .o (.s oo (.s (.s (.s .o (.s .o (.s oo .o))) .o) .o)))))) oo)),[(39,65)],none⟩
noncomputable def g25:AM.Sig:=⟨25,[.val true [vl],.val true [vi,vk]],[(false,[vb])]⟩
noncomputable def s25:AM.Spec:=⟨g25,Go.Proofs.Tryz.f25,.s .o (.s (.j [w 4 vb] .o) .o),[(6,56),(9,22),(14,65)],none⟩
noncomputable def aj6:AM.Sig:=⟨105,[.val false [vl],.val false [vi]],[(false,[vb])]⟩
noncomputable def aiO:AM.Spec:=⟨aj6,Go.Proofs.Tryz.f105,.s .o (.s (.s .o (.jr [] (.j [w 1 vi,w 7 vl,w 8 vi,w 9 vi] (.s .o (.s oo (.s (.s (.s .o (.s .o (.s oo .o))) .o) .o)))))) oo),[],none⟩
noncomputable def aj7:AM.Sig:=⟨106,[.val false [vl],.val false [vi]],[(false,[vl])]⟩
noncomputable def aiP:AM.Spec:=⟨aj7,Go.Proofs.Tryz.f106,.s .o (.s .o (.s (.j [w 0 vl,w 1 vi,w 5 vi] (.j [w 0 vl,w 1 vi,w 5 vi] (.s (.s (.j [w 0 vl,w 1 vi,w 5 vi,w 17 vb] .o) oo) oo))) (.s (.s (.j [w 0 vl,w 1 vi,w 5 vi,w 31 vb] .o) (.s oo .o)) oo))),[],none⟩
noncomputable def akd:AM.Sig:=⟨112,[.val true [vi,vl,vr],.val false [vi],.val false [(.sl [.sl [.int .i64]],.pure)]],[(false,[vl])]⟩
noncomputable def aiU:AM.Spec:=⟨akd,Go.Proofs.Tryz.f112,.s .o (.s .o (.s (.s .o (.j [w 7 vl] (.j [w 1 vi,.tm 2 false [(.sl [.sl [.int .i64]],.pure)],w 7 vl,w 13 vr,w 14 vi,w 15 vi] (.s .o (.s oo (.s (.s (.s .o (.s .o (.s (.s .o (.j [w 1 vi,.tm 2 false [(.sl [.sl [.int .i64]],.pure)],w 7 vl,.bx 9 [vi,vl,vi],a 9,w 10 vb,w 13 vr,w 14 vi,w 15 vi] (.j [w 1 vi,.tm 2 false [(.sl [.sl [.int .i64]],.pure)],w 7 vl,.bx 9 [vi,vl,vi],a 9,w 10 vb,w 11 vi,w 13 vr,w 14 vi,w 15 vi] (.s (.s (.j [w 1 vi,.tm 2 false [(.sl [.sl [.int .i64]],.pure)],w 7 vl,.bx 9 [vi,vl,vi],a 9,w 10 vb,w 11 vi,w 13 vr,w 14 vi,w 15 vi,w 29 vb] .o) oo) (.s oo .o))))) (.s .o (.j [w 1 vi,.tm 2 false [(.sl [.sl [.int .i64]],.pure)],w 7 vl,w 13 vr,w 14 vi,w 15 vi] oo))))) .o) .o)))))) oo)),[(41,105),(46,106)],none⟩
noncomputable def g67:AM.Sig:=⟨67,[.val true [vi,vl,vr],.val true [vi,vk]],[(false,[vl])]⟩
noncomputable def s67:AM.Spec:=⟨g67,Go.Proofs.Tryz.f67,.s .o (.s .o (.s (.s .o (.j [c 2,a 2,.bx 3 [vi,vk],a 3,w 5 xl] (.j [c 2,a 2,.bx 3 [vi,vk],a 3,w 5 xl,w 9 vk,w 10 vi,w 11 vi] (.s .o (.s oo (.s (.s oo .o) .o)))))) oo)),[(18,67),(26,112)],none⟩
noncomputable def g66:AM.Sig:=⟨66,[.val false [vl],.val false [vl]],[(false,[vb])]⟩
noncomputable def s66:AM.Spec:=⟨g66,Go.Proofs.Tryz.f66,.s .o (.s (.s .o (.jr [] (.j [w 1 vl,w 7 vl,w 8 vi,w 9 vi] (.s .o (.s oo (.s (.s (.s .o (.s .o (.s oo .o))) .o) .o)))))) oo),[(15,105)],none⟩
noncomputable def g26:AM.Sig:=⟨26,[.val true [vi,vl,vr],.val true [vi,vk]],[(false,[vb])]⟩
noncomputable def s26:AM.Spec:=⟨g26,Go.Proofs.Tryz.f26,.s .o oo,[(7,67),(10,66)],none⟩
noncomputable def g5:AM.Sig:=⟨5,[.val true [vl],.val true [vi,vl,vr],.val true [vi,vl,vr],.val true [vi,vk]],[(false,[vb])]⟩
noncomputable def s5:AM.Spec:=⟨g5,Go.Proofs.Tryz.f5,.s .o (.s (.s (.j [b 4 vl,a 4,c 5,a 5,c 6,a 6,.bx 7 [vi,vk],a 7,w 29 vb] .o) (.s oo .o)) (.s .o (.s .o (.s (.s (.j [b 4 vl,a 4,c 5,a 5,c 6,a 6,.bx 7 [vi,vk],a 7,c 9,a 9,c 11,a 11,w 48 vb] .o) (.s oo .o)) (.s (.s (.j [b 4 vl,a 4,c 5,a 5,c 6,a 6,.bx 7 [vi,vk],a 7,c 9,a 9,c 11,a 11,w 59 vb] .o) (.s oo .o)) (.s .o (.s .o (.s (.s (.j [b 4 vl,a 4,c 5,a 5,c 6,a 6,.bx 7 [vi,vk],a 7,c 9,a 9,c 11,a 11,w 15 vb,w 16 vi,w 80 vb] .o) (.s oo .o)) (.s (.s (.j [b 4 vl,a 4,c 5,a 5,c 6,a 6,.bx 7 [vi,vk],a 7,c 9,a 9,c 11,a 11,w 15 vb,w 16 vi,w 94 vb] .o) (.s oo .o)) (.s (.s (.j [b 4 vl,a 4,c 5,a 5,c 6,a 6,.bx 7 [vi,vk],a 7,c 9,a 9,w 15 vb,w 104 vb] .o) (.s oo .o)) (.s (.s (.j [b 4 vl,a 4,c 5,a 5,c 6,a 6,.bx 7 [vi,vk],a 7,c 9,a 9,w 15 vb,w 117 vb] .o) (.s oo .o)) (.s (.s .o (.s oo .o)) (.s .o (.s (.j [w 8 vb] .o) .o)))))))))))))),[(23,11),(27,22),(30,12),(34,15),(40,15),(49,12),(52,16),(57,16),(63,15),(70,20),(78,13),(86,17),(91,17),(95,12),(102,13),(108,23),(112,24),(120,25),(122,12),(125,26),(128,26),(131,26),(144,12)],none⟩
noncomputable def Ky:List (Nat×AM.Spec):=[(43,s43),(11,s11),(62,s62),(22,s22),(45,s45),(149,ai7),(1001,agO),(1000,agN),(108,aiQ),(109,aiR),(60,s60),(171,ajc),(137,ai5),(96,s96),(125,aiW),(89,s89),(116,aiV),(85,s85),(133,ai3),(131,ai1),(132,ai2),(1003,agQ),(1002,agP),(92,s92),(130,ai0),(1005,agS),(1004,agR),(1006,agT),(124,ahn),(87,s87),(88,s88),(86,s86),(49,s49),(139,ai6),(1007,agU),(99,s99),(91,s91),(74,s74),(75,s75),(1008,agV),(189,ajd),(167,aja),(168,ajb),(126,aiX),(94,s94),(127,aiY),(129,aiZ),(1010,agX),(1009,agW),(90,s90),(51,s51),(52,s52),(93,s93),(134,ai4),(1011,agY),(95,s95),(97,s97),(53,s53),(78,s78),(98,s98),(54,s54),(55,s55),(15,s15),(50,s50),(14,s14),(12,s12),(56,s56),(16,s16),(46,s46),(48,s48),(1012,agZ),(13,s13),(20,s20),(23,s23),(111,aiT),(64,s64),(151,ai9),(150,ai8),(110,aiS),(63,s63),(24,s24),(101,aiN),(58,s58),(83,s83),(57,s57),(17,s17),(65,s65),(25,s25),(105,aiO),(106,aiP),(112,aiU),(67,s67),(66,s66),(26,s26),(5,s5)]
noncomputable def Yi (g:Nat):Option (List CV):=bif Nat.beq g 0 then some [⟨.sl [.int .i64],.pure,([0,0,2]:List Int)⟩]else bif Nat.beq g 2 then some [⟨.int .u64,.pure,(1:Int)⟩,⟨.int .u64,.pure,(10:Int)⟩,⟨.int .u64,.pure,(100:Int)⟩,⟨.int .u64,.pure,(1000:Int)⟩,⟨.int .u64,.pure,(10000:Int)⟩,⟨.int .u64,.pure,(100000:Int)⟩,⟨.int .u64,.pure,(1000000:Int)⟩,⟨.int .u64,.pure,(10000000:Int)⟩,⟨.int .u64,.pure,(100000000:Int)⟩,⟨.int .u64,.pure,(1000000000:Int)⟩,⟨.int .u64,.pure,(10000000000:Int)⟩,⟨.int .u64,.pure,(100000000000:Int)⟩,⟨.int .u64,.pure,(1000000000000:Int)⟩,⟨.int .u64,.pure,(10000000000000:Int)⟩,⟨.int .u64,.pure,(100000000000000:Int)⟩,⟨.int .u64,.pure,(1000000000000000:Int)⟩,⟨.int .u64,.pure,(10000000000000000:Int)⟩,⟨.int .u64,.pure,(100000000000000000:Int)⟩,⟨.int .u64,.pure,(1000000000000000000:Int)⟩,⟨.int .u64,.pure,(10000000000000000000:Int)⟩]else none
noncomputable def prg:AM.Prg:=⟨Pm ahe,Yi,agJ s43 Ky⟩
theorem aiC:jX Go.Proofs.Tryz.prog s43:=⟨Go.Proofs.Tryz.func43,by kernel_rfl,by kernel_rfl⟩
theorem ajh:jX Go.Proofs.Tryz.prog s11:=⟨Go.Proofs.Tryz.func11,by kernel_rfl,by kernel_rfl⟩
theorem ajH:jX Go.Proofs.Tryz.prog s62:=⟨Go.Proofs.Tryz.func62,by kernel_rfl,by kernel_rfl⟩
theorem ajp:jX Go.Proofs.Tryz.prog s22:=⟨Go.Proofs.Tryz.func22,by kernel_rfl,by kernel_rfl⟩
theorem aju:jX Go.Proofs.Tryz.prog s45:=⟨Go.Proofs.Tryz.func45,by kernel_rfl,by kernel_rfl⟩
theorem ahQ:jX Go.Proofs.Tryz.prog ai7:=⟨Go.Proofs.Tryz.func149,by kernel_rfl,by kernel_rfl⟩
theorem af5:jX Go.Proofs.Tryz.prog agO:=⟨Go.Proofs.Tryz.func169,by kernel_rfl,by kernel_rfl⟩
theorem af4:jX Go.Proofs.Tryz.prog agN:=⟨Go.Proofs.Tryz.func128,by kernel_rfl,by kernel_rfl⟩
theorem ahz:jX Go.Proofs.Tryz.prog aiQ:=⟨Go.Proofs.Tryz.func108,by kernel_rfl,by kernel_rfl⟩
theorem ahA:jX Go.Proofs.Tryz.prog aiR:=⟨Go.Proofs.Tryz.func109,by kernel_rfl,by kernel_rfl⟩
theorem ajG:jX Go.Proofs.Tryz.prog s60:=⟨Go.Proofs.Tryz.func60,by kernel_rfl,by kernel_rfl⟩
theorem ahV:jX Go.Proofs.Tryz.prog ajc:=⟨Go.Proofs.Tryz.func171,by kernel_rfl,by kernel_rfl⟩
theorem ahO:jX Go.Proofs.Tryz.prog ai5:=⟨Go.Proofs.Tryz.func137,by kernel_rfl,by kernel_rfl⟩
theorem ajZ:jX Go.Proofs.Tryz.prog s96:=⟨Go.Proofs.Tryz.func96,by kernel_rfl,by kernel_rfl⟩
theorem ahF:jX Go.Proofs.Tryz.prog aiW:=⟨Go.Proofs.Tryz.func125,by kernel_rfl,by kernel_rfl⟩
theorem ajS:jX Go.Proofs.Tryz.prog s89:=⟨Go.Proofs.Tryz.func89,by kernel_rfl,by kernel_rfl⟩
theorem ahE:jX Go.Proofs.Tryz.prog aiV:=⟨Go.Proofs.Tryz.func116,by kernel_rfl,by kernel_rfl⟩
theorem ajR:jX Go.Proofs.Tryz.prog s85:=⟨Go.Proofs.Tryz.func85,by kernel_rfl,by kernel_rfl⟩
theorem ahM:jX Go.Proofs.Tryz.prog ai3:=⟨Go.Proofs.Tryz.func133,by kernel_rfl,by kernel_rfl⟩
theorem ahK:jX Go.Proofs.Tryz.prog ai1:=⟨Go.Proofs.Tryz.func131,by kernel_rfl,by kernel_rfl⟩
theorem ahL:jX Go.Proofs.Tryz.prog ai2:=⟨Go.Proofs.Tryz.func132,by kernel_rfl,by kernel_rfl⟩
theorem af7:jX Go.Proofs.Tryz.prog agQ:=⟨Go.Proofs.Tryz.func169,by kernel_rfl,by kernel_rfl⟩
theorem af6:jX Go.Proofs.Tryz.prog agP:=⟨Go.Proofs.Tryz.func128,by kernel_rfl,by kernel_rfl⟩
theorem ajV:jX Go.Proofs.Tryz.prog s92:=⟨Go.Proofs.Tryz.func92,by kernel_rfl,by kernel_rfl⟩
theorem ahJ:jX Go.Proofs.Tryz.prog ai0:=⟨Go.Proofs.Tryz.func130,by kernel_rfl,by kernel_rfl⟩
theorem af9:jX Go.Proofs.Tryz.prog agS:=⟨Go.Proofs.Tryz.func169,by kernel_rfl,by kernel_rfl⟩
theorem af8:jX Go.Proofs.Tryz.prog agR:=⟨Go.Proofs.Tryz.func128,by kernel_rfl,by kernel_rfl⟩
theorem aga:jX Go.Proofs.Tryz.prog agT:=⟨Go.Proofs.Tryz.func100,by kernel_rfl,by kernel_rfl⟩
theorem aeo:jX Go.Proofs.Tryz.prog ahn:=⟨Go.Proofs.Tryz.func124,by kernel_rfl,by kernel_rfl⟩
theorem aiF:jX Go.Proofs.Tryz.prog s87:=⟨Go.Proofs.Tryz.func87,by kernel_rfl,by kernel_rfl⟩
theorem aiG:jX Go.Proofs.Tryz.prog s88:=⟨Go.Proofs.Tryz.func88,by kernel_rfl,by kernel_rfl⟩
theorem aiE:jX Go.Proofs.Tryz.prog s86:=⟨Go.Proofs.Tryz.func86,by kernel_rfl,by kernel_rfl⟩
theorem aiD:jX Go.Proofs.Tryz.prog s49:=⟨Go.Proofs.Tryz.func49,by kernel_rfl,by kernel_rfl⟩
theorem ahP:jX Go.Proofs.Tryz.prog ai6:=⟨Go.Proofs.Tryz.func139,by kernel_rfl,by kernel_rfl⟩
theorem agb:jX Go.Proofs.Tryz.prog agU:=⟨Go.Proofs.Tryz.func138,by kernel_rfl,by kernel_rfl⟩
theorem aj2:jX Go.Proofs.Tryz.prog s99:=⟨Go.Proofs.Tryz.func99,by kernel_rfl,by kernel_rfl⟩
theorem ajU:jX Go.Proofs.Tryz.prog s91:=⟨Go.Proofs.Tryz.func91,by kernel_rfl,by kernel_rfl⟩
theorem ajN:jX Go.Proofs.Tryz.prog s74:=⟨Go.Proofs.Tryz.func74,by kernel_rfl,by kernel_rfl⟩
theorem ajO:jX Go.Proofs.Tryz.prog s75:=⟨Go.Proofs.Tryz.func75,by kernel_rfl,by kernel_rfl⟩
theorem agc:jX Go.Proofs.Tryz.prog agV:=⟨Go.Proofs.Tryz.func116,by kernel_rfl,by kernel_rfl⟩
theorem ahW:jX Go.Proofs.Tryz.prog ajd:=⟨Go.Proofs.Tryz.func189,by kernel_rfl,by kernel_rfl⟩
theorem ahT:jX Go.Proofs.Tryz.prog aja:=⟨Go.Proofs.Tryz.func167,by kernel_rfl,by kernel_rfl⟩
theorem ahU:jX Go.Proofs.Tryz.prog ajb:=⟨Go.Proofs.Tryz.func168,by kernel_rfl,by kernel_rfl⟩
theorem ahG:jX Go.Proofs.Tryz.prog aiX:=⟨Go.Proofs.Tryz.func126,by kernel_rfl,by kernel_rfl⟩
theorem ajX:jX Go.Proofs.Tryz.prog s94:=⟨Go.Proofs.Tryz.func94,by kernel_rfl,by kernel_rfl⟩
theorem ahH:jX Go.Proofs.Tryz.prog aiY:=⟨Go.Proofs.Tryz.func127,by kernel_rfl,by kernel_rfl⟩
theorem ahI:jX Go.Proofs.Tryz.prog aiZ:=⟨Go.Proofs.Tryz.func129,by kernel_rfl,by kernel_rfl⟩
theorem agf:jX Go.Proofs.Tryz.prog agX:=⟨Go.Proofs.Tryz.func169,by kernel_rfl,by kernel_rfl⟩
theorem agd:jX Go.Proofs.Tryz.prog agW:=⟨Go.Proofs.Tryz.func128,by kernel_rfl,by kernel_rfl⟩
theorem ajT:jX Go.Proofs.Tryz.prog s90:=⟨Go.Proofs.Tryz.func90,by kernel_rfl,by kernel_rfl⟩
theorem ajy:jX Go.Proofs.Tryz.prog s51:=⟨Go.Proofs.Tryz.func51,by kernel_rfl,by kernel_rfl⟩
theorem ajz:jX Go.Proofs.Tryz.prog s52:=⟨Go.Proofs.Tryz.func52,by kernel_rfl,by kernel_rfl⟩
theorem ajW:jX Go.Proofs.Tryz.prog s93:=⟨Go.Proofs.Tryz.func93,by kernel_rfl,by kernel_rfl⟩
theorem ahN:jX Go.Proofs.Tryz.prog ai4:=⟨Go.Proofs.Tryz.func134,by kernel_rfl,by kernel_rfl⟩
theorem agh:jX Go.Proofs.Tryz.prog agY:=⟨Go.Proofs.Tryz.func135,by kernel_rfl,by kernel_rfl⟩
theorem ajY:jX Go.Proofs.Tryz.prog s95:=⟨Go.Proofs.Tryz.func95,by kernel_rfl,by kernel_rfl⟩
theorem aj0:jX Go.Proofs.Tryz.prog s97:=⟨Go.Proofs.Tryz.func97,by kernel_rfl,by kernel_rfl⟩
theorem ajA:jX Go.Proofs.Tryz.prog s53:=⟨Go.Proofs.Tryz.func53,by kernel_rfl,by kernel_rfl⟩
theorem ajP:jX Go.Proofs.Tryz.prog s78:=⟨Go.Proofs.Tryz.func78,by kernel_rfl,by kernel_rfl⟩
theorem aj1:jX Go.Proofs.Tryz.prog s98:=⟨Go.Proofs.Tryz.func98,by kernel_rfl,by kernel_rfl⟩
theorem ajB:jX Go.Proofs.Tryz.prog s54:=⟨Go.Proofs.Tryz.func54,by kernel_rfl,by kernel_rfl⟩
theorem ajC:jX Go.Proofs.Tryz.prog s55:=⟨Go.Proofs.Tryz.func55,by kernel_rfl,by kernel_rfl⟩
theorem ajl:jX Go.Proofs.Tryz.prog s15:=⟨Go.Proofs.Tryz.func15,by kernel_rfl,by kernel_rfl⟩
theorem ajx:jX Go.Proofs.Tryz.prog s50:=⟨Go.Proofs.Tryz.func50,by kernel_rfl,by kernel_rfl⟩
theorem ajk:jX Go.Proofs.Tryz.prog s14:=⟨Go.Proofs.Tryz.func14,by kernel_rfl,by kernel_rfl⟩
theorem aji:jX Go.Proofs.Tryz.prog s12:=⟨Go.Proofs.Tryz.func12,by kernel_rfl,by kernel_rfl⟩
theorem ajD:jX Go.Proofs.Tryz.prog s56:=⟨Go.Proofs.Tryz.func56,by kernel_rfl,by kernel_rfl⟩
theorem ajm:jX Go.Proofs.Tryz.prog s16:=⟨Go.Proofs.Tryz.func16,by kernel_rfl,by kernel_rfl⟩
theorem ajv:jX Go.Proofs.Tryz.prog s46:=⟨Go.Proofs.Tryz.func46,by kernel_rfl,by kernel_rfl⟩
theorem ajw:jX Go.Proofs.Tryz.prog s48:=⟨Go.Proofs.Tryz.func48,by kernel_rfl,by kernel_rfl⟩
theorem agi:jX Go.Proofs.Tryz.prog agZ:=⟨Go.Proofs.Tryz.func47,by kernel_rfl,by kernel_rfl⟩
theorem ajj:jX Go.Proofs.Tryz.prog s13:=⟨Go.Proofs.Tryz.func13,by kernel_rfl,by kernel_rfl⟩
theorem ajo:jX Go.Proofs.Tryz.prog s20:=⟨Go.Proofs.Tryz.func20,by kernel_rfl,by kernel_rfl⟩
theorem ajq:jX Go.Proofs.Tryz.prog s23:=⟨Go.Proofs.Tryz.func23,by kernel_rfl,by kernel_rfl⟩
theorem ahC:jX Go.Proofs.Tryz.prog aiT:=⟨Go.Proofs.Tryz.func111,by kernel_rfl,by kernel_rfl⟩
theorem ajJ:jX Go.Proofs.Tryz.prog s64:=⟨Go.Proofs.Tryz.func64,by kernel_rfl,by kernel_rfl⟩
theorem ahS:jX Go.Proofs.Tryz.prog ai9:=⟨Go.Proofs.Tryz.func151,by kernel_rfl,by kernel_rfl⟩
theorem ahR:jX Go.Proofs.Tryz.prog ai8:=⟨Go.Proofs.Tryz.func150,by kernel_rfl,by kernel_rfl⟩
theorem ahB:jX Go.Proofs.Tryz.prog aiS:=⟨Go.Proofs.Tryz.func110,by kernel_rfl,by kernel_rfl⟩
theorem ajI:jX Go.Proofs.Tryz.prog s63:=⟨Go.Proofs.Tryz.func63,by kernel_rfl,by kernel_rfl⟩
theorem ajr:jX Go.Proofs.Tryz.prog s24:=⟨Go.Proofs.Tryz.func24,by kernel_rfl,by kernel_rfl⟩
theorem ahw:jX Go.Proofs.Tryz.prog aiN:=⟨Go.Proofs.Tryz.func101,by kernel_rfl,by kernel_rfl⟩
theorem ajF:jX Go.Proofs.Tryz.prog s58:=⟨Go.Proofs.Tryz.func58,by kernel_rfl,by kernel_rfl⟩
theorem ajQ:jX Go.Proofs.Tryz.prog s83:=⟨Go.Proofs.Tryz.func83,by kernel_rfl,by kernel_rfl⟩
theorem ajE:jX Go.Proofs.Tryz.prog s57:=⟨Go.Proofs.Tryz.func57,by kernel_rfl,by kernel_rfl⟩
theorem ajn:jX Go.Proofs.Tryz.prog s17:=⟨Go.Proofs.Tryz.func17,by kernel_rfl,by kernel_rfl⟩
theorem ajK:jX Go.Proofs.Tryz.prog s65:=⟨Go.Proofs.Tryz.func65,by kernel_rfl,by kernel_rfl⟩
theorem ajs:jX Go.Proofs.Tryz.prog s25:=⟨Go.Proofs.Tryz.func25,by kernel_rfl,by kernel_rfl⟩
theorem ahx:jX Go.Proofs.Tryz.prog aiO:=⟨Go.Proofs.Tryz.func105,by kernel_rfl,by kernel_rfl⟩
theorem ahy:jX Go.Proofs.Tryz.prog aiP:=⟨Go.Proofs.Tryz.func106,by kernel_rfl,by kernel_rfl⟩
theorem ahD:jX Go.Proofs.Tryz.prog aiU:=⟨Go.Proofs.Tryz.func112,by kernel_rfl,by kernel_rfl⟩
theorem ajM:jX Go.Proofs.Tryz.prog s67:=⟨Go.Proofs.Tryz.func67,by kernel_rfl,by kernel_rfl⟩
theorem ajL:jX Go.Proofs.Tryz.prog s66:=⟨Go.Proofs.Tryz.func66,by kernel_rfl,by kernel_rfl⟩
theorem ajt:jX Go.Proofs.Tryz.prog s26:=⟨Go.Proofs.Tryz.func26,by kernel_rfl,by kernel_rfl⟩
theorem fn5:jX Go.Proofs.Tryz.prog s5:=⟨Go.Proofs.Tryz.func5,by kernel_rfl,by kernel_rfl⟩
theorem ahX: ∀i,jX Go.Proofs.Tryz.prog (prg.spec i):=Ez aiC Ky (by
 intro x hx;simp only[Ky,aaR,ab3,or_false]at hx;rcases hx with rfl|rfl|rfl|rfl|rfl|rfl|rfl|rfl|rfl|rfl|rfl|rfl|rfl|rfl|rfl|rfl|rfl|rfl|rfl|rfl|rfl|rfl|rfl|rfl|rfl|rfl|rfl|rfl|rfl|rfl|rfl|rfl|rfl|rfl|rfl|rfl|rfl|rfl|rfl|rfl|rfl|rfl|rfl|rfl|rfl|rfl|rfl|rfl|rfl|rfl|rfl|rfl|rfl|rfl|rfl|rfl|rfl|rfl|rfl|rfl|rfl|rfl|rfl|rfl|rfl|rfl|rfl|rfl|rfl|rfl|rfl|rfl|rfl|rfl|rfl|rfl|rfl|rfl|rfl|rfl|rfl|rfl|rfl|rfl|rfl|rfl|rfl|rfl|rfl|rfl|rfl|rfl|rfl|rfl|rfl
 ·exact aiC
 ·exact ajh
 ·exact ajH
 ·exact ajp
 ·exact aju
 ·exact ahQ
 ·exact af5
 ·exact af4
 ·exact ahz
 ·exact ahA
 ·exact ajG
 ·exact ahV
 ·exact ahO
 ·exact ajZ
 ·exact ahF
 ·exact ajS
 ·exact ahE
 ·exact ajR
 ·exact ahM
 ·exact ahK
 ·exact ahL
 ·exact af7
 ·exact af6
 ·exact ajV
 ·exact ahJ
 ·exact af9
 ·exact af8
 ·exact aga
 ·exact aeo
 ·exact aiF
 ·exact aiG
 ·exact aiE
 ·exact aiD
 ·exact ahP
 ·exact agb
 ·exact aj2
 ·exact ajU
 ·exact ajN
 ·exact ajO
 ·exact agc
 ·exact ahW
 ·exact ahT
 ·exact ahU
 ·exact ahG
 ·exact ajX
 ·exact ahH
 ·exact ahI
 ·exact agf
 ·exact agd
 ·exact ajT
 ·exact ajy
 ·exact ajz
 ·exact ajW
 ·exact ahN
 ·exact agh
 ·exact ajY
 ·exact aj0
 ·exact ajA
 ·exact ajP
 ·exact aj1
 ·exact ajB
 ·exact ajC
 ·exact ajl
 ·exact ajx
 ·exact ajk
 ·exact aji
 ·exact ajD
 ·exact ajm
 ·exact ajv
 ·exact ajw
 ·exact agi
 ·exact ajj
 ·exact ajo
 ·exact ajq
 ·exact ahC
 ·exact ajJ
 ·exact ahS
 ·exact ahR
 ·exact ahB
 ·exact ajI
 ·exact ajr
 ·exact ahw
 ·exact ajF
 ·exact ajQ
 ·exact ajE
 ·exact ajn
 ·exact ajK
 ·exact ajs
 ·exact ahx
 ·exact ahy
 ·exact ahD
 ·exact ajM
 ·exact ajL
 ·exact ajt
 ·exact fn5)
theorem ait:wE Go.Proofs.Tryz.prog prg.ty:=afA (by kernel_rfl)
theorem akF:afM Go.Proofs.Tryz.prog prg.ty:=ae1 (by kernel_rfl)
theorem mixed:Go.Proofs.Tryz.prog.follows .mixedOrders=true:=by kernel_rfl
end Go.Proofs.YtdchbjmbgecejaaGreatDoor.Am
end
