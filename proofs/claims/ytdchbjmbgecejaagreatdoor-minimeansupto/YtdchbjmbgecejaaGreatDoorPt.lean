import Derived.Test.YtdchbjmbgecejaaGreatDoorMd
import Derived.Test.YtdchbjmbgecejaaGreatDoorProg
import Derived.Test.YtdchbjmbgecejaaGreatDoorMk
import Derived.KernelRfl
noncomputable section
namespace Go.Proofs.YtdchbjmbgecejaaGreatDoor.Am
open Go Go.AM Go.Bk
noncomputable def Ig (x:List Int):Option (List Int):=bif decide (List.length x≤au)then some x else none
noncomputable def yG (x:List Int):Option (List Int×List Int):=bif decide (List.length x≤au)then some (x,x)else none
noncomputable def oZ (x:List Int×Int×Int):Option (List Int):=bif decide (x.2.2=10)&&decide (0≤x.2.1)&&decide (x.2.1<18446744073709551616)&&decide (List.length x.1≤2000000000)then some (x.1++AV 20 x.2.1.toNat)else none
noncomputable def Tj (x:List Int):Option (List Int):=bif decide (List.length x≤au)then some (Ef (fun a b=>decide (a≤b)) x)else none
noncomputable def xZ (x:List (Int×Int)):Option (List (Int×Int)):=
 bif decide (List.length x≤au)&&x.all (fun p=>decide (0≤p.1)&&decide (p.1≤1000000000000)&&x.all fun q=> !decide (p.1=q.1)||decide (p.2=q.2))then some (Ef (fun p q=>decide (p.1≤q.1)) x)else none
noncomputable def vH (x:List (Int×List Int×Int)):Option (List (Int×List Int×Int)):=bif decide (List.length x≤au)&&x.all (fun p=>decide (List.length p.2.1≤1000))then some (Ef (fun p q=>decide (JU p q≤0)) x)else none
end Go.Proofs.YtdchbjmbgecejaaGreatDoor.Am
end
noncomputable section
namespace Go.Proofs.YtdchbjmbgecejaaGreatDoor.Am
open Go Go.AM
set_option maxRecDepth 100000
set_option linter.unusedVariables false
abbrev vi:Sh×Tg:=(.int .i64,.pure)
abbrev vl:Sh×Tg:=(.sl [.int .i64],.pure)
abbrev vr:Sh×Tg:=(.sl [.int .i64,.sl [.int .i64],.int .i64],.pure)
abbrev vb:Sh×Tg:=(.bool,.pure)
abbrev wl:Sh×Tg:=(.sl [.int .i64],.own)
abbrev wr:Sh×Tg:=(.sl [.int .i64,.sl [.int .i64],.int .i64],.own)
abbrev vk:Sh×Tg:=(.rsl [.int .i64],.pure)
abbrev xb:Sh×Tg:=(.sl [.bool],.own)
abbrev xl:Sh×Tg:=(.sl [.sl [.int .i64]],.own)
abbrev vu:Sh×Tg:=(.int .u64,.pure)
abbrev w (n:Nat) (v:Sh×Tg):JE:= .tm n false [v]
abbrev b (n:Nat) (v:Sh×Tg):JE:= .bx n [v]
abbrev c (n:Nat):JE:= .bx n [vi,vl,vr]
abbrev a (n:Nat):JE:= .adr n (.box n) 0
abbrev oo:H:= .s .o .o
noncomputable def ada:List (Nat×TyI):=[(2,⟨false,[.int .i64],[],[],none⟩),
 (3,⟨false,[.int .i64],[],[],none⟩),
 (4,⟨false,[.bool],[],[],none⟩),
 (5,⟨false,[.int .u8],[],[],none⟩),
 (6,⟨false,[.int .u8],[],[],none⟩),
 (7,⟨true,[.int .i64,.int .i64,.bool,.int .u8],[(0,1),(1,1),(2,1),(3,1)],[2,3,4,6],none⟩),
 (8,⟨true,[.int .i64,.int .i64,.bool,.int .u8],[(0,1),(1,1),(2,1),(3,1)],[2,3,4,6],none⟩),
 (9,⟨false,[.str],[],[],none⟩),
 (10,⟨false,[.str],[],[],none⟩),
 (11,⟨false,[.str],[],[],none⟩),
 (12,⟨false,[.int .u64],[],[],none⟩),
 (13,⟨true,[.str,.int .u64],[(0,1),(1,1)],[9,12],none⟩),
 (14,⟨true,[.str,.int .u64],[(0,1),(1,1)],[9,12],none⟩),
 (21,⟨false,[.int .i32],[],[],none⟩),
 (22,⟨false,[.sl [.int .i64]],[],[],(some 3)⟩),
 (23,⟨true,[.sl [.int .i64]],[(0,1)],[22],none⟩),
 (24,⟨true,[.sl [.int .i64]],[(0,1)],[22],none⟩),
 (25,⟨false,[.sl [.int .i64,.sl [.int .i64],.int .i64]],[],[],(some 69)⟩),
 (26,⟨true,[.int .i64,.sl [.int .i64],.sl [.int .i64,.sl [.int .i64],.int .i64]],[(0,1),(1,1),(2,1)],[3,22,25],none⟩),
 (27,⟨true,[.int .i64,.sl [.int .i64],.sl [.int .i64,.sl [.int .i64],.int .i64]],[(0,1),(1,1),(2,1)],[3,22,25],none⟩),
 (31,⟨false,[.int .i64],[],[],none⟩),
 (42,⟨false,[.rsl [.int .i64]],[],[],(some 44)⟩),
 (43,⟨true,[.int .i64,.rsl [.int .i64]],[(0,1),(1,1)],[3,42],none⟩),
 (44,⟨true,[.int .i64,.rsl [.int .i64]],[(0,1),(1,1)],[3,42],none⟩),
 (66,⟨false,[.sl [.int .i64,.sl [.int .i64],.sl [.int .i64,.sl [.int .i64],.int .i64]]],[],[],(some 27)⟩),
 (68,⟨true,[.int .i64,.sl [.int .i64],.int .i64],[(0,1),(1,1),(2,1)],[3,22,3],none⟩),
 (69,⟨true,[.int .i64,.sl [.int .i64],.int .i64],[(0,1),(1,1),(2,1)],[3,22,3],none⟩),
 (81,⟨false,[.sl [.bool]],[],[],(some 4)⟩),
 (89,⟨false,[.sl [.sl [.int .i64]]],[],[],(some 22)⟩),
 (107,⟨false,[.sl [.sl [.int .i64,.int .i64]]],[],[],(some 112)⟩),
 (109,⟨false,[.sl [.str]],[],[],(some 9)⟩),
 (110,⟨false,[.sl [.int .u8]],[],[],(some 5)⟩),
 (112,⟨false,[.sl [.int .i64,.int .i64]],[],[],(some 114)⟩),
 (113,⟨true,[.int .i64,.int .i64],[(0,1),(1,1)],[3,3],none⟩),
 (114,⟨true,[.int .i64,.int .i64],[(0,1),(1,1)],[3,3],none⟩),
 (128,⟨false,[.sl [.sl [.bool]]],[],[],(some 81)⟩),
 (132,⟨false,[.int .u64],[],[],none⟩),
 (134,⟨false,[.mp .str .bool],[],[9,4],none⟩),
 (137,⟨false,[.mp .str (.int .i64)],[],[9,3],none⟩),
 (138,⟨false,[.sl [.sl [.int .u64]]],[],[],(some 143)⟩),
 (139,⟨true,[.int .i64,.sl [.int .i64],.sl [.int .i64,.sl [.int .i64],.int .i64],.sl [.sl [.int .i64]],.sl [.sl [.int .u64]],.mp .str (.int .i64),.sl [.int .i64,.sl [.int .i64],.int .i64],.int .i64,.int .i64,.bool],[(0,3),(3,1),(4,1),(5,1),(6,1),(7,1),(8,1),(9,1)],[27,89,138,137,25,3,3,4],none⟩),
 (140,⟨true,[.int .i64,.sl [.int .i64],.sl [.int .i64,.sl [.int .i64],.int .i64],.sl [.sl [.int .i64]],.sl [.sl [.int .u64]],.mp .str (.int .i64),.sl [.int .i64,.sl [.int .i64],.int .i64],.int .i64,.int .i64,.bool],[(0,3),(3,1),(4,1),(5,1),(6,1),(7,1),(8,1),(9,1)],[27,89,138,137,25,3,3,4],none⟩),
 (142,⟨false,[.sl [.int .u64]],[],[],(some 180)⟩),
 (143,⟨false,[.sl [.int .u64]],[],[],(some 180)⟩),
 (146,⟨false,[.mp (.int .i64) .bool],[],[3,4],none⟩),
 (147,⟨true,[.sl [.int .i64],.mp (.int .i64) .bool],[(0,1),(1,1)],[22,146],none⟩),
 (148,⟨true,[.sl [.int .i64],.mp (.int .i64) .bool],[(0,1),(1,1)],[22,146],none⟩),
 (150,⟨false,[.mp .bool (.int .i64)],[],[4,3],none⟩),
 (160,⟨true,[.int .i64,.sl [.sl [.int .i64]]],[(0,1),(1,1)],[3,89],none⟩),
 (161,⟨true,[.int .i64,.sl [.sl [.int .i64]]],[(0,1),(1,1)],[3,89],none⟩),
 (170,⟨false,[.int .i64],[],[],none⟩),
 (178,⟨false,[.int .u32],[],[],none⟩),
 (180,⟨false,[.int .u64],[],[],none⟩),
 (198,⟨false,[.int .u64],[],[],none⟩),
 (236,⟨false,[.int .u8],[],[],none⟩),
 (237,⟨false,[.int .u8],[],[],none⟩),
 (240,⟨false,[.int .i32],[],[],none⟩),
 (241,⟨false,[.int .i32],[],[],none⟩)]
noncomputable def g43:AM.Sig:=⟨43,[.val true [vl],.val false [vi],.val false [vi],.val false [(.sl [.int .i64,.sl [.int .i64],.sl [.int .i64,.sl [.int .i64],.int .i64]],.pure)]],[(false,[vb])]⟩
noncomputable def s43:AM.Spec:=⟨g43,Go.Proofs.Tryz.f43,.s .o (.s (.s .o (.jr [b 4 vl,a 4] (.j [w 1 vi,w 2 vi,b 4 vl,a 4,.tm 13 false [(.sl [.int .i64,.sl [.int .i64],.sl [.int .i64,.sl [.int .i64],.int .i64]],.pure)],w 14 vi,w 15 vi] (.s .o (.s oo (.s (.s (.s .o (.s (.s (.j [w 1 vi,w 2 vi,b 4 vl,a 4,c 10,a 10,.tm 13 false [(.sl [.int .i64,.sl [.int .i64],.sl [.int .i64,.sl [.int .i64],.int .i64]],.pure)],w 14 vi,w 15 vi,w 41 vb] .o) (.s oo .o)) (.s .o (.jr [w 1 vi,w 2 vi,b 4 vl,a 4,.tm 13 false [(.sl [.int .i64,.sl [.int .i64],.sl [.int .i64,.sl [.int .i64],.int .i64]],.pure)],w 14 vi,w 15 vi] (.j [w 1 vi,w 2 vi,b 4 vl,a 4,.tm 13 false [(.sl [.int .i64,.sl [.int .i64],.sl [.int .i64,.sl [.int .i64],.int .i64]],.pure)],w 14 vi,w 15 vi,w 43 vr,w 44 vi,w 45 vi] (.s .o (.s oo (.s (.s (.s .o (.s .o (.s oo .o))) .o) .o)))))))) .o) .o)))))) oo),[],none⟩
noncomputable def g11:AM.Sig:=⟨11,[.val true [vl],.val false [(.sl [.int .i64,.sl [.int .i64],.sl [.int .i64,.sl [.int .i64],.int .i64]],.pure)]],[(false,[vb])]⟩
noncomputable def s11:AM.Spec:=⟨g11,Go.Proofs.Tryz.f11,.s .o oo,[(7,43)],none⟩
noncomputable def g62:AM.Sig:=⟨62,[.val true [vi,vk],.val false [vi]],[(false,[vi])]⟩
noncomputable def s62:AM.Spec:=⟨g62,Go.Proofs.Tryz.f62,.s .o (.s .o (.s (.s .o (.j [w 5 vi] (.j [w 1 vi,w 5 vi,w 9 vk,w 10 vi,w 11 vi] (.s .o (.s oo (.s (.s (.s .o (.s .o (.j [w 1 vi,w 5 vi,w 9 vk,w 10 vi,w 11 vi] oo))) .o) .o)))))) oo)),[(23,62)],none⟩
noncomputable def g22:AM.Sig:=⟨22,[.val true [vi,vk],.val false [vi]],[(false,[vb])]⟩
noncomputable def s22:AM.Spec:=⟨g22,Go.Proofs.Tryz.f22,.s .o oo,[(7,62)],none⟩
noncomputable def g56:AM.Sig:=⟨56,[.val true [vl]],[(false,[vb])]⟩
noncomputable def s56:AM.Spec:=⟨g56,Go.Proofs.Tryz.f56,.s .o (.s (.s .o (.s oo .o)) (.s (.s .o (.jr [] (.j [w 10 vl,w 11 vi,w 12 vi] (.s .o (.s oo (.s (.s (.s .o (.s (.j [w 10 vl,w 11 vi,w 12 vi,w 21 vb] .o) (.s oo .o))) .o) .o)))))) oo)),[],none⟩
noncomputable def g65:AM.Sig:=⟨65,[.val true [vl],.val true [vi,vk]],[(false,[vb])]⟩
noncomputable def s65:AM.Spec:=⟨g65,Go.Proofs.Tryz.f65,.s .o (.s (.s (.j [b 2 vl,a 2,.bx 3 [vi,vk],a 3,w 29 vb] .o) (.s oo .o)) (.s (.s .o (.jr [] (.j [b 2 vl,a 2,w 31 vk,w 32 vi,w 33 vi] (.s .o (.s oo (.s (.s (.s .o (.s .o (.s oo .o))) .o) .o)))))) oo)),[(39,65)],none⟩
noncomputable def g25:AM.Sig:=⟨25,[.val true [vl],.val true [vi,vk]],[(false,[vb])]⟩
noncomputable def s25:AM.Spec:=⟨g25,Go.Proofs.Tryz.f25,.s .o (.s (.j [w 4 vb] .o) .o),[(6,56),(9,22),(14,65)],none⟩
noncomputable def g45:AM.Sig:=⟨45,[],[(true,[vi,wl,wr])]⟩
noncomputable def s45:AM.Spec:=⟨g45,Go.Proofs.Tryz.f45,.s .o oo,[],none⟩
noncomputable def af0:AM.Sig:=⟨149,[.val false [vi]],[(false,[vb])]⟩
noncomputable def afg:AM.Spec:=⟨af0,Go.Proofs.Tryz.f149,.s .o (.s (.j [w 2 vb] .o) .o),[],none⟩
noncomputable def adM:AM.Sig:=⟨169,[.val false [vl],.fn 149],[(false,[vi])]⟩
noncomputable def acW:AM.Spec:=⟨adM,Go.Proofs.Tryz.f169,.s .o (.s (.s .o (.jr [] (.j [w 0 vl,.fn 1 149,w 7 vi,w 8 vi] (.s .o (.s oo (.s (.s (.s .o (.s .o (.s oo .o))) .o) .o)))))) oo),[(16,149)],none⟩
noncomputable def aec:AM.Sig:=⟨128,[.val false [vl],.fn 149],[(false,[vb])]⟩
noncomputable def abW:AM.Spec:=⟨aec,Go.Proofs.Tryz.f128,.s .o oo,[(7,1001)],none⟩
noncomputable def af5:AM.Sig:=⟨108,[.val true [vl]],[(false,[vb])]⟩
noncomputable def afb:AM.Spec:=⟨af5,Go.Proofs.Tryz.f108,.s .o (.s (.j [w 2 vb] .o) .o),[(10,1000)],none⟩
noncomputable def agt:AM.Sig:=⟨109,[.val false [vi],.rptr [vi,vl,vr]],[(false,[vb])]⟩
noncomputable def afh:AM.Spec:=⟨agt,Go.Proofs.Tryz.f109,.s .o (.s (.j [w 3 vb] .o) .o),[],none⟩
noncomputable def g60:AM.Sig:=⟨60,[.val true [vl],.val true [vi,vl,vr]],[(false,[vb])]⟩
noncomputable def s60:AM.Spec:=⟨g60,Go.Proofs.Tryz.f60,.s .o (.s (.s (.j [b 2 vl,a 2,c 3,a 3,w 30 vb] .o) (.s oo .o)) (.s .o (.s (.s .o (.jr [b 2 vl,a 2,c 3,a 3,.clo 5 109 [(.box 3,0)]] (.j [b 2 vl,a 2,c 3,a 3,.clo 5 109 [(.box 3,0)],w 33 vl,w 34 vi,w 35 vi] (.s .o (.s oo (.s (.s (.s .o (.s (.j [b 2 vl,a 2,c 3,a 3,.clo 5 109 [(.box 3,0)],w 33 vl,w 34 vi,w 35 vi,w 57 vb] .o) (.s oo .o))) .o) .o)))))) (.s (.s .o (.jr [] (.j [b 2 vl,a 2,c 3,.clo 5 109 [(.box 3,0)],w 60 vr,w 61 vi,w 62 vi] (.s .o (.s oo (.s (.s (.s .o (.s (.s (.j [b 2 vl,a 2,c 3,.clo 5 109 [(.box 3,0)],.bx 9 [vi,vl,vi],a 9,w 60 vr,w 61 vi,w 62 vi,w 95 vb] .o) (.s oo .o)) (.s .o (.jr [b 2 vl,a 2,c 3,.clo 5 109 [(.box 3,0)],w 60 vr,w 61 vi,w 62 vi] (.j [b 2 vl,a 2,c 3,.clo 5 109 [(.box 3,0)],w 60 vr,w 61 vi,w 62 vi,w 97 vl,w 98 vi,w 99 vi] (.s .o (.s oo (.s (.s (.s .o (.s .o (.s oo .o))) .o) .o)))))))) .o) .o)))))) oo)))),[(13,108),(42,109),(93,109),(105,109)],none⟩
noncomputable def ad6:AM.Sig:=⟨171,[.val false [(.sl [.int .u8],.own)],.val false [vu],.val false [vi]],[(false,[(.sl [.int .u8],.own)])]⟩
noncomputable def aeC:AM.Spec:=⟨ad6,Go.Proofs.Tryz.f171,.o,[],(some oZ)⟩
noncomputable def agq:AM.Sig:=⟨137,[.val false [(.sl [.int .u8],.own)],.val false [vi],.val false [vi]],[(false,[(.sl [.int .u8],.own)])]⟩
noncomputable def aeD:AM.Spec:=⟨agq,Go.Proofs.Tryz.f137,.s .o (.s .o (.s (.s .o (.j [.tm 0 false [(.sl [.int .u8],.own)],w 2 vi,w 7 vu] (.s oo .o))) oo)),[(20,171)],none⟩
noncomputable def g96:AM.Sig:=⟨96,[.val false [(.sl [.int .u8],.own)],.val false [vi],.val false [vi]],[(false,[(.sl [.int .u8],.own)])]⟩
noncomputable def s96:AM.Spec:=⟨g96,Go.Proofs.Tryz.f96,.s .o oo,[(10,137)],none⟩
noncomputable def aga:AM.Sig:=⟨125,[.val false [vi],.val false [vl]],[(false,[(.str,.pure)])]⟩
noncomputable def aeQ:AM.Spec:=⟨aga,Go.Proofs.Tryz.f125,.s .o (.s .o (.s (.s .o (.j [.tm 5 false [(.sl [.int .u8],.own)]] (.j [.tm 5 false [(.sl [.int .u8],.own)],w 10 vl,w 11 vi,w 12 vi] (.s .o (.s oo (.s (.s oo .o) .o)))))) oo)),[(9,96),(20,96)],none⟩
noncomputable def g89:AM.Sig:=⟨89,[.val true [vl],.val true [vi,vl,vr]],[(false,[vb]),(false,[vi])]⟩
noncomputable def s89:AM.Spec:=⟨g89,Go.Proofs.Tryz.f89,.s .o (.s (.s .o (.s oo .o)) (.s .o (.s (.s .o (.jr [] (.j [.tm 6 false [(.mp .str .bool,.own)],w 16 vr,w 17 vi,w 18 vi] (.s .o (.s oo (.s (.s (.s .o (.s .o (.s (.s .o (.s oo .o)) .o))) .o) .o)))))) oo))),[(12,60),(26,125)],none⟩
noncomputable def ael:AM.Sig:=⟨116,[.val false [vl]],[(false,[wl])]⟩
noncomputable def aeE:AM.Spec:=⟨ael,Go.Proofs.Tryz.f116,.o,[],(some Ig)⟩
noncomputable def g85:AM.Sig:=⟨85,[.val true [vi,vl,vr]],[(true,[vi,wl,wr])]⟩
noncomputable def s85:AM.Spec:=⟨g85,Go.Proofs.Tryz.f85,.s .o (.s .o (.s (.s .o (.j [.bx 2 [vi,wl,wr],a 2,.bx 3 [vi,wl,wr],a 3] (.j [.bx 2 [vi,wl,wr],a 2,.bx 3 [vi,wl,wr],a 3,w 13 vr,w 14 vi,w 15 vi] (.s .o (.s oo (.s (.s oo .o) .o)))))) oo)),[(10,116),(25,116)],none⟩
noncomputable def afm:AM.Sig:=⟨133,[.ptr [wl,(.mp (.int .i64) .bool,.own)],.val false [vi]],[]⟩
noncomputable def ae2:AM.Spec:=⟨afm,Go.Proofs.Tryz.f133,.s (.s .o (.j [.bx 0 [wl,(.mp (.int .i64) .bool,.own)],a 0,w 1 vi] oo)) (.s .o (.j [.bx 0 [wl,(.mp (.int .i64) .bool,.own)],a 0] (.s oo .o))),[],none⟩
noncomputable def afq:AM.Sig:=⟨131,[.val true [vi,vl,vr]],[(false,[xb])]⟩
noncomputable def aeT:AM.Spec:=⟨afq,Go.Proofs.Tryz.f131,.s .o (.s .o (.s .o (.s .o (.s .o (.st 5 (.s .o (.j [c 1,a 1,w 3 xb,w 4 wl,.tm 5 false [(.dl [.sl [.int .i64]],.own)],.bx 6 [wl,(.mp (.int .i64) .bool,.own)],a 6] (.j [c 1,a 1,w 3 xb,w 4 wl,.tm 5 false [(.dl [.sl [.int .i64]],.own)],.bx 6 [wl,(.mp (.int .i64) .bool,.own)],a 6,w 25 vr,w 26 vi,w 27 vi] (.s .o (.s oo (.s (.s (.s .o (.s .o (.s (.s .o (.j [c 1,a 1,w 3 xb,w 4 wl,.tm 5 false [(.dl [.sl [.int .i64]],.own)],.bx 6 [wl,(.mp (.int .i64) .bool,.own)],a 6,w 7 vi,.bx 8 [vi,vl,vi],a 8,w 25 vr,w 26 vi,w 27 vi] (.j [c 1,a 1,w 3 xb,w 4 wl,.tm 5 false [(.dl [.sl [.int .i64]],.own)],.bx 6 [wl,(.mp (.int .i64) .bool,.own)],a 6,w 7 vi,.bx 8 [vi,vl,vi],a 8,w 25 vr,w 26 vi,w 27 vi,w 39 vl,w 40 vi,w 41 vi] (.s .o (.s oo (.s (.s oo .o) .o)))))) (.s .o (.j [c 1,a 1,w 3 xb,w 4 wl,.tm 5 false [(.dl [.sl [.int .i64]],.own)],.bx 6 [wl,(.mp (.int .i64) .bool,.own)],a 6,w 25 vr,w 26 vi,w 27 vi] oo))))) .o) .o)))))) (.s (.s .o (.j [w 3 xb] (.j [c 1,a 1,w 3 xb,w 4 wl,w 5 xl,.bx 6 [wl,(.mp (.int .i64) .bool,.own)],a 6,w 11 vi] (.s (.s .o oo) (.s (.s (.s .o (.s .o (.j [c 1,a 1,w 3 xb,w 4 wl,w 5 xl,.bx 6 [wl,(.mp (.int .i64) .bool,.own)],a 6,w 11 vi] (.j [c 1,a 1,w 3 xb,w 4 wl,w 5 xl,.bx 6 [wl,(.mp (.int .i64) .bool,.own)],a 6,w 11 vi,w 86 vl,w 87 vi,w 88 vi] (.s .o (.s oo (.s (.s (.s .o (.s .o (.s .o (.j [c 1,a 1,w 3 xb,w 4 wl,w 5 xl,.bx 6 [wl,(.mp (.int .i64) .bool,.own)],a 6,w 11 vi,w 86 vl,w 87 vi,w 88 vi] oo)))) .o) .o))))))) .o) .o))))) oo)))))),[(23,1),(63,133),(109,133)],none⟩
noncomputable def afD:AM.Sig:=⟨132,[.val false [vi],.rptr [(.sl [.bool],.pure)]],[(false,[vb])]⟩
noncomputable def ae6:AM.Spec:=⟨afD,Go.Proofs.Tryz.f132,.s .o oo,[],none⟩
noncomputable def adR:AM.Sig:=⟨169,[.val false [vl],.clo 132 [(.sl [.bool],.pure)]],[(false,[vi])]⟩
noncomputable def ab6:AM.Spec:=⟨adR,Go.Proofs.Tryz.f169,.s .o (.s (.s .o (.jr [] (.j [w 0 vl,.cpd 1 132 [(.sl [.bool],.pure)],w 7 vi,w 8 vi] (.s .o (.s oo (.s (.s (.s .o (.s .o (.s oo .o))) .o) .o)))))) oo),[(16,132)],none⟩
noncomputable def aeu:AM.Sig:=⟨128,[.val false [vl],.clo 132 [(.sl [.bool],.pure)]],[(false,[vb])]⟩
noncomputable def ab2:AM.Spec:=⟨aeu,Go.Proofs.Tryz.f128,.s .o oo,[(7,1003)],none⟩
noncomputable def g92:AM.Sig:=⟨92,[.val true [vi,vl,vr]],[(false,[xb])]⟩
noncomputable def s92:AM.Spec:=⟨g92,Go.Proofs.Tryz.f92,.s .o (.s .o (.s .o (.s (.s .o (.j [c 1,a 1,.bx 3 [xb],a 3,.tm 4 false [(.dl [.sl [.int .i64]],.own)]] (.j [c 1,a 1,.bx 3 [xb],a 3,.tm 4 false [(.dl [.sl [.int .i64]],.own)],w 22 vr,w 23 vi,w 24 vi] (.s .o (.s oo (.s (.s (.s .o (.s .o (.j [c 1,a 1,.bx 3 [xb],a 3,.tm 4 false [(.dl [.sl [.int .i64]],.own)],w 22 vr,w 23 vi,w 24 vi] oo))) .o) .o)))))) (.s .o (.s .o (.st 4 (.s .o (.j [c 1,a 1,.tm 4 false [(.dl [.sl [.int .i64]],.own)],w 7 xb,.bx 8 [wl,(.mp (.int .i64) .bool,.own)],a 8] (.j [c 1,a 1,.bx 3 [xb],a 3,.tm 4 false [(.dl [.sl [.int .i64]],.own)],w 7 xb,.bx 8 [wl,(.mp (.int .i64) .bool,.own)],a 8,w 51 vl,w 52 vi,w 53 vi] (.s .o (.s oo (.s (.s (.s .o (.s .o (.j [c 1,a 1,.bx 3 [xb],a 3,.tm 4 false [(.dl [.sl [.int .i64]],.own)],w 7 xb,.bx 8 [wl,(.mp (.int .i64) .bool,.own)],a 8,w 51 vl,w 52 vi,w 53 vi] oo))) .o) .o)))))) (.s (.s .o (.j [w 7 xb] (.j [c 1,a 1,w 4 xl,w 7 xb,.bx 8 [wl,(.mp (.int .i64) .bool,.own)],a 8,w 11 vi] (.s (.s .o oo) (.s (.s (.s .o (.s .o (.j [c 1,a 1,w 4 xl,w 7 xb,.bx 8 [wl,(.mp (.int .i64) .bool,.own)],a 8,w 11 vi] (.j [c 1,a 1,w 4 xl,w 7 xb,.bx 8 [wl,(.mp (.int .i64) .bool,.own)],a 8,w 11 vi,w 85 vl,w 86 vi,w 87 vi] (.s .o (.s oo (.s (.s (.s .o (.s .o (.j [c 1,a 1,w 4 xl,w 7 xb,.bx 8 [wl,(.mp (.int .i64) .bool,.own)],a 8,w 11 vi,w 85 vl,w 86 vi,w 87 vi] (.j [c 1,a 1,w 4 xl,w 7 xb,.bx 8 [wl,(.mp (.int .i64) .bool,.own)],a 8,w 11 vi,w 85 vl,w 86 vi,w 87 vi,w 96 vl,w 97 vi,w 98 vi] (.s .o (.s oo (.s (.s oo .o) .o))))))) .o) .o))))))) .o) .o))))) oo))))))),[(17,131),(20,1),(32,1002),(62,133),(103,133)],none⟩
noncomputable def af4:AM.Sig:=⟨130,[.val false [vi],.rptr [(.sl [.bool],.pure)]],[(false,[vb])]⟩
noncomputable def aeH:AM.Spec:=⟨af4,Go.Proofs.Tryz.f130,.s .o oo,[],none⟩
noncomputable def adY:AM.Sig:=⟨169,[.val false [vl],.clo 130 [(.sl [.bool],.pure)]],[(false,[vi])]⟩
noncomputable def acZ:AM.Spec:=⟨adY,Go.Proofs.Tryz.f169,.s .o (.s (.s .o (.jr [] (.j [w 0 vl,.cpd 1 130 [(.sl [.bool],.pure)],w 7 vi,w 8 vi] (.s .o (.s oo (.s (.s (.s .o (.s .o (.s oo .o))) .o) .o)))))) oo),[(16,130)],none⟩
noncomputable def adV:AM.Sig:=⟨128,[.val false [vl],.clo 130 [(.sl [.bool],.pure)]],[(false,[vb])]⟩
noncomputable def acI:AM.Spec:=⟨adV,Go.Proofs.Tryz.f128,.s .o oo,[(7,1005)],none⟩
noncomputable def acQ:AM.Sig:=⟨100,[.io [wr],.fn 49],[]⟩
noncomputable def ac0:AM.Spec:=⟨acQ,Go.Proofs.Tryz.f100,.o,[],(some vH)⟩
noncomputable def afY:AM.Sig:=⟨124,[.val false [vi]],[(false,[vb])]⟩
noncomputable def adp:AM.Spec:=⟨afY,Go.Proofs.Tryz.f124,.s .o oo,[],none⟩
noncomputable def g87:AM.Sig:=⟨87,[.val false [vi],.val false [vi]],[(false,[vi])]⟩
noncomputable def s87:AM.Spec:=⟨g87,Go.Proofs.Tryz.f87,.s .o (.s .o (.s .o (.s (.s .o (.s (.s (.s .o (.s oo .o)) oo) .o)) (.s (.s .o (.s oo .o)) (.s (.s .o (.s oo .o)) (.s (.s .o (.s oo .o)) oo)))))),[(8,124),(10,124)],none⟩
noncomputable def g88:AM.Sig:=⟨88,[.val false [vl],.val false [vl]],[(false,[vi])]⟩
noncomputable def s88:AM.Spec:=⟨g88,Go.Proofs.Tryz.f88,.s .o (.s (.s .o (.jr [w 0 vl,w 1 vl] (.j [w 0 vl,w 1 vl,w 9 vl,w 10 vi,w 11 vi] (.s .o (.s oo (.s (.s (.s .o (.s (.s .o (.s oo .o)) (.s .o (.s .o (.s .o (.s oo .o)))))) .o) .o)))))) (.s (.s .o (.s oo .o)) oo)),[(26,87)],none⟩
noncomputable def g86:AM.Sig:=⟨86,[.val false [vl]],[(false,[vi])]⟩
noncomputable def s86:AM.Spec:=⟨g86,Go.Proofs.Tryz.f86,.s .o (.s .o (.s (.s .o (.jr [w 3 vi] (.j [w 3 vi,w 6 vl,w 7 vi,w 8 vi] (.s .o (.s oo (.s (.s (.s .o (.s .o (.s oo .o))) .o) .o)))))) oo)),[],none⟩
noncomputable def g49:AM.Sig:=⟨49,[.val true [vi,vl,vi],.val true [vi,vl,vi]],[(false,[vi])]⟩
noncomputable def s49:AM.Spec:=⟨g49,Go.Proofs.Tryz.f49,.s .o oo,[(9,87),(14,88),(19,87),(21,86)],none⟩
noncomputable def agf:AM.Sig:=⟨139,[.val true [vi,vl,vi],.val true [vi,vl,vi]],[(false,[vb])]⟩
noncomputable def aeO:AM.Spec:=⟨agf,Go.Proofs.Tryz.f139,.s .o oo,[(7,49)],none⟩
noncomputable def adS:AM.Sig:=⟨138,[.val false [wr],.fn 139],[(false,[wr])]⟩
noncomputable def ab4:AM.Spec:=⟨adS,Go.Proofs.Tryz.f138,.s .o (.s (.s .o (.s oo .o)) (.s (.s .o (.jr [w 0 wr] (.j [w 0 wr,.fn 1 139,w 5 vi] (.s (.s .o oo) (.s (.s (.s .o (.s (.s .o (.s (.s .o (.j [w 0 wr,w 5 vi] (.j [w 0 wr,.fn 1 139,w 5 vi,.rs 6 (.tmp 0) 0 false,w 7 vi] (.s (.s .o oo) (.s (.s (.s .o (.j [w 0 wr,.fn 1 139,w 5 vi,.rs 6 (.tmp 0) 0 false,w 7 vi] (.s oo .o))) .o) .o))))) (.s .o oo))) .o)) .o) .o))))) oo)),[(6,2),(28,139),(48,139)],none⟩
noncomputable def g99:AM.Sig:=⟨99,[.val false [wr]],[(false,[wr])]⟩
noncomputable def s99:AM.Spec:=⟨g99,Go.Proofs.Tryz.f99,.s .o (.s .o oo),[(4,1006),(6,1007)],none⟩
noncomputable def g91:AM.Sig:=⟨91,[.val true [vi,vl,vr],.val false [(.sl [.bool],.pure)]],[(true,[vi,wl,wr])]⟩
noncomputable def s91:AM.Spec:=⟨g91,Go.Proofs.Tryz.f91,.s .o (.s .o (.s .o (.s (.s .o (.j [c 2,a 2,.bx 3 [(.sl [.bool],.pure)],a 3,.bx 4 [vi,wl,wr],a 4,.bx 5 [vi,wl,wr],a 5,w 6 wl] (.j [c 2,a 2,.bx 3 [(.sl [.bool],.pure)],a 3,.bx 4 [vi,wl,wr],a 4,.bx 5 [vi,wl,wr],a 5,w 6 wl,.tm 19 false [(.sl [.bool],.pure)],w 20 vi,w 21 vi] (.s .o (.s oo (.s (.s (.s .o (.s .o (.j [c 2,a 2,.bx 3 [(.sl [.bool],.pure)],a 3,.bx 4 [vi,wl,wr],a 4,.bx 5 [vi,wl,wr],a 5,w 6 wl,.tm 19 false [(.sl [.bool],.pure)],w 20 vi,w 21 vi] (.s oo .o)))) .o) .o)))))) (.s (.s .o (.j [c 2,a 2,.bx 3 [(.sl [.bool],.pure)],a 3,.bx 4 [vi,wl,wr],a 4,.bx 5 [vi,wl,wr],a 5,w 6 wl] (.j [c 2,a 2,.bx 3 [(.sl [.bool],.pure)],a 3,.bx 4 [vi,wl,wr],a 4,.bx 5 [vi,wl,wr],a 5,w 6 wl,w 38 vl,w 39 vi,w 40 vi] (.s .o (.s oo (.s (.s (.s .o (.s .o (.j [c 2,a 2,.bx 3 [(.sl [.bool],.pure)],a 3,.bx 4 [vi,wl,wr],a 4,.bx 5 [vi,wl,wr],a 5,w 6 wl,w 38 vl,w 39 vi,w 40 vi] oo))) .o) .o)))))) (.s (.s .o (.j [.bx 4 [vi,wl,wr],a 4,.bx 5 [vi,wl,wr],a 5] (.j [.bx 3 [(.sl [.bool],.pure)],a 3,.bx 4 [vi,wl,wr],a 4,.bx 5 [vi,wl,wr],a 5,w 6 wl,w 59 vr,w 60 vi,w 61 vi] (.s .o (.s oo (.s (.s (.s .o (.s (.s (.j [.bx 3 [(.sl [.bool],.pure)],a 3,.bx 4 [vi,wl,wr],a 4,.bx 5 [vi,wl,wr],a 5,w 6 wl,.bx 12 [vi,vl,vi],a 12,w 59 vr,w 60 vi,w 61 vi,w 76 vb] .o) oo) (.s .o (.s .o (.s (.s .o (.j [.bx 3 [(.sl [.bool],.pure)],a 3,.bx 4 [vi,wl,wr],a 4,.bx 5 [vi,wl,wr],a 5,w 6 wl,.bx 13 [vi,wl,vi],a 13,w 59 vr,w 60 vi,w 61 vi] (.j [.bx 3 [(.sl [.bool],.pure)],a 3,.bx 4 [vi,wl,wr],a 4,.bx 5 [vi,wl,wr],a 5,w 6 wl,.bx 13 [vi,wl,vi],a 13,w 59 vr,w 60 vi,w 61 vi,.rf 95 (.box 13) 1 false 1,w 96 vi,w 97 vi] (.s .o (.s oo (.s (.s oo .o) .o)))))) .o))))) .o) .o)))))) (.s .o oo)))))),[(75,1004),(120,99)],none⟩
noncomputable def g74:AM.Sig:=⟨74,[.val true [vl],.val true [vi,vl,vr]],[(true,[vi,vl,vr]),(false,[vi])]⟩
noncomputable def s74:AM.Spec:=⟨g74,Go.Proofs.Tryz.f74,.s .o (.s (.s .o (.s oo .o)) oo),[(8,60),(13,92),(14,91)],none⟩
noncomputable def g75:AM.Sig:=⟨75,[.val true [vl],.val true [vi,vl,vr]],[(false,[xl])]⟩
noncomputable def s75:AM.Spec:=⟨g75,Go.Proofs.Tryz.f75,.s .o (.s .o (.st 5 (.s .o (.j [.tm 5 false [(.dl [.sl [.int .i64]],.own)]] (.j [.tm 5 false [(.dl [.sl [.int .i64]],.own)],w 13 vr,w 14 vi,w 15 vi] (.s .o (.s oo (.s (.s oo .o) .o)))))) oo)),[(11,1)],none⟩
noncomputable def abA:AM.Sig:=⟨116,[.io [wl]],[(false,[wl])]⟩
noncomputable def acM:AM.Spec:=⟨abA,Go.Proofs.Tryz.f116,.o,[],(some yG)⟩
noncomputable def afK:AM.Sig:=⟨189,[.val false [(.sl [.int .u64],.pure)]],[(false,[(.str,.pure)])]⟩
noncomputable def aeX:AM.Spec:=⟨afK,Go.Proofs.Tryz.f189,.s .o (.s .o (.s (.s .o (.j [.tm 3 false [(.sl [.int .u8],.own)]] (.j [.tm 3 false [(.sl [.int .u8],.own)],.tm 11 false [(.sl [.int .u64],.pure)],w 12 vi,w 13 vi] (.s .o (.s oo (.s (.s (.s .o (.s .o (.j [.tm 3 false [(.sl [.int .u8],.own)],.tm 11 false [(.sl [.int .u64],.pure)],w 12 vi,w 13 vi] (.j [.tm 3 false [(.sl [.int .u8],.own)],w 5 vu,.tm 11 false [(.sl [.int .u64],.pure)],w 12 vi,w 13 vi,w 17 vi] (.s .o (.s oo (.s (.s oo .o) .o))))))) .o) .o)))))) oo)),[],none⟩
noncomputable def afn:AM.Sig:=⟨167,[.ptr [vi,vl,vr,(.sl [.sl [.int .i64]],.pure),(.sl [.sl [.int .u64]],.own),(.mp .str (.int .i64),.own),(.sl [.int .i64,.sl [.int .i64],.int .i64],.dead),vi,vi,vb],.val false [vl]],[(false,[vi])]⟩
noncomputable def ae5:AM.Spec:=⟨afn,Go.Proofs.Tryz.f167,.s .o (.s (.s .o (.s oo .o)) (.s .o (.s (.s .o (.j [.bx 0 [vi,vl,vr,(.sl [.sl [.int .i64]],.pure),(.sl [.sl [.int .u64]],.own),(.mp .str (.int .i64),.own),(.sl [.int .i64,.sl [.int .i64],.int .i64],.dead),vi,vi,vb],a 0,.tm 5 false [(.sl [.int .u64],.own)]] (.j [.bx 0 [vi,vl,vr,(.sl [.sl [.int .i64]],.pure),(.sl [.sl [.int .u64]],.own),(.mp .str (.int .i64),.own),(.sl [.int .i64,.sl [.int .i64],.int .i64],.dead),vi,vi,vb],a 0,.tm 5 false [(.sl [.int .u64],.own)],w 23 vl,w 24 vi,w 25 vi] (.s .o (.s oo (.s (.s (.s .o oo) .o) .o)))))) (.s .o (.s .o (.s (.s .o (.j [.bx 0 [vi,vl,vr,(.sl [.sl [.int .i64]],.pure),(.sl [.sl [.int .u64]],.own),(.mp .str (.int .i64),.own),(.sl [.int .i64,.sl [.int .i64],.int .i64],.dead),vi,vi,vb],a 0,w 10 vi] (.s (.s .o oo) .o))) oo)))))),[(50,189)],none⟩
noncomputable def afR:AM.Sig:=⟨168,[.val false [(.sl [.int .u64],.pure)],.val false [vi]],[(false,[vb])]⟩
noncomputable def aeJ:AM.Spec:=⟨afR,Go.Proofs.Tryz.f168,.s .o oo,[],none⟩
noncomputable def agp:AM.Sig:=⟨126,[.ptr [vi,vl,vr,(.sl [.sl [.int .i64]],.pure),(.sl [.sl [.int .u64]],.own),(.mp .str (.int .i64),.own),wr,vi,vi,vb],.val false [vi],.val false [vi],.io [wl],.val false [vl],.val false [vb]],[]⟩
noncomputable def ae1:AM.Spec:=⟨agp,Go.Proofs.Tryz.f126,.s (.s (.j [.bx 0 [vi,vl,vr,(.sl [.sl [.int .i64]],.pure),(.sl [.sl [.int .u64]],.own),(.mp .str (.int .i64),.own),wr,vi,vi,vb],a 0,w 1 vi,w 2 vi,w 3 wl,w 4 vl,w 5 vb,w 25 vb] .o) oo) (.s (.s .o (.s (.s .o (.s (.j [.bx 0 [vi,vl,vr,(.sl [.sl [.int .i64]],.pure),(.sl [.sl [.int .u64]],.own),(.mp .str (.int .i64),.own),wr,vi,vi,vb],a 0,w 3 wl] .o) .o)) .o)) (.s .o (.s (.s (.j [.bx 0 [vi,vl,vr,(.sl [.sl [.int .i64]],.pure),(.sl [.sl [.int .u64]],.own),(.mp .str (.int .i64),.own),wr,vi,vi,vb],a 0,w 1 vi,w 2 vi,w 3 wl,w 4 vl,w 5 vb,w 12 vi,w 71 vb] .o) (.j [.bx 0 [vi,vl,vr,(.sl [.sl [.int .i64]],.pure),(.sl [.sl [.int .u64]],.own),(.mp .str (.int .i64),.own),wr,vi,vi,vb],a 0,w 1 vi,w 2 vi,w 3 wl,w 4 vl,w 5 vb,w 12 vi] oo)) (.s .o (.j [.bx 0 [vi,vl,vr,(.sl [.sl [.int .i64]],.pure),(.sl [.sl [.int .u64]],.own),(.mp .str (.int .i64),.own),wr,vi,vi,vb],a 0,w 3 wl] (.j [.bx 0 [vi,vl,vr,(.sl [.sl [.int .i64]],.pure),(.sl [.sl [.int .u64]],.own),(.mp .str (.int .i64),.own),wr,vi,vi,vb],a 0,w 1 vi,w 2 vi,w 3 wl,w 4 vl,w 5 vb,w 13 vi] (.s (.s .o oo) (.s (.s (.s .o (.s (.s .o (.j [.bx 0 [vi,vl,vr,(.sl [.sl [.int .i64]],.pure),(.sl [.sl [.int .u64]],.own),(.mp .str (.int .i64),.own),wr,vi,vi,vb],a 0,w 1 vi,w 2 vi,w 3 wl,w 4 vl,w 5 vb,w 13 vi,w 14 wl] (.j [.bx 0 [vi,vl,vr,(.sl [.sl [.int .i64]],.pure),(.sl [.sl [.int .u64]],.own),(.mp .str (.int .i64),.own),wr,vi,vi,vb],a 0,w 1 vi,w 2 vi,w 3 wl,w 4 vl,w 5 vb,w 13 vi,w 14 wl,w 85 vl,w 86 vi,w 87 vi] (.s .o (.s oo (.s (.s (.s .o (.s .o (.j [.bx 0 [vi,vl,vr,(.sl [.sl [.int .i64]],.pure),(.sl [.sl [.int .u64]],.own),(.mp .str (.int .i64),.own),wr,vi,vi,vb],a 0,w 1 vi,w 2 vi,w 3 wl,w 4 vl,w 5 vb,w 13 vi,w 14 wl,w 85 vl,w 86 vi,w 87 vi] oo))) .o) .o)))))) (.j [.bx 0 [vi,vl,vr,(.sl [.sl [.int .i64]],.pure),(.sl [.sl [.int .u64]],.own),(.mp .str (.int .i64),.own),wr,vi,vi,vb],a 0,w 1 vi,w 2 vi,w 3 wl,w 4 vl,w 5 vb,w 13 vi] .o))) .o) .o)))))))),[(37,1008),(40,167),(111,168),(123,3),(134,126)],none⟩
noncomputable def g94:AM.Sig:=⟨94,[.val true [vi,vl,vr]],[(false,[xb])]⟩
noncomputable def s94:AM.Spec:=⟨g94,Go.Proofs.Tryz.f94,.s .o (.s .o (.s (.s .o (.j [w 3 xb] (.j [w 3 xb,w 10 vl,w 11 vi,w 12 vi] (.s .o (.s oo (.s (.s oo .o) .o)))))) oo)),[],none⟩
noncomputable def afL:AM.Sig:=⟨127,[.val false [(.sl [.int .u64],.pure)]],[(false,[wl])]⟩
noncomputable def aeL:AM.Spec:=⟨afL,Go.Proofs.Tryz.f127,.s .o (.s .o (.s (.s .o (.j [w 3 wl] (.j [.tm 0 false [(.sl [.int .u64],.pure)],w 3 wl,w 7 vi,w 8 vi] (.s .o (.s oo (.s (.s (.s .o (.s .o (.j [.tm 0 false [(.sl [.int .u64],.pure)],w 3 wl,w 7 vi,w 8 vi] oo))) .o) .o)))))) oo)),[(13,168)],none⟩
noncomputable def afJ:AM.Sig:=⟨129,[.val false [vi],.rptr [(.sl [.bool],.pure)]],[(false,[vb])]⟩
noncomputable def aeV:AM.Spec:=⟨afJ,Go.Proofs.Tryz.f129,.s .o oo,[],none⟩
noncomputable def aeo:AM.Sig:=⟨169,[.val false [vl],.clo 129 [(.sl [.bool],.pure)]],[(false,[vi])]⟩
noncomputable def acX:AM.Spec:=⟨aeo,Go.Proofs.Tryz.f169,.s .o (.s (.s .o (.jr [] (.j [w 0 vl,.cpd 1 129 [(.sl [.bool],.pure)],w 7 vi,w 8 vi] (.s .o (.s oo (.s (.s (.s .o (.s .o (.s oo .o))) .o) .o)))))) oo),[(16,129)],none⟩
noncomputable def aeh:AM.Sig:=⟨128,[.val false [vl],.clo 129 [(.sl [.bool],.pure)]],[(false,[vb])]⟩
noncomputable def acy:AM.Spec:=⟨aeh,Go.Proofs.Tryz.f128,.s .o oo,[(7,1010)],none⟩
noncomputable def g90:AM.Sig:=⟨90,[.val true [vl],.val true [vi,vl,vr]],[(true,[vi,vl,vr]),(false,[(.sl [.sl [.int .i64]],.pure)]),(false,[vi])]⟩
noncomputable def s90:AM.Spec:=⟨g90,Go.Proofs.Tryz.f90,.s .o (.s (.s .o (.s oo .o)) (.s .o (.s (.s .o (.jr [c 3,a 3,.bx 4 [vi,wl,wr],a 4,.adr 7 (.box 28) 0,.bx 28 [vi,vl,vr,(.sl [.sl [.int .i64]],.pure),(.sl [.sl [.int .u64]],.own),(.mp .str (.int .i64),.own),wr,vi,vi,vb]] (.j [b 2 vl,a 2,c 3,a 3,.bx 4 [vi,wl,wr],a 4,.adr 7 (.box 28) 0,w 8 vi,.bx 28 [vi,vl,vr,(.sl [.sl [.int .i64]],.pure),(.sl [.sl [.int .u64]],.own),(.mp .str (.int .i64),.own),wr,vi,vi,vb]] (.s (.s (.j [b 2 vl,a 2,c 3,a 3,.bx 4 [vi,wl,wr],a 4,.adr 7 (.box 28) 0,w 8 vi,.bx 28 [vi,vl,vr,(.sl [.sl [.int .i64]],.pure),(.sl [.sl [.int .u64]],.own),(.mp .str (.int .i64),.own),wr,vi,vi,vb],w 41 vb] .o) oo) (.s (.s (.s (.s .o (.j [b 2 vl,a 2,c 3,a 3,.bx 4 [vi,wl,wr],a 4,.adr 7 (.box 28) 0,w 8 vi,.bx 28 [vi,vl,vr,(.sl [.sl [.int .i64]],.pure),(.sl [.sl [.int .u64]],.own),(.mp .str (.int .i64),.own),wr,vi,vi,vb]] (.j [b 2 vl,a 2,c 3,a 3,.bx 4 [vi,wl,wr],a 4,.adr 7 (.box 28) 0,w 8 vi,.bx 28 [vi,vl,vr,(.sl [.sl [.int .i64]],.pure),(.sl [.sl [.int .u64]],.own),(.mp .str (.int .i64),.own),wr,vi,vi,vb],w 45 vl,w 46 vi,w 47 vi] (.s .o (.s oo (.s (.s (.s .o (.s .o (.j [b 2 vl,a 2,c 3,a 3,.bx 4 [vi,wl,wr],a 4,.adr 7 (.box 28) 0,w 8 vi,.bx 28 [vi,vl,vr,(.sl [.sl [.int .i64]],.pure),(.sl [.sl [.int .u64]],.own),(.mp .str (.int .i64),.own),wr,vi,vi,vb],w 45 vl,w 46 vi,w 47 vi] oo))) .o) .o)))))) (.s (.s .o (.s oo .o)) .o)) .o) .o))))) (.s .o (.s .o (.s .o (.s (.s .o (.j [.bx 4 [vi,wl,wr],a 4,.bx 11 [vi,wl,wr],a 11,w 13 xl] (.j [.bx 4 [vi,wl,wr],a 4,.bx 11 [vi,wl,wr],a 11,.bx 12 [xb],a 12,w 13 xl,.bx 28 [vi,vl,vr,(.sl [.sl [.int .i64]],.pure),(.sl [.sl [.int .u64]],.own),(.mp .str (.int .i64),.own),(.sl [.int .i64,.sl [.int .i64],.int .i64],.dead),vi,vi,vb],.rf 107 (.box 28) 4 false 1,w 108 vi,w 109 vi] (.s .o (.s oo (.s (.s (.s .o (.s .o (.s .o (.s .o (.j [.bx 4 [vi,wl,wr],a 4,.bx 11 [vi,wl,wr],a 11,.bx 12 [xb],a 12,w 13 xl,.bx 28 [vi,vl,vr,(.sl [.sl [.int .i64]],.pure),(.sl [.sl [.int .u64]],.own),(.mp .str (.int .i64),.own),(.sl [.int .i64,.sl [.int .i64],.int .i64],.dead),vi,vi,vb],.rf 107 (.box 28) 4 false 1,w 108 vi,w 109 vi] oo))))) .o) .o)))))) oo))))))),[(19,60),(25,75),(69,126),(100,99),(103,94),(115,127),(122,1009)],none⟩
noncomputable def g51:AM.Sig:=⟨51,[.val true [vl],.val true [vi,vl,vr]],[(true,[vi,vl,vr]),(false,[vi])]⟩
noncomputable def s51:AM.Spec:=⟨g51,Go.Proofs.Tryz.f51,.s .o (.s .o (.s (.s .o (.s oo .o)) (.s (.s .o (.s oo .o)) (.s .o (.s (.s .o (.s oo .o)) (.s .o oo)))))),[(14,89),(23,85),(27,74),(37,90)],none⟩
noncomputable def g52:AM.Sig:=⟨52,[.val true [vi,vl,vr]],[(true,[vi,wl,wr])]⟩
noncomputable def s52:AM.Spec:=⟨g52,Go.Proofs.Tryz.f52,.s .o oo,[(5,92),(6,91)],none⟩
noncomputable def g93:AM.Sig:=⟨93,[.val false [(.sl [.bool],.pure)]],[(false,[vl]),(false,[vi])]⟩
noncomputable def s93:AM.Spec:=⟨g93,Go.Proofs.Tryz.f93,.s .o (.s .o (.s .o (.s (.s .o (.j [.tm 4 false [(.mp .bool (.int .i64),.own)],w 5 wl] (.j [.tm 4 false [(.mp .bool (.int .i64),.own)],w 5 wl,.tm 11 false [(.sl [.bool],.pure)],w 12 vi,w 13 vi] (.s .o (.s oo (.s (.s (.s .o (.s .o (.s (.s .o (.j [.tm 4 false [(.mp .bool (.int .i64),.own)],w 5 wl,w 8 vi,.tm 11 false [(.sl [.bool],.pure)],w 12 vi,w 13 vi] (.s oo .o))) .o))) .o) .o)))))) oo))),[],none⟩
noncomputable def agy:AM.Sig:=⟨134,[.val false [vi],.val false [vl]],[(false,[(.str,.pure)])]⟩
noncomputable def aeP:AM.Spec:=⟨agy,Go.Proofs.Tryz.f134,.s .o oo,[(7,125)],none⟩
noncomputable def acA:AM.Sig:=⟨135,[.io [(.sl [.int .i64,.int .i64],.own)],.fn 136],[]⟩
noncomputable def abT:AM.Spec:=⟨acA,Go.Proofs.Tryz.f135,.o,[],(some xZ)⟩
noncomputable def g95:AM.Sig:=⟨95,[.val true [vi,vl,vr]],[(false,[(.dl [.sl [.int .i64,.int .i64]],.own)])]⟩
noncomputable def s95:AM.Spec:=⟨g95,Go.Proofs.Tryz.f95,.s .o (.s .o (.s .o (.s (.s .o (.j [.tm 4 false [(.dl [.sl [.int .i64,.int .i64]],.own)]] (.j [.tm 3 false [(.mp .str (.int .i64),.own)],.tm 4 false [(.dl [.sl [.int .i64,.int .i64]],.own)],w 20 vr,w 21 vi,w 22 vi] (.s .o (.s oo (.s (.s (.s .o (.s .o (.j [.tm 3 false [(.mp .str (.int .i64),.own)],.tm 4 false [(.dl [.sl [.int .i64,.int .i64]],.own)],w 20 vr,w 21 vi,w 22 vi] (.j [.tm 3 false [(.mp .str (.int .i64),.own)],.tm 4 false [(.dl [.sl [.int .i64,.int .i64]],.own)],.bx 6 [vi,vl,vi],a 6,w 20 vr,w 21 vi,w 22 vi,w 27 vl,w 28 vi,w 29 vi] (.s .o (.s oo (.s (.s (.s .o (.s .o (.s .o (.s .o (.s .o (.s (.s .o (.j [.tm 3 false [(.mp .str (.int .i64),.own)],.tm 4 false [(.dl [.sl [.int .i64,.int .i64]],.own)],.bx 6 [vi,vl,vi],a 6,w 8 vi,w 11 vi,w 20 vr,w 21 vi,w 22 vi,w 27 vl,w 28 vi,w 29 vi] (.s oo .o))) .o)))))) .o) .o))))))) .o) .o)))))) (.s (.s .o (.j [.tm 4 false [(.dl [.sl [.int .i64,.int .i64]],.own)]] (.j [.tm 4 false [(.dl [.sl [.int .i64,.int .i64]],.own)],.rf 72 (.tmp 4) 0 false 1,w 73 vi,w 74 vi] (.s .o (.s oo (.s (.s oo .o) .o)))))) oo)))),[(14,2),(18,1),(36,116),(43,134),(79,1011)],none⟩
noncomputable def g97:AM.Sig:=⟨97,[.val false [(.sl [.str],.pure)]],[(false,[vl]),(false,[vi])]⟩
noncomputable def s97:AM.Spec:=⟨g97,Go.Proofs.Tryz.f97,.s .o (.s .o (.s .o (.s (.s .o (.j [.tm 4 false [(.mp .str (.int .i64),.own)],w 5 wl] (.j [.tm 4 false [(.mp .str (.int .i64),.own)],w 5 wl,.tm 11 false [(.sl [.str],.pure)],w 12 vi,w 13 vi] (.s .o (.s oo (.s (.s (.s .o (.s .o (.s (.s .o (.j [.tm 4 false [(.mp .str (.int .i64),.own)],w 5 wl,w 8 vi,.tm 11 false [(.sl [.str],.pure)],w 12 vi,w 13 vi] (.s oo .o))) .o))) .o) .o)))))) oo))),[],none⟩
noncomputable def g53:AM.Sig:=⟨53,[.val true [vi,vl,vr]],[(false,[vl])]⟩
noncomputable def s53:AM.Spec:=⟨g53,Go.Proofs.Tryz.f53,.s .o (.s .o (.st 5 .o (.jr [] (.j [c 1,a 1,w 3 vl,w 4 vi,.tm 5 false [(.sl [.sl [.int .i64,.int .i64]],.own)]] (.s (.s .o (.s (.s .o (.j [c 1,a 1,w 4 vi,.tm 5 false [(.sl [.sl [.int .i64,.int .i64]],.own)],.tm 6 false [(.sl [.str],.own)]] (.j [c 1,a 1,w 3 vl,w 4 vi,.tm 5 false [(.sl [.sl [.int .i64,.int .i64]],.own)],.tm 6 false [(.sl [.str],.own)],w 25 vi,w 26 vi] (.s .o (.s oo (.s (.s (.s .o (.s .o (.s (.s .o (.j [c 1,a 1,w 3 vl,w 4 vi,.tm 5 false [(.sl [.sl [.int .i64,.int .i64]],.own)],.tm 6 false [(.sl [.str],.own)],w 7 vi,.tm 8 false [(.sl [.int .u8],.own)],w 25 vi,w 26 vi] (.j [c 1,a 1,w 3 vl,w 4 vi,.tm 5 false [(.sl [.sl [.int .i64,.int .i64]],.own)],.tm 6 false [(.sl [.str],.own)],w 7 vi,.tm 8 false [(.sl [.int .u8],.own)],w 25 vi,w 26 vi,.tm 37 false [(.sl [.int .i64,.int .i64],.pure)],w 38 vi,w 39 vi] (.s .o (.s oo (.s (.s (.s .o oo) .o) .o)))))) .o))) .o) .o)))))) (.s .o (.s .o (.s (.s .o (.s oo .o)) .o))))) .o))))),[(15,94),(16,93),(20,95),(33,96),(48,96),(57,96),(67,97)],none⟩
noncomputable def g78:AM.Sig:=⟨78,[.io [wl]],[]⟩
noncomputable def s78:AM.Spec:=⟨g78,Go.Proofs.Tryz.f78,.o,[],(some Tj)⟩
noncomputable def g98:AM.Sig:=⟨98,[.val false [wl]],[(false,[wl])]⟩
noncomputable def s98:AM.Spec:=⟨g98,Go.Proofs.Tryz.f98,.s .o (.s (.s .o (.s oo .o)) (.s (.s .o (.jr [w 0 wl] (.j [w 0 wl,w 3 vi] (.s (.s .o oo) (.s (.s (.s .o (.s (.s .o (.s (.s .o (.j [w 0 wl,w 3 vi] (.j [w 0 wl,w 3 vi,.rs 4 (.tmp 0) 0 false,w 5 vi] (.s (.s .o oo) (.s (.s (.s .o (.j [w 0 wl,w 3 vi,.rs 4 (.tmp 0) 0 false,w 5 vi] (.s oo .o))) .o) .o))))) (.s .o oo))) .o)) .o) .o))))) oo)),[(4,2)],none⟩
noncomputable def g54:AM.Sig:=⟨54,[.val true [vi,vl,vr],.val false [vi],.val false [vl]],[(true,[vi,vl,vr])]⟩
noncomputable def s54:AM.Spec:=⟨g54,Go.Proofs.Tryz.f54,.s .o (.s .o (.s (.s .o (.j [w 2 vl,c 3,a 3,.bx 6 [vi,wl,wr],a 6,.bx 7 [vi,wl,wr],a 7] (.j [w 2 vl,c 3,a 3,.bx 6 [vi,wl,wr],a 6,.bx 7 [vi,wl,wr],a 7,w 18 vl,w 19 vi,w 20 vi] (.s .o (.s oo (.s (.s oo .o) .o)))))) (.s .o (.s .o (.s (.s .o (.j [.bx 6 [vi,wl,wr],a 6,.bx 7 [vi,wl,wr],a 7] (.j [w 2 vl,.bx 6 [vi,wl,wr],a 6,.bx 7 [vi,wl,wr],a 7,w 42 vr,w 43 vi,w 44 vi] (.s .o (.s oo (.s (.s (.s .o (.s .o (.s (.s .o (.j [w 2 vl,.bx 6 [vi,wl,wr],a 6,.bx 7 [vi,wl,wr],a 7,.bx 12 [vi,wl,vi],a 12,w 42 vr,w 43 vi,w 44 vi] (.j [w 2 vl,.bx 6 [vi,wl,wr],a 6,.bx 7 [vi,wl,wr],a 7,.bx 12 [vi,wl,vi],a 12,w 42 vr,w 43 vi,w 44 vi,w 57 vl,w 58 vi,w 59 vi] (.s .o (.s oo (.s (.s oo .o) .o)))))) .o))) .o) .o)))))) (.s .o oo)))))),[(36,78),(39,98),(82,99)],none⟩
noncomputable def g55:AM.Sig:=⟨55,[.val true [vi,vl,vr]],[(false,[wl])]⟩
noncomputable def s55:AM.Spec:=⟨g55,Go.Proofs.Tryz.f55,.s .o (.s .o (.s (.s .o (.j [c 1,a 1,w 3 wl] (.j [c 1,a 1,w 3 wl,w 18 vi,w 19 vi] (.s .o (.s oo (.s (.s oo .o) .o)))))) (.s (.s .o (.j [w 3 wl] (.j [c 1,a 1,w 3 wl,w 5 vi] (.s (.s .o oo) (.s (.s .o (.s .o (.s (.s .o (.j [c 1,a 1,w 3 wl,w 5 vi,w 6 wr] (.j [c 1,a 1,w 3 wl,w 5 vi,w 6 wr,w 31 vr,w 32 vi,w 33 vi] (.s .o (.s oo (.s (.s (.s .o (.s (.s .o oo) (.s .o (.s (.s .o (.jr [c 1,a 1,w 3 wl,w 5 vi,w 6 wr,.bx 9 [vi,wl,vi],a 9,w 31 vr,w 32 vi,w 33 vi] (.j [c 1,a 1,w 3 wl,w 5 vi,w 6 wr,.bx 9 [vi,wl,vi],a 9,w 31 vr,w 32 vi,w 33 vi,w 49 vl,w 50 vi,w 51 vi] (.s .o (.s oo (.s (.s (.s .o (.s (.s .o oo) .o)) .o) .o)))))) .o)))) .o) .o)))))) (.s (.s .o oo) (.s .o (.s .o (.j [c 1,a 1,w 3 wl,w 5 vi] (.j [c 1,a 1,w 3 wl,w 5 vi,w 6 wr,.rf 80 (.tmp 6) 0 false 1,w 81 vi,w 82 vi] (.s .o (.s oo (.s (.s (.s .o (.s .o (.j [c 1,a 1,w 3 wl,w 5 vi,w 6 wr,.rf 80 (.tmp 6) 0 false 1,w 81 vi,w 82 vi] (.s oo .o)))) .o) .o))))))))))) .o))))) oo))),[(79,1006)],none⟩
noncomputable def g15:AM.Sig:=⟨15,[.val true [vl],.val true [vi,vl,vr]],[(true,[vi,vl,vr]),(false,[vi])]⟩
noncomputable def s15:AM.Spec:=⟨g15,Go.Proofs.Tryz.f15,.s .o (.s .o (.s (.s .o (.s oo .o)) (.s .o (.s .o (.s .o (.s (.s .o (.j [.bx 4 [vi,wl,wr],a 4,.bx 6 [vi,(.sl [.int .i64],.tip),(.sl [.int .i64,.sl [.int .i64],.int .i64],.tip)],a 6,w 8 vl,w 9 vi] (.j [.bx 4 [vi,wl,wr],a 4,.bx 6 [vi,(.sl [.int .i64],.tip),(.sl [.int .i64,.sl [.int .i64],.int .i64],.tip)],a 6,w 8 vl,w 9 vi,w 27 vl,w 28 vi,w 29 vi] (.s .o (.s oo (.s (.s oo .o) .o)))))) (.s .o oo))))))),[(16,51),(24,52),(26,53),(41,54),(45,55),(46,54)],none⟩
noncomputable def g50:AM.Sig:=⟨50,[.val false [vl],.val false [vl]],[(false,[vb])]⟩
noncomputable def s50:AM.Spec:=⟨g50,Go.Proofs.Tryz.f50,.s .o (.s (.s .o (.s oo .o)) (.s (.s .o (.jr [] (.j [w 0 vl,w 1 vl,w 12 vi,w 13 vi] (.s .o (.s oo (.s (.s (.s .o (.s .o (.s oo .o))) .o) .o)))))) oo)),[],none⟩
noncomputable def g14:AM.Sig:=⟨14,[.val true [vi,vl,vr],.val true [vi,vl,vr]],[(false,[vb])]⟩
noncomputable def s14:AM.Spec:=⟨g14,Go.Proofs.Tryz.f14,.s .o (.s (.s (.j [c 2,a 2,c 3,a 3,w 28 vb] .o) (.s oo .o)) (.s (.s .o (.jr [] (.j [c 3,a 3,w 30 vr,w 31 vi,w 32 vi] (.s .o (.s oo (.s (.s (.s .o (.s (.j [c 3,a 3,w 30 vr,w 31 vi,w 32 vi,w 68 vb] .o) (.s oo .o))) .o) .o)))))) oo)),[(17,50),(66,50)],none⟩
noncomputable def g12:AM.Sig:=⟨12,[],[(false,[vb])]⟩
noncomputable def s12:AM.Spec:=⟨g12,Go.Proofs.Tryz.f12,.s .o (.s .o (.s (.j [w 0 vb] .o) .o)),[(5,45),(6,15),(26,14)],none⟩
noncomputable def g29:AM.Sig:=⟨29,[.val true [vi,vk],.val false [vl]],[(true,[vi,vk]),(false,[vb])]⟩
noncomputable def s29:AM.Spec:=⟨g29,Go.Proofs.Tryz.f29,.s .o (.s (.s .o (.jr [.bx 2 [vi,vk],a 2,.bx 4 [vi,(.rsl [.int .i64],.own)],a 4] (.j [.bx 2 [vi,vk],a 2,.bx 4 [vi,(.rsl [.int .i64],.own)],a 4,w 8 vl,w 9 vi,w 10 vi] (.s .o (.s oo (.s (.s (.s .o (.s (.s (.j [.bx 2 [vi,vk],a 2,.bx 4 [vi,(.rsl [.int .i64],.own)],a 4,w 7 vi,w 8 vl,w 9 vi,w 10 vi,w 22 vb] .o) (.s oo .o)) .o)) .o) .o)))))) oo),[],none⟩
noncomputable def afj:AM.Sig:=⟨113,[.val true [vl],.val true [vi,vk],.ptr [vi]],[(false,[vb])]⟩
noncomputable def aeY:AM.Spec:=⟨afj,Go.Proofs.Tryz.f113,.s .o (.s (.s .o (.s (.j [b 2 vi,a 2,b 3 vl,a 3,.bx 4 [vi,vk],a 4,w 42 vb] .o) (.s oo .o))) (.s (.s .o (.jr [b 2 vi,a 2] (.j [b 2 vi,a 2,b 3 vl,a 3,w 44 vk,w 45 vi,w 46 vi] (.s .o (.s oo (.s (.s (.s .o (.s .o (.s oo .o))) .o) .o)))))) oo)),[(53,113)],none⟩
noncomputable def g68:AM.Sig:=⟨68,[.val true [vl],.val true [vi,vk]],[(false,[vb])]⟩
noncomputable def s68:AM.Spec:=⟨g68,Go.Proofs.Tryz.f68,.s .o (.s .o (.s (.j [w 4 vb] .o) .o)),[(7,108),(11,113)],none⟩
noncomputable def afZ:AM.Sig:=⟨114,[.val true [vl],.val true [vi,vl,vr],.val true [vi,vk]],[(false,[vi])]⟩
noncomputable def aff:AM.Spec:=⟨afZ,Go.Proofs.Tryz.f114,.s .o (.s (.s (.j [w 16 vb] .o) (.s oo .o)) oo),[(9,60),(14,68)],none⟩
noncomputable def afF:AM.Sig:=⟨115,[.val true [vi,vl,vr],.val false [(.sl [.sl [.int .i64]],.pure)],.val true [vi,vk]],[(false,[(.dl [.sl [.bool]],.own)])]⟩
noncomputable def aeW:AM.Spec:=⟨afF,Go.Proofs.Tryz.f115,.s .o (.s .o (.s .o (.s (.s .o (.j [.tm 1 false [(.sl [.sl [.int .i64]],.pure)],c 3,a 3,.bx 5 [vi,vk],a 5,.tm 7 false [(.dl [.sl [.bool]],.own)],.tm 8 false [(.sl [.sl [.bool]],.own)]] (.j [.tm 1 false [(.sl [.sl [.int .i64]],.pure)],c 3,a 3,.bx 5 [vi,vk],a 5,.tm 7 false [(.dl [.sl [.bool]],.own)],.tm 8 false [(.sl [.sl [.bool]],.own)],w 22 vk,w 23 vi,w 24 vi] (.s .o (.s oo (.s (.s (.s .o (.s .o oo)) .o) .o)))))) (.s .o (.s (.s .o (.j [.tm 7 false [(.dl [.sl [.bool]],.own)]] (.j [c 3,a 3,.tm 7 false [(.dl [.sl [.bool]],.own)],.tm 8 false [(.sl [.sl [.bool]],.own)],w 46 vl,w 47 vi,w 48 vi] (.s .o (.s oo (.s (.s (.s .o (.s .o (.s (.s .o (.jr [c 3,a 3,.tm 7 false [(.dl [.sl [.bool]],.own)],.tm 8 false [(.sl [.sl [.bool]],.own)],.bx 14 [vi,vl,vi],a 14,w 46 vl,w 47 vi,w 48 vi] (.j [c 3,a 3,.tm 7 false [(.dl [.sl [.bool]],.own)],.tm 8 false [(.sl [.sl [.bool]],.own)],.bx 14 [vi,vl,vi],a 14,w 46 vl,w 47 vi,w 48 vi,w 58 vl,w 59 vi,w 60 vi] (.s .o (.s oo (.s (.s (.s .o (.s .o oo)) .o) .o)))))) .o))) .o) .o)))))) oo))))),[(20,1),(31,115)],none⟩
noncomputable def g69:AM.Sig:=⟨69,[.val true [vl],.val true [vi,vl,vr],.val true [vi,vk]],[(false,[vl]),(false,[vi])]⟩
noncomputable def s69:AM.Spec:=⟨g69,Go.Proofs.Tryz.f69,.s .o (.s (.s .o (.s .o (.s oo .o))) (.s .o (.s (.s .o (.j [w 9 wl] (.j [w 9 wl,w 26 xb,w 27 vi,w 28 vi] (.s .o (.s oo (.s (.s (.s .o (.s .o (.j [w 9 wl,w 26 xb,w 27 vi,w 28 vi] oo))) .o) .o)))))) oo))),[(15,114),(22,75),(24,115),(26,1)],none⟩
noncomputable def g27:AM.Sig:=⟨27,[.val true [vl],.val true [vi,vl,vr],.val true [vi,vk]],[(false,[vi]),(false,[vi])]⟩
noncomputable def s27:AM.Spec:=⟨g27,Go.Proofs.Tryz.f27,.s .o (.s (.s (.j [b 3 vl,a 3,c 4,a 4,.bx 5 [vi,vk],a 5,w 20 vb] .o) (.s oo .o)) (.s .o (.s (.s .o (.s oo .o)) (.s .o (.s (.s .o (.s oo .o)) (.s (.s .o (.s oo .o)) oo)))))),[(13,60),(18,68),(24,15),(34,69)],none⟩
noncomputable def afp:AM.Sig:=⟨105,[.val false [vl],.val false [vi]],[(false,[vb])]⟩
noncomputable def ae4:AM.Spec:=⟨afp,Go.Proofs.Tryz.f105,.s .o (.s (.s .o (.jr [] (.j [w 1 vi,w 7 vl,w 8 vi,w 9 vi] (.s .o (.s oo (.s (.s (.s .o (.s .o (.s oo .o))) .o) .o)))))) oo),[],none⟩
noncomputable def af8:AM.Sig:=⟨106,[.val false [vl],.val false [vi]],[(false,[vl])]⟩
noncomputable def aeK:AM.Spec:=⟨af8,Go.Proofs.Tryz.f106,.s .o (.s .o (.s (.j [w 0 vl,w 1 vi,w 5 vi] (.j [w 0 vl,w 1 vi,w 5 vi] (.s (.s (.j [w 0 vl,w 1 vi,w 5 vi,w 17 vb] .o) oo) oo))) (.s (.s (.j [w 0 vl,w 1 vi,w 5 vi,w 31 vb] .o) (.s oo .o)) oo))),[],none⟩
noncomputable def agv:AM.Sig:=⟨112,[.val true [vi,vl,vr],.val false [vi],.val false [(.sl [.sl [.int .i64]],.pure)]],[(false,[vl])]⟩
noncomputable def afa:AM.Spec:=⟨agv,Go.Proofs.Tryz.f112,.s .o (.s .o (.s (.s .o (.j [w 7 vl] (.j [w 1 vi,.tm 2 false [(.sl [.sl [.int .i64]],.pure)],w 7 vl,w 13 vr,w 14 vi,w 15 vi] (.s .o (.s oo (.s (.s (.s .o (.s .o (.s (.s .o (.j [w 1 vi,.tm 2 false [(.sl [.sl [.int .i64]],.pure)],w 7 vl,.bx 9 [vi,vl,vi],a 9,w 10 vb,w 13 vr,w 14 vi,w 15 vi] (.j [w 1 vi,.tm 2 false [(.sl [.sl [.int .i64]],.pure)],w 7 vl,.bx 9 [vi,vl,vi],a 9,w 10 vb,w 11 vi,w 13 vr,w 14 vi,w 15 vi] (.s (.s (.j [w 1 vi,.tm 2 false [(.sl [.sl [.int .i64]],.pure)],w 7 vl,.bx 9 [vi,vl,vi],a 9,w 10 vb,w 11 vi,w 13 vr,w 14 vi,w 15 vi,w 29 vb] .o) oo) (.s oo .o))))) (.s .o (.j [w 1 vi,.tm 2 false [(.sl [.sl [.int .i64]],.pure)],w 7 vl,w 13 vr,w 14 vi,w 15 vi] oo))))) .o) .o)))))) oo)),[(41,105),(46,106)],none⟩
noncomputable def g67:AM.Sig:=⟨67,[.val true [vi,vl,vr],.val true [vi,vk]],[(false,[vl])]⟩
noncomputable def s67:AM.Spec:=⟨g67,Go.Proofs.Tryz.f67,.s .o (.s .o (.s (.s .o (.j [c 2,a 2,.bx 3 [vi,vk],a 3,w 5 xl] (.j [c 2,a 2,.bx 3 [vi,vk],a 3,w 5 xl,w 9 vk,w 10 vi,w 11 vi] (.s .o (.s oo (.s (.s oo .o) .o)))))) oo)),[(18,67),(26,112)],none⟩
noncomputable def g66:AM.Sig:=⟨66,[.val false [vl],.val false [vl]],[(false,[vb])]⟩
noncomputable def s66:AM.Spec:=⟨g66,Go.Proofs.Tryz.f66,.s .o (.s (.s .o (.jr [] (.j [w 1 vl,w 7 vl,w 8 vi,w 9 vi] (.s .o (.s oo (.s (.s (.s .o (.s .o (.s oo .o))) .o) .o)))))) oo),[(15,105)],none⟩
noncomputable def g26:AM.Sig:=⟨26,[.val true [vi,vl,vr],.val true [vi,vk]],[(false,[vb])]⟩
noncomputable def s26:AM.Spec:=⟨g26,Go.Proofs.Tryz.f26,.s .o oo,[(7,67),(10,66)],none⟩
noncomputable def g30:AM.Sig:=⟨30,[.val true [vi,vk],.val false [vl],.val true [vi,vk]],[(true,[vi,vk])]⟩
noncomputable def s30:AM.Spec:=⟨g30,Go.Proofs.Tryz.f30,.s .o (.s (.s .o (.s oo .o)) (.s .o (.s .o oo))),[(29,30)],none⟩
noncomputable def g7:AM.Sig:=⟨7,[.val true [vl],.val true [vi,vl,vr],.val true [vi,vk],.val true [vi,vk],.val false [vl]],[(false,[vb])]⟩
noncomputable def s7:AM.Spec:=⟨g7,Go.Proofs.Tryz.f7,.s .o (.s (.s (.j [w 4 vl,b 5 vl,a 5,c 6,a 6,.bx 7 [vi,vk],a 7,.bx 8 [vi,vk],a 8,w 49 vb] .o) (.s oo .o)) (.s .o (.s (.s .o (.s oo .o)) (.s .o (.s .o (.s (.s (.j [w 4 vl,c 6,a 6,.bx 7 [vi,vk],a 7,.bx 8 [vi,vk],a 8,w 13 vi,w 15 vi,w 79 vb] .o) (.s oo .o)) (.s .o (.s (.s (.j [w 4 vl,c 6,a 6,.bx 7 [vi,vk],a 7,.bx 8 [vi,vk],a 8,w 13 vi,w 15 vi,w 17 vb,w 88 vb] .o) (.s oo .o)) (.s (.j [w 10 vb] .o) .o))))))))),[(21,11),(25,22),(30,22),(41,25),(47,25),(50,12),(54,29),(59,12),(64,27),(71,27),(80,12),(83,26),(98,30),(99,26),(103,12)],none⟩
noncomputable def Il:List (Nat×AM.Spec):=[(43,s43),(11,s11),(62,s62),(22,s22),(56,s56),(65,s65),(25,s25),(45,s45),(149,afg),(1001,acW),(1000,abW),(108,afb),(109,afh),(60,s60),(171,aeC),(137,aeD),(96,s96),(125,aeQ),(89,s89),(116,aeE),(85,s85),(133,ae2),(131,aeT),(132,ae6),(1003,ab6),(1002,ab2),(92,s92),(130,aeH),(1005,acZ),(1004,acI),(1006,ac0),(124,adp),(87,s87),(88,s88),(86,s86),(49,s49),(139,aeO),(1007,ab4),(99,s99),(91,s91),(74,s74),(75,s75),(1008,acM),(189,aeX),(167,ae5),(168,aeJ),(126,ae1),(94,s94),(127,aeL),(129,aeV),(1010,acX),(1009,acy),(90,s90),(51,s51),(52,s52),(93,s93),(134,aeP),(1011,abT),(95,s95),(97,s97),(53,s53),(78,s78),(98,s98),(54,s54),(55,s55),(15,s15),(50,s50),(14,s14),(12,s12),(29,s29),(113,aeY),(68,s68),(114,aff),(115,aeW),(69,s69),(27,s27),(105,ae4),(106,aeK),(112,afa),(67,s67),(66,s66),(26,s26),(30,s30),(7,s7)]
noncomputable def WJ (g:Nat):Option (List CV):=bif Nat.beq g 0 then some [⟨.sl [.int .i64],.pure,([0,0,2]:List Int)⟩]else bif Nat.beq g 2 then some [⟨.int .u64,.pure,(1:Int)⟩,⟨.int .u64,.pure,(10:Int)⟩,⟨.int .u64,.pure,(100:Int)⟩,⟨.int .u64,.pure,(1000:Int)⟩,⟨.int .u64,.pure,(10000:Int)⟩,⟨.int .u64,.pure,(100000:Int)⟩,⟨.int .u64,.pure,(1000000:Int)⟩,⟨.int .u64,.pure,(10000000:Int)⟩,⟨.int .u64,.pure,(100000000:Int)⟩,⟨.int .u64,.pure,(1000000000:Int)⟩,⟨.int .u64,.pure,(10000000000:Int)⟩,⟨.int .u64,.pure,(100000000000:Int)⟩,⟨.int .u64,.pure,(1000000000000:Int)⟩,⟨.int .u64,.pure,(10000000000000:Int)⟩,⟨.int .u64,.pure,(100000000000000:Int)⟩,⟨.int .u64,.pure,(1000000000000000:Int)⟩,⟨.int .u64,.pure,(10000000000000000:Int)⟩,⟨.int .u64,.pure,(100000000000000000:Int)⟩,⟨.int .u64,.pure,(1000000000000000000:Int)⟩,⟨.int .u64,.pure,(10000000000000000000:Int)⟩]else none
noncomputable def prg:AM.Prg:=⟨NH ada,WJ,acp s43 Il⟩
theorem aeS:kM Go.Proofs.Tryz.prog s43:=⟨Go.Proofs.Tryz.func43,by kernel_rfl,by kernel_rfl⟩
theorem afS:kM Go.Proofs.Tryz.prog s11:=⟨Go.Proofs.Tryz.func11,by kernel_rfl,by kernel_rfl⟩
theorem agm:kM Go.Proofs.Tryz.prog s62:=⟨Go.Proofs.Tryz.func62,by kernel_rfl,by kernel_rfl⟩
theorem agA:kM Go.Proofs.Tryz.prog s22:=⟨Go.Proofs.Tryz.func22,by kernel_rfl,by kernel_rfl⟩
theorem afz:kM Go.Proofs.Tryz.prog s56:=⟨Go.Proofs.Tryz.func56,by kernel_rfl,by kernel_rfl⟩
theorem afv:kM Go.Proofs.Tryz.prog s65:=⟨Go.Proofs.Tryz.func65,by kernel_rfl,by kernel_rfl⟩
theorem afl:kM Go.Proofs.Tryz.prog s25:=⟨Go.Proofs.Tryz.func25,by kernel_rfl,by kernel_rfl⟩
theorem afM:kM Go.Proofs.Tryz.prog s45:=⟨Go.Proofs.Tryz.func45,by kernel_rfl,by kernel_rfl⟩
theorem adA:kM Go.Proofs.Tryz.prog afg:=⟨Go.Proofs.Tryz.func149,by kernel_rfl,by kernel_rfl⟩
theorem ac5:kM Go.Proofs.Tryz.prog acW:=⟨Go.Proofs.Tryz.func169,by kernel_rfl,by kernel_rfl⟩
theorem acV:kM Go.Proofs.Tryz.prog abW:=⟨Go.Proofs.Tryz.func128,by kernel_rfl,by kernel_rfl⟩
theorem ad8:kM Go.Proofs.Tryz.prog afb:=⟨Go.Proofs.Tryz.func108,by kernel_rfl,by kernel_rfl⟩
theorem adZ:kM Go.Proofs.Tryz.prog afh:=⟨Go.Proofs.Tryz.func109,by kernel_rfl,by kernel_rfl⟩
theorem af2:kM Go.Proofs.Tryz.prog s60:=⟨Go.Proofs.Tryz.func60,by kernel_rfl,by kernel_rfl⟩
theorem ad9:kM Go.Proofs.Tryz.prog aeC:=⟨Go.Proofs.Tryz.func171,by kernel_rfl,by kernel_rfl⟩
theorem adL:kM Go.Proofs.Tryz.prog aeD:=⟨Go.Proofs.Tryz.func137,by kernel_rfl,by kernel_rfl⟩
theorem agd:kM Go.Proofs.Tryz.prog s96:=⟨Go.Proofs.Tryz.func96,by kernel_rfl,by kernel_rfl⟩
theorem adJ:kM Go.Proofs.Tryz.prog aeQ:=⟨Go.Proofs.Tryz.func125,by kernel_rfl,by kernel_rfl⟩
theorem agx:kM Go.Proofs.Tryz.prog s89:=⟨Go.Proofs.Tryz.func89,by kernel_rfl,by kernel_rfl⟩
theorem aee:kM Go.Proofs.Tryz.prog aeE:=⟨Go.Proofs.Tryz.func116,by kernel_rfl,by kernel_rfl⟩
theorem afI:kM Go.Proofs.Tryz.prog s85:=⟨Go.Proofs.Tryz.func85,by kernel_rfl,by kernel_rfl⟩
theorem ad3:kM Go.Proofs.Tryz.prog ae2:=⟨Go.Proofs.Tryz.func133,by kernel_rfl,by kernel_rfl⟩
theorem aev:kM Go.Proofs.Tryz.prog aeT:=⟨Go.Proofs.Tryz.func131,by kernel_rfl,by kernel_rfl⟩
theorem aep:kM Go.Proofs.Tryz.prog ae6:=⟨Go.Proofs.Tryz.func132,by kernel_rfl,by kernel_rfl⟩
theorem ac7:kM Go.Proofs.Tryz.prog ab6:=⟨Go.Proofs.Tryz.func169,by kernel_rfl,by kernel_rfl⟩
theorem ace:kM Go.Proofs.Tryz.prog ab2:=⟨Go.Proofs.Tryz.func128,by kernel_rfl,by kernel_rfl⟩
theorem agk:kM Go.Proofs.Tryz.prog s92:=⟨Go.Proofs.Tryz.func92,by kernel_rfl,by kernel_rfl⟩
theorem aej:kM Go.Proofs.Tryz.prog aeH:=⟨Go.Proofs.Tryz.func130,by kernel_rfl,by kernel_rfl⟩
theorem acs:kM Go.Proofs.Tryz.prog acZ:=⟨Go.Proofs.Tryz.func169,by kernel_rfl,by kernel_rfl⟩
theorem abZ:kM Go.Proofs.Tryz.prog acI:=⟨Go.Proofs.Tryz.func128,by kernel_rfl,by kernel_rfl⟩
theorem abY:kM Go.Proofs.Tryz.prog ac0:=⟨Go.Proofs.Tryz.func100,by kernel_rfl,by kernel_rfl⟩
theorem aaG:kM Go.Proofs.Tryz.prog adp:=⟨Go.Proofs.Tryz.func124,by kernel_rfl,by kernel_rfl⟩
theorem aeA:kM Go.Proofs.Tryz.prog s87:=⟨Go.Proofs.Tryz.func87,by kernel_rfl,by kernel_rfl⟩
theorem afd:kM Go.Proofs.Tryz.prog s88:=⟨Go.Proofs.Tryz.func88,by kernel_rfl,by kernel_rfl⟩
theorem ae7:kM Go.Proofs.Tryz.prog s86:=⟨Go.Proofs.Tryz.func86,by kernel_rfl,by kernel_rfl⟩
theorem aeU:kM Go.Proofs.Tryz.prog s49:=⟨Go.Proofs.Tryz.func49,by kernel_rfl,by kernel_rfl⟩
theorem adx:kM Go.Proofs.Tryz.prog aeO:=⟨Go.Proofs.Tryz.func139,by kernel_rfl,by kernel_rfl⟩
theorem ab5:kM Go.Proofs.Tryz.prog ab4:=⟨Go.Proofs.Tryz.func138,by kernel_rfl,by kernel_rfl⟩
theorem agu:kM Go.Proofs.Tryz.prog s99:=⟨Go.Proofs.Tryz.func99,by kernel_rfl,by kernel_rfl⟩
theorem afG:kM Go.Proofs.Tryz.prog s91:=⟨Go.Proofs.Tryz.func91,by kernel_rfl,by kernel_rfl⟩
theorem agj:kM Go.Proofs.Tryz.prog s74:=⟨Go.Proofs.Tryz.func74,by kernel_rfl,by kernel_rfl⟩
theorem afH:kM Go.Proofs.Tryz.prog s75:=⟨Go.Proofs.Tryz.func75,by kernel_rfl,by kernel_rfl⟩
theorem ab7:kM Go.Proofs.Tryz.prog acM:=⟨Go.Proofs.Tryz.func116,by kernel_rfl,by kernel_rfl⟩
theorem adW:kM Go.Proofs.Tryz.prog aeX:=⟨Go.Proofs.Tryz.func189,by kernel_rfl,by kernel_rfl⟩
theorem aem:kM Go.Proofs.Tryz.prog ae5:=⟨Go.Proofs.Tryz.func167,by kernel_rfl,by kernel_rfl⟩
theorem aeb:kM Go.Proofs.Tryz.prog aeJ:=⟨Go.Proofs.Tryz.func168,by kernel_rfl,by kernel_rfl⟩
theorem adK:kM Go.Proofs.Tryz.prog ae1:=⟨Go.Proofs.Tryz.func126,by kernel_rfl,by kernel_rfl⟩
theorem afx:kM Go.Proofs.Tryz.prog s94:=⟨Go.Proofs.Tryz.func94,by kernel_rfl,by kernel_rfl⟩
theorem adI:kM Go.Proofs.Tryz.prog aeL:=⟨Go.Proofs.Tryz.func127,by kernel_rfl,by kernel_rfl⟩
theorem aei:kM Go.Proofs.Tryz.prog aeV:=⟨Go.Proofs.Tryz.func129,by kernel_rfl,by kernel_rfl⟩
theorem adg:kM Go.Proofs.Tryz.prog acX:=⟨Go.Proofs.Tryz.func169,by kernel_rfl,by kernel_rfl⟩
theorem acr:kM Go.Proofs.Tryz.prog acy:=⟨Go.Proofs.Tryz.func128,by kernel_rfl,by kernel_rfl⟩
theorem aft:kM Go.Proofs.Tryz.prog s90:=⟨Go.Proofs.Tryz.func90,by kernel_rfl,by kernel_rfl⟩
theorem afP:kM Go.Proofs.Tryz.prog s51:=⟨Go.Proofs.Tryz.func51,by kernel_rfl,by kernel_rfl⟩
theorem afk:kM Go.Proofs.Tryz.prog s52:=⟨Go.Proofs.Tryz.func52,by kernel_rfl,by kernel_rfl⟩
theorem afA:kM Go.Proofs.Tryz.prog s93:=⟨Go.Proofs.Tryz.func93,by kernel_rfl,by kernel_rfl⟩
theorem adX:kM Go.Proofs.Tryz.prog aeP:=⟨Go.Proofs.Tryz.func134,by kernel_rfl,by kernel_rfl⟩
theorem adi:kM Go.Proofs.Tryz.prog abT:=⟨Go.Proofs.Tryz.func135,by kernel_rfl,by kernel_rfl⟩
theorem agz:kM Go.Proofs.Tryz.prog s95:=⟨Go.Proofs.Tryz.func95,by kernel_rfl,by kernel_rfl⟩
theorem afO:kM Go.Proofs.Tryz.prog s97:=⟨Go.Proofs.Tryz.func97,by kernel_rfl,by kernel_rfl⟩
theorem af7:kM Go.Proofs.Tryz.prog s53:=⟨Go.Proofs.Tryz.func53,by kernel_rfl,by kernel_rfl⟩
theorem agl:kM Go.Proofs.Tryz.prog s78:=⟨Go.Proofs.Tryz.func78,by kernel_rfl,by kernel_rfl⟩
theorem afE:kM Go.Proofs.Tryz.prog s98:=⟨Go.Proofs.Tryz.func98,by kernel_rfl,by kernel_rfl⟩
theorem ags:kM Go.Proofs.Tryz.prog s54:=⟨Go.Proofs.Tryz.func54,by kernel_rfl,by kernel_rfl⟩
theorem afW:kM Go.Proofs.Tryz.prog s55:=⟨Go.Proofs.Tryz.func55,by kernel_rfl,by kernel_rfl⟩
theorem afC:kM Go.Proofs.Tryz.prog s15:=⟨Go.Proofs.Tryz.func15,by kernel_rfl,by kernel_rfl⟩
theorem afV:kM Go.Proofs.Tryz.prog s50:=⟨Go.Proofs.Tryz.func50,by kernel_rfl,by kernel_rfl⟩
theorem agn:kM Go.Proofs.Tryz.prog s14:=⟨Go.Proofs.Tryz.func14,by kernel_rfl,by kernel_rfl⟩
theorem agb:kM Go.Proofs.Tryz.prog s12:=⟨Go.Proofs.Tryz.func12,by kernel_rfl,by kernel_rfl⟩
theorem agh:kM Go.Proofs.Tryz.prog s29:=⟨Go.Proofs.Tryz.func29,by kernel_rfl,by kernel_rfl⟩
theorem adP:kM Go.Proofs.Tryz.prog aeY:=⟨Go.Proofs.Tryz.func113,by kernel_rfl,by kernel_rfl⟩
theorem afB:kM Go.Proofs.Tryz.prog s68:=⟨Go.Proofs.Tryz.func68,by kernel_rfl,by kernel_rfl⟩
theorem aeg:kM Go.Proofs.Tryz.prog aff:=⟨Go.Proofs.Tryz.func114,by kernel_rfl,by kernel_rfl⟩
theorem adC:kM Go.Proofs.Tryz.prog aeW:=⟨Go.Proofs.Tryz.func115,by kernel_rfl,by kernel_rfl⟩
theorem afN:kM Go.Proofs.Tryz.prog s69:=⟨Go.Proofs.Tryz.func69,by kernel_rfl,by kernel_rfl⟩
theorem agi:kM Go.Proofs.Tryz.prog s27:=⟨Go.Proofs.Tryz.func27,by kernel_rfl,by kernel_rfl⟩
theorem aez:kM Go.Proofs.Tryz.prog ae4:=⟨Go.Proofs.Tryz.func105,by kernel_rfl,by kernel_rfl⟩
theorem ady:kM Go.Proofs.Tryz.prog aeK:=⟨Go.Proofs.Tryz.func106,by kernel_rfl,by kernel_rfl⟩
theorem aey:kM Go.Proofs.Tryz.prog afa:=⟨Go.Proofs.Tryz.func112,by kernel_rfl,by kernel_rfl⟩
theorem afX:kM Go.Proofs.Tryz.prog s67:=⟨Go.Proofs.Tryz.func67,by kernel_rfl,by kernel_rfl⟩
theorem afs:kM Go.Proofs.Tryz.prog s66:=⟨Go.Proofs.Tryz.func66,by kernel_rfl,by kernel_rfl⟩
theorem agw:kM Go.Proofs.Tryz.prog s26:=⟨Go.Proofs.Tryz.func26,by kernel_rfl,by kernel_rfl⟩
theorem afo:kM Go.Proofs.Tryz.prog s30:=⟨Go.Proofs.Tryz.func30,by kernel_rfl,by kernel_rfl⟩
theorem fn7:kM Go.Proofs.Tryz.prog s7:=⟨Go.Proofs.Tryz.func7,by kernel_rfl,by kernel_rfl⟩
theorem aen: ∀i,kM Go.Proofs.Tryz.prog (prg.spec i):=D7 aeS Il (by
 intro x hx
 simp only[Il,List.mem_cons,List.not_mem_nil,or_false]at hx
 rcases hx with rfl|rfl|rfl|rfl|rfl|rfl|rfl|rfl|rfl|rfl|rfl|rfl|rfl|rfl|rfl|rfl|rfl|rfl|rfl|rfl|rfl|rfl|rfl|rfl|rfl|rfl|rfl|rfl|rfl|rfl|rfl|rfl|rfl|rfl|rfl|rfl|rfl|rfl|rfl|rfl|rfl|rfl|rfl|rfl|rfl|rfl|rfl|rfl|rfl|rfl|rfl|rfl|rfl|rfl|rfl|rfl|rfl|rfl|rfl|rfl|rfl|rfl|rfl|rfl|rfl|rfl|rfl|rfl|rfl|rfl|rfl|rfl|rfl|rfl|rfl|rfl|rfl|rfl|rfl|rfl|rfl|rfl|rfl|rfl
 ·exact aeS
 ·exact afS
 ·exact agm
 ·exact agA
 ·exact afz
 ·exact afv
 ·exact afl
 ·exact afM
 ·exact adA
 ·exact ac5
 ·exact acV
 ·exact ad8
 ·exact adZ
 ·exact af2
 ·exact ad9
 ·exact adL
 ·exact agd
 ·exact adJ
 ·exact agx
 ·exact aee
 ·exact afI
 ·exact ad3
 ·exact aev
 ·exact aep
 ·exact ac7
 ·exact ace
 ·exact agk
 ·exact aej
 ·exact acs
 ·exact abZ
 ·exact abY
 ·exact aaG
 ·exact aeA
 ·exact afd
 ·exact ae7
 ·exact aeU
 ·exact adx
 ·exact ab5
 ·exact agu
 ·exact afG
 ·exact agj
 ·exact afH
 ·exact ab7
 ·exact adW
 ·exact aem
 ·exact aeb
 ·exact adK
 ·exact afx
 ·exact adI
 ·exact aei
 ·exact adg
 ·exact acr
 ·exact aft
 ·exact afP
 ·exact afk
 ·exact afA
 ·exact adX
 ·exact adi
 ·exact agz
 ·exact afO
 ·exact af7
 ·exact agl
 ·exact afE
 ·exact ags
 ·exact afW
 ·exact afC
 ·exact afV
 ·exact agn
 ·exact agb
 ·exact agh
 ·exact adP
 ·exact afB
 ·exact aeg
 ·exact adC
 ·exact afN
 ·exact agi
 ·exact aez
 ·exact ady
 ·exact aey
 ·exact afX
 ·exact afs
 ·exact agw
 ·exact afo
 ·exact fn7)
theorem adO:vI Go.Proofs.Tryz.prog prg.ty:=abr (by kernel_rfl)
theorem afU:ac8 Go.Proofs.Tryz.prog prg.ty:=abk (by kernel_rfl)
theorem mixed:Go.Proofs.Tryz.prog.follows .mixedOrders=true:=by kernel_rfl
end Go.Proofs.YtdchbjmbgecejaaGreatDoor.Am
end
