import Derived.Test.YtdchbjmbgecejaaGreatDoorMd
import Derived.Test.YtdchbjmbgecejaaGreatDoorProg
import Derived.Test.YtdchbjmbgecejaaGreatDoorMk
import Derived.KernelRfl
set_option linter.unusedVariables false
theorem Ψ{p:Prop}(h:p:=by kernel_rfl):p:=h
theorem Φ{α:Type _}{a b:α}(h:a=b:=by kernel_rfl):some a=some b:=congrArg some h
noncomputable section
namespace Go.Proofs.YtdchbjmbgecejaaGreatDoor.Am
open Go Go.AM Go.Bk
def KU (x:List Int):Option (List Int):=bif decide (List.length x<=ay)then some x else none
def zS (x:List Int):Option (List Int×List Int):=bif decide (List.length x<=ay)then some (x,x)else none
def ru (x:List Int×Int×Int):Option (List Int):=bif decide (x.2.2=10)&&decide (0<=x.2.1)&&decide (x.2.1<18446744073709551616)&&decide (List.length x.1<=2000000000)then some (x.1++EJ 20 x.2.1.toNat)else none
def VO (x:List Int):Option (List Int):=bif decide (List.length x<=ay)then some (He (λ a b=>decide (a<=b)) x)else none
def CY (x:List (Int×Int)):Option (List (Int×Int)):=
 bif decide (List.length x<=ay)&&x.all (λ p=>decide (0<=p.1)&&decide (p.1<=1000000000000)&&x.all λ q=> !decide (p.1=q.1)||decide (p.2=q.2))then some (He (λ p q=>decide (p.1<=q.1)) x)else none
def xZ (x:List (Int×List Int×Int)):Option (List (Int×List Int×Int)):=bif decide (List.length x<=ay)&&x.all (λ p=>decide (List.length p.2.1<=1000))then some (He (λ p q=>decide (vI p q<=0)) x)else none
end Go.Proofs.YtdchbjmbgecejaaGreatDoor.Am
end
noncomputable section
namespace Go.Proofs.YtdchbjmbgecejaaGreatDoor.Am
open Go Go.AM
set_option maxRecDepth 100000
abbrev vi:Sh×Tg:=(.int .i64,.pure)
abbrev vl:Sh×Tg:=(.sl [.int .i64],.pure)
abbrev vr:Sh×Tg:=(.sl [.int .i64,.sl [.int .i64],.int .i64],.pure)
abbrev vb:Sh×Tg:=(.bool,.pure)
abbrev wl:Sh×Tg:=(.sl [.int .i64],.own)
abbrev wr:Sh×Tg:=(.sl [.int .i64,.sl [.int .i64],.int .i64],.own)
abbrev vk:Sh×Tg:=(.rsl [.int .i64],.pure)
abbrev xb:Sh×Tg:=(.sl [.bool],.own)
abbrev xl:Sh×Tg:=(.sl [.sl [.int .i64]],.own)
abbrev vu:Sh×Tg:=(.int .u64,.pure)
abbrev w (n:Nat) (v:Sh×Tg):JE:= .tm n false [v]
abbrev b (n:Nat) (v:Sh×Tg):JE:= .bx n [v]
abbrev c (n:Nat):JE:= .bx n [vi,vl,vr]
abbrev a (n:Nat):JE:= .adr n (.box n) 0
abbrev oo:H:= .s .o .o
def ai1:List (Nat×TyI):=[(2,⟨false,[.int .i64],[],[],none⟩),
 (3,⟨false,[.int .i64],[],[],none⟩),
 (4,⟨false,[.bool],[],[],none⟩),
 (5,⟨false,[.int .u8],[],[],none⟩),
 (6,⟨false,[.int .u8],[],[],none⟩),
 (7,⟨true,[.int .i64,.int .i64,.bool,.int .u8],[(0,1),(1,1),(2,1),(3,1)],[2,3,4,6],none⟩),
 (8,⟨true,[.int .i64,.int .i64,.bool,.int .u8],[(0,1),(1,1),(2,1),(3,1)],[2,3,4,6],none⟩),
 (9,⟨false,[.str],[],[],none⟩),
 (10,⟨false,[.str],[],[],none⟩),
 (11,⟨false,[.str],[],[],none⟩),
 (12,⟨false,[.int .u64],[],[],none⟩),
 (13,⟨true,[.str,.int .u64],[(0,1),(1,1)],[9,12],none⟩),
 (14,⟨true,[.str,.int .u64],[(0,1),(1,1)],[9,12],none⟩),
 (21,⟨false,[.int .i32],[],[],none⟩),
 (22,⟨false,[.sl [.int .i64]],[],[],(some 3)⟩),
 (23,⟨true,[.sl [.int .i64]],[(0,1)],[22],none⟩),
 (24,⟨true,[.sl [.int .i64]],[(0,1)],[22],none⟩),
 (25,⟨false,[.sl [.int .i64,.sl [.int .i64],.int .i64]],[],[],(some 69)⟩),
 (26,⟨true,[.int .i64,.sl [.int .i64],.sl [.int .i64,.sl [.int .i64],.int .i64]],[(0,1),(1,1),(2,1)],[3,22,25],none⟩),
 (27,⟨true,[.int .i64,.sl [.int .i64],.sl [.int .i64,.sl [.int .i64],.int .i64]],[(0,1),(1,1),(2,1)],[3,22,25],none⟩),
 (31,⟨false,[.int .i64],[],[],none⟩),
 (42,⟨false,[.rsl [.int .i64]],[],[],(some 44)⟩),
 (43,⟨true,[.int .i64,.rsl [.int .i64]],[(0,1),(1,1)],[3,42],none⟩),
 (44,⟨true,[.int .i64,.rsl [.int .i64]],[(0,1),(1,1)],[3,42],none⟩),
 (66,⟨false,[.sl [.int .i64,.sl [.int .i64],.sl [.int .i64,.sl [.int .i64],.int .i64]]],[],[],(some 27)⟩),
 (68,⟨true,[.int .i64,.sl [.int .i64],.int .i64],[(0,1),(1,1),(2,1)],[3,22,3],none⟩),
 (69,⟨true,[.int .i64,.sl [.int .i64],.int .i64],[(0,1),(1,1),(2,1)],[3,22,3],none⟩),
 (81,⟨false,[.sl [.bool]],[],[],(some 4)⟩),
 (89,⟨false,[.sl [.sl [.int .i64]]],[],[],(some 22)⟩),
 (107,⟨false,[.sl [.sl [.int .i64,.int .i64]]],[],[],(some 112)⟩),
 (109,⟨false,[.sl [.str]],[],[],(some 9)⟩),
 (110,⟨false,[.sl [.int .u8]],[],[],(some 5)⟩),
 (112,⟨false,[.sl [.int .i64,.int .i64]],[],[],(some 114)⟩),
 (113,⟨true,[.int .i64,.int .i64],[(0,1),(1,1)],[3,3],none⟩),
 (114,⟨true,[.int .i64,.int .i64],[(0,1),(1,1)],[3,3],none⟩),
 (128,⟨false,[.sl [.sl [.bool]]],[],[],(some 81)⟩),
 (132,⟨false,[.int .u64],[],[],none⟩),
 (134,⟨false,[.mp .str .bool],[],[9,4],none⟩),
 (137,⟨false,[.mp .str (.int .i64)],[],[9,3],none⟩),
 (138,⟨false,[.sl [.sl [.int .u64]]],[],[],(some 143)⟩),
 (139,⟨true,[.int .i64,.sl [.int .i64],.sl [.int .i64,.sl [.int .i64],.int .i64],.sl [.sl [.int .i64]],.sl [.sl [.int .u64]],.mp .str (.int .i64),.sl [.int .i64,.sl [.int .i64],.int .i64],.int .i64,.int .i64,.bool],[(0,3),(3,1),(4,1),(5,1),(6,1),(7,1),(8,1),(9,1)],[27,89,138,137,25,3,3,4],none⟩),
 (140,⟨true,[.int .i64,.sl [.int .i64],.sl [.int .i64,.sl [.int .i64],.int .i64],.sl [.sl [.int .i64]],.sl [.sl [.int .u64]],.mp .str (.int .i64),.sl [.int .i64,.sl [.int .i64],.int .i64],.int .i64,.int .i64,.bool],[(0,3),(3,1),(4,1),(5,1),(6,1),(7,1),(8,1),(9,1)],[27,89,138,137,25,3,3,4],none⟩),
 (142,⟨false,[.sl [.int .u64]],[],[],(some 180)⟩),
 (143,⟨false,[.sl [.int .u64]],[],[],(some 180)⟩),
 (146,⟨false,[.mp (.int .i64) .bool],[],[3,4],none⟩),
 (147,⟨true,[.sl [.int .i64],.mp (.int .i64) .bool],[(0,1),(1,1)],[22,146],none⟩),
 (148,⟨true,[.sl [.int .i64],.mp (.int .i64) .bool],[(0,1),(1,1)],[22,146],none⟩),
 (150,⟨false,[.mp .bool (.int .i64)],[],[4,3],none⟩),
 (160,⟨true,[.int .i64,.sl [.sl [.int .i64]]],[(0,1),(1,1)],[3,89],none⟩),
 (161,⟨true,[.int .i64,.sl [.sl [.int .i64]]],[(0,1),(1,1)],[3,89],none⟩),
 (170,⟨false,[.int .i64],[],[],none⟩),
 (178,⟨false,[.int .u32],[],[],none⟩),
 (180,⟨false,[.int .u64],[],[],none⟩),
 (198,⟨false,[.int .u64],[],[],none⟩),
 (236,⟨false,[.int .u8],[],[],none⟩),
 (237,⟨false,[.int .u8],[],[],none⟩),
 (240,⟨false,[.int .i32],[],[],none⟩),
 (241,⟨false,[.int .i32],[],[],none⟩)]
abbrev p0:List JE:=[.bx 0 [vi,vl,vr,(.sl [.sl [.int .i64]],.pure),(.sl [.sl [.int .u64]],.own),(.mp .str (.int .i64),.own),wr,vi,vi,vb],a 0,w 1 vi,w 2 vi,w 3 wl,w 4 vl,w 5 vb]
abbrev p1:List JE:=[b 2 vl,a 2,c 3,a 3,.bx 4 [vi,wl,wr],a 4,.bx 5 [vi,(.sl [.sl [.int .i64]],.own)],a 5,w 6 wl]
abbrev p2:List JE:=[b 2 vl,a 2,.bx 4 [vi,wl,wr],a 4,.bx 6 [vi,(.sl [.int .i64],.tip),(.sl [.int .i64,.sl [.int .i64],.int .i64],.tip)]]
abbrev p3:List JE:=[b 2 vl,a 2,c 3,a 3,.bx 4 [vi,wl,wr],a 4,.adr 7 (.box 28) 0,w 8 vi,.bx 28 [vi,vl,vr,(.sl [.sl [.int .i64]],.pure),(.sl [.sl [.int .u64]],.own),(.mp .str (.int .i64),.own),wr,vi,vi,vb]]
abbrev p4:List JE:=[b 2 vl,a 2,c 3,a 3,.bx 5 [vi,(.sl [.sl [.int .i64]],.own)],a 5,w 6 wl]
abbrev p5:List JE:=[.tm 1 false [(.sl [.bool],.pure)],c 2,a 2,.bx 4 [vi,wl,wr],a 4,w 5 wl,.bx 6 [vi,wl,wr],a 6]
abbrev p6:List JE:=[c 2,a 2,.bx 3 [(.sl [.bool],.pure)],a 3,.bx 4 [vi,wl,wr],a 4,.bx 5 [vi,wl,wr],a 5,w 6 wl]
abbrev p7:List JE:=[c 1,a 1,w 3 xb,w 4 wl,.tm 5 false [(.dl [.sl [.int .i64]],.own)],.bx 6 [wl,(.mp (.int .i64) .bool,.own)],a 6]
abbrev p8:List JE:=[c 3,a 3,.bx 4 [vi,wl,wr],a 4]
abbrev p9:List JE:=[.bx 0 [vi,vl,vr,(.sl [.sl [.int .i64]],.pure),(.sl [.sl [.int .u64]],.own),(.mp .str (.int .i64),.own),(.sl [.int .i64,.sl [.int .i64],.int .i64],.dead),vi,vi,vb],a 0]
abbrev pa:List JE:=[b 2 vl,a 2,c 3,a 3,.tm 6 false [(.sl [.sl [.int .i64]],.tip)]]
abbrev pb:List JE:=[.tm 1 false [(.sl [.bool],.pure)],.bx 4 [vi,wl,wr],a 4,w 5 wl,.bx 6 [vi,wl,wr],a 6]
abbrev pc:List JE:=[.bx 4 [vi,wl,wr],a 4,.bx 11 [vi,wl,wr],a 11,.bx 12 [xb],a 12,w 13 xl,.bx 28 [vi,vl,vr,(.sl [.sl [.int .i64]],.pure),(.sl [.sl [.int .u64]],.own),(.mp .str (.int .i64),.own),(.sl [.int .i64,.sl [.int .i64],.int .i64],.dead),vi,vi,vb],.rf 107 (.box 28) 4 false 1,w 108 vi,w 109 vi]
abbrev pd:List JE:=[c 1,a 1,w 4 xl,w 7 xb,.bx 8 [wl,(.mp (.int .i64) .bool,.own)],a 8,w 11 vi]
abbrev pe:List JE:=[c 3,a 3,.bx 4 [vi,(.sl [.sl [.int .i64]],.own)],a 4,.bx 5 [vi,(.dl [.sl [.int .i64]],.own)],a 5]
abbrev pf:List JE:=[w 1 vi,w 2 vi,b 4 vl,a 4,.tm 13 false [(.sl [.int .i64,.sl [.int .i64],.sl [.int .i64,.sl [.int .i64],.int .i64]],.pure)],w 14 vi,w 15 vi]
abbrev pg:List JE:=[.tm 3 false [(.mp .str (.int .i64),.own)],.tm 4 false [(.dl [.sl [.int .i64,.int .i64]],.own)]]
abbrev ph:List JE:=[w 2 vl,w 3 vi,w 4 vi,.bx 6 [vi,(.sl [.sl [.int .i64]],.pure)],a 6]
abbrev pi:List JE:=[.bx 3 [(.sl [.bool],.pure)],a 3,.bx 4 [vi,wl,wr],a 4,.bx 5 [vi,wl,wr],a 5,w 6 wl]
abbrev pj:List JE:=[c 1,a 1,.bx 3 [xb],a 3,.tm 4 false [(.dl [.sl [.int .i64]],.own)]]
abbrev pk:List JE:=[c 1,a 1,w 3 xb,w 4 wl,w 5 xl,.bx 6 [wl,(.mp (.int .i64) .bool,.own)],a 6,w 11 vi]
abbrev pl:List JE:=[b 2 vl,a 2,c 3,a 3,.bx 4 [vi,wl,wr],a 4,.tm 7 false [(.sl [.sl [.int .i64]],.pure)],.bx 9 [vi,wl,wr],a 9]
abbrev pm:List JE:=[c 1,a 1,w 3 vl,w 4 vi,.tm 5 false [(.sl [.sl [.int .i64,.int .i64]],.own)]]
abbrev pn:List JE:=[c 1,a 1,w 3 xb,w 4 xb,w 7 vb]
abbrev po:List JE:=[w 1 vi,.tm 2 false [(.sl [.sl [.int .i64]],.pure)],w 7 vl]
abbrev pp:List JE:=[c 3,a 3,.tm 7 false [(.dl [.sl [.bool]],.own)],.tm 8 false [(.sl [.sl [.bool]],.own)]]
abbrev pq:List JE:=[c 1,a 1,w 3 xb,w 4 vb,.bx 6 [vi,vl,vi],a 6,w 7 vb,w 15 vr,w 16 vi,w 17 vi]
abbrev pr:List JE:=[.bx 4 [vi,wl,wr],a 4]
abbrev ps:List JE:=[.tm 1 false [(.sl [.sl [.int .i64]],.pure)],c 3,a 3,.bx 5 [vi,vk],a 5,.tm 7 false [(.dl [.sl [.bool]],.own)],.tm 8 false [(.sl [.sl [.bool]],.own)]]
abbrev pt:List JE:=[.bx 0 [vi,vl,vr,(.sl [.sl [.int .i64]],.pure),(.sl [.sl [.int .u64]],.own),(.mp .str (.int .i64),.own),wr,vi,vi,vb],a 0,w 3 wl]
abbrev pu:List JE:=[c 1,a 1,w 3 wl,w 5 vi,w 6 wr]
abbrev pv:List JE:=[b 2 vl,a 2,c 3,a 3,w 62 vr,w 63 vi,w 64 vi]
abbrev pw:List JE:=[w 2 vl,.bx 6 [vi,wl,wr],a 6,.bx 7 [vi,wl,wr],a 7,.bx 12 [vi,wl,vi],a 12,w 42 vr,w 43 vi,w 44 vi]
abbrev px:List JE:=[w 3 wr,.bx 5 [vi,vl,vi],a 5,w 6 vi]
abbrev py:List JE:=[.tm 3 false [(.sl [.int .u8],.own)],.tm 11 false [(.sl [.int .u64],.pure)],w 12 vi,w 13 vi]
abbrev pz:List JE:=[.tm 4 false [(.mp .bool (.int .i64),.own)],w 5 wl]
abbrev pA:List JE:=[.bx 4 [vi,(.sl [.sl [.int .i64]],.own)],a 4,.bx 5 [vi,(.dl [.sl [.int .i64]],.own)],a 5]
abbrev pB:List JE:=[.tm 4 false [(.mp .str (.int .i64),.own)],w 5 wl]
abbrev pC:List JE:=[c 1,a 1,.bx 4 [vi,vl,vi],a 4,w 8 vr,w 9 vi,w 10 vi,w 18 vr,w 19 vi,w 20 vi]
abbrev pD:List JE:=[b 3 vl,a 3,c 4,a 4,.bx 5 [vi,vk],a 5]
abbrev pE:List JE:=[b 2 vl,a 2,c 3,a 3]
abbrev pF:H:=(.s oo .o)
abbrev pG:H:=(.s .o (.s oo (.s pF .o)))
abbrev pH:Sh×Tg:=(.sl [.sl [.int .i64]],.pure)
abbrev pI:List (Sh×Tg):=[(.sl [.int .i64,.sl [.int .i64],.sl [.int .i64,.sl [.int .i64],.int .i64]],.pure)]
abbrev pJ:H:=(.s .o (.s oo (.s (.s (.s .o (.s .o pF)) .o) .o)))
abbrev pK:List (PK):=[.val true [vl],.val true [vi,vl,vr]]
abbrev pL:List (Sh×Tg):=[vi,wl,wr]
abbrev pM:List (Sh×Tg):=[(.sl [.bool],.pure)]
abbrev pN:List (Sh×Tg):=[vi,vl,vr]
abbrev pO:H:=(.s .o pF)
abbrev pP:H:=(.s .o oo)
abbrev pQ:List (Sh×Tg):=[vi,vl,vi]
abbrev pR:List (Sh×Tg):=[(.sl [.int .u8],.own)]
abbrev pS:List (Sh×Tg):=[wl,(.mp (.int .i64) .bool,.own)]
abbrev pT:List (PK):=[.val true pN]
abbrev pU:List (Sh×Tg):=[(.sl [.int .u64],.pure)]
abbrev pV:List (Sh×Tg):=[(.dl [.sl [.int .i64,.int .i64]],.own)]
abbrev pW:List (PK):=[.val false [vl],.val false [vl]]
abbrev pX:List (PK):=[.val true [vl],.val true pN,.val true [vi,vk]]
abbrev pY:List (Sh×Tg):=[vi,(.sl [.int .i64],.tip),(.sl [.int .i64,.sl [.int .i64],.int .i64],.tip)]
abbrev pZ:List (Sh×Tg):=[vi,vk]
abbrev q0:List (Sh×Tg):=[vi,wl,vi]
abbrev q1:H:=(.s (.j [w 4 vb] .o) .o)
abbrev q2:List (PK):=[.val false [vi],.val false [vi]]
abbrev q3:List (Sh×Tg):=[vi,vl,wr]
abbrev q4:List (PK):=[.val true [vl],.val false pI]
abbrev q5:List (Sh×Tg):=[(.dl [.sl [.int .i64]],.own)]
abbrev q6:List (JE):=[w 0 wr,.fn 1 139,w 5 vi,.rs 6 (.tmp 0) 0 false,w 7 vi]
abbrev q7:List (PK):=[.val true [vl],.val true pZ]
abbrev q8:Sh×Tg:=(.sl [.sl [.int .u64]],.own)
abbrev q9:List (Sh×Tg):=[(.sl [.str],.own)]
abbrev qa:Sh×Tg:=(.mp .str (.int .i64),.own)
abbrev qb:List (JE):=[c 1,a 1,w 3 xb,w 4 vb,w 15 vr,w 16 vi,w 17 vi]
def s43:AM.Spec:=⟨⟨43,[.val true [vl],.val false [vi],.val false [vi],.val false pI],[(false,[vb])]⟩,Tryz.f43,.s .o (.s (.s .o (.jr [b 4 vl,a 4] (.j pf (.s .o (.s oo (.s (.s (.s .o (.s (.s (.j [w 1 vi,w 2 vi,b 4 vl,a 4,c 10,a 10,.tm 13 false pI,w 14 vi,w 15 vi,w 41 vb] .o) pF) (.s .o (.jr pf (.j (pf++[w 43 vr,w 44 vi,w 45 vi]) pJ))))) .o) .o)))))) oo),[],none⟩
def s11:AM.Spec:=⟨⟨11,q4,[(false,[vb])]⟩,Tryz.f11,.s .o oo,[(7,43)],none⟩
def s62:AM.Spec:=⟨⟨62,[.val true pZ,.val false [vi]],[(false,[vi])]⟩,Tryz.f62,.s .o (.s .o (.s (.s .o (.j [w 5 vi] (.j [w 1 vi,w 5 vi,w 9 vk,w 10 vi,w 11 vi] (.s .o (.s oo (.s (.s (.s .o (.s .o (.j [w 1 vi,w 5 vi,w 9 vk,w 10 vi,w 11 vi] oo))) .o) .o)))))) oo)),[(23,62)],none⟩
def s22:AM.Spec:=⟨⟨22,[.val true pZ,.val false [vi]],[(false,[vb])]⟩,Tryz.f22,.s .o oo,[(7,62)],none⟩
def s45:AM.Spec:=⟨⟨45,[],[(true,pL)]⟩,Tryz.f45,.s .o oo,[],none⟩
def alq:AM.Spec:=⟨⟨149,[.val false [vi]],[(false,[vb])]⟩,Tryz.f149,.s .o (.s (.j [w 2 vb] .o) .o),[],none⟩
def ajD:AM.Spec:=⟨⟨169,[.val false [vl],.fn 149],[(false,[vi])]⟩,Tryz.f169,.s .o (.s (.s .o (.jr [] (.j [w 0 vl,.fn 1 149,w 7 vi,w 8 vi] pJ))) oo),[(16,149)],none⟩
def ajC:AM.Spec:=⟨⟨128,[.val false [vl],.fn 149],[(false,[vb])]⟩,Tryz.f128,.s .o oo,[(7,1001)],none⟩
def akX:AM.Spec:=⟨⟨108,[.val true [vl]],[(false,[vb])]⟩,Tryz.f108,.s .o (.s (.j [w 2 vb] .o) .o),[(10,1000)],none⟩
def akY:AM.Spec:=⟨⟨109,[.val false [vi],.rptr pN],[(false,[vb])]⟩,Tryz.f109,.s .o (.s (.j [w 3 vb] .o) .o),[],none⟩
def s60:AM.Spec:=⟨⟨60,pK,[(false,[vb])]⟩,Tryz.f60,.s .o (.s (.s (.j (pE++[w 30 vb]) .o) pF) (.s .o (.s (.s .o (.jr [b 2 vl,a 2,c 3,a 3,.clo 5 109 [(.box 3,0)]] (.j [b 2 vl,a 2,c 3,a 3,.clo 5 109 [(.box 3,0)],w 33 vl,w 34 vi,w 35 vi] (.s .o (.s oo (.s (.s (.s .o (.s (.j [b 2 vl,a 2,c 3,a 3,.clo 5 109 [(.box 3,0)],w 33 vl,w 34 vi,w 35 vi,w 57 vb] .o) pF)) .o) .o)))))) (.s (.s .o (.jr [] (.j [b 2 vl,a 2,c 3,.clo 5 109 [(.box 3,0)],w 60 vr,w 61 vi,w 62 vi] (.s .o (.s oo (.s (.s (.s .o (.s (.s (.j [b 2 vl,a 2,c 3,.clo 5 109 [(.box 3,0)],.bx 9 pQ,a 9,w 60 vr,w 61 vi,w 62 vi,w 95 vb] .o) pF) (.s .o (.jr [b 2 vl,a 2,c 3,.clo 5 109 [(.box 3,0)],w 60 vr,w 61 vi,w 62 vi] (.j [b 2 vl,a 2,c 3,.clo 5 109 [(.box 3,0)],w 60 vr,w 61 vi,w 62 vi,w 97 vl,w 98 vi,w 99 vi] pJ))))) .o) .o)))))) oo)))),[(13,108),(42,109),(93,109),(105,109)],none⟩
def ajp:AM.Sig:=⟨171,[.val false [(.sl [.int .u8],.own)],.val false [vu],.val false [vi]],[(false,[(.sl [.int .u8],.own)])]⟩
def alx:AM.Spec:=⟨ajp,Tryz.f171,.o,[],(some ru)⟩
def alf:AM.Spec:=⟨⟨137,[.val false pR,.val false [vi],.val false [vi]],[(false,pR)]⟩,Tryz.f137,.s .o (.s .o (.s (.s .o (.j [.tm 0 false pR,w 2 vi,w 7 vu] pF)) oo)),[(20,171)],none⟩
def s96:AM.Spec:=⟨⟨96,[.val false pR,.val false [vi],.val false [vi]],[(false,pR)]⟩,Tryz.f96,.s .o oo,[(10,137)],none⟩
def ak6:AM.Spec:=⟨⟨125,[.val false [vi],.val false [vl]],[(false,[(.str,.pure)])]⟩,Tryz.f125,.s .o (.s .o (.s (.s .o (.j [.tm 5 false pR] (.j [.tm 5 false pR,w 10 vl,w 11 vi,w 12 vi] pG))) oo)),[(9,96),(20,96)],none⟩
def s89:AM.Spec:=⟨⟨89,pK,[(false,[vb]),(false,[vi])]⟩,Tryz.f89,.s .o (.s pO (.s .o (.s (.s .o (.jr [] (.j [.tm 6 false [(.mp .str .bool,.own)],w 16 vr,w 17 vi,w 18 vi] (.s .o (.s oo (.s (.s (.s .o (.s .o (.s pO .o))) .o) .o)))))) oo))),[(12,60),(26,125)],none⟩
def ajo:AM.Sig:=⟨116,[.val false [vl]],[(false,[wl])]⟩
def ak5:AM.Spec:=⟨ajo,Tryz.f116,.o,[],(some KU)⟩
def s85:AM.Spec:=⟨⟨85,pT,[(true,pL)]⟩,Tryz.f85,.s .o (.s .o (.s (.s .o (.j [.bx 2 pL,a 2,.bx 3 pL,a 3] (.j [.bx 2 pL,a 2,.bx 3 pL,a 3,w 13 vr,w 14 vi,w 15 vi] pG))) oo)),[(10,116),(25,116)],none⟩
def ald:AM.Spec:=⟨⟨133,[.ptr pS,.val false [vi]],[]⟩,Tryz.f133,.s (.s .o (.j [.bx 0 pS,a 0,w 1 vi] oo)) (.s .o (.j [.bx 0 pS,a 0] pF)),[],none⟩
def alb:AM.Spec:=⟨⟨131,pT,[(false,[xb])]⟩,Tryz.f131,.s .o (.s .o (.s .o (.s .o (.s .o (.st 5 (.s .o (.j p7 (.j (p7++[w 25 vr,w 26 vi,w 27 vi]) (.s .o (.s oo (.s (.s (.s .o (.s .o (.s (.s .o (.j (p7++[w 7 vi,.bx 8 pQ,a 8,w 25 vr,w 26 vi,w 27 vi]) (.j (p7++[w 7 vi,.bx 8 pQ,a 8,w 25 vr,w 26 vi,w 27 vi,w 39 vl,w 40 vi,w 41 vi]) pG))) (.s .o (.j (p7++[w 25 vr,w 26 vi,w 27 vi]) oo))))) .o) .o)))))) (.s (.s .o (.j [w 3 xb] (.j pk (.s pP (.s (.s (.s .o (.s .o (.j pk (.j (pk++[w 86 vl,w 87 vi,w 88 vi]) (.s .o (.s oo (.s (.s (.s .o (.s .o (.s .o (.j (pk++[w 86 vl,w 87 vi,w 88 vi]) oo)))) .o) .o))))))) .o) .o))))) oo)))))),[(23,1),(63,133),(109,133)],none⟩
def alc:AM.Spec:=⟨⟨132,[.val false [vi],.rptr pM],[(false,[vb])]⟩,Tryz.f132,.s .o oo,[],none⟩
def ajF:AM.Spec:=⟨⟨169,[.val false [vl],.clo 132 pM],[(false,[vi])]⟩,Tryz.f169,.s .o (.s (.s .o (.jr [] (.j [w 0 vl,.cpd 1 132 pM,w 7 vi,w 8 vi] pJ))) oo),[(16,132)],none⟩
def ajE:AM.Spec:=⟨⟨128,[.val false [vl],.clo 132 pM],[(false,[vb])]⟩,Tryz.f128,.s .o oo,[(7,1003)],none⟩
def s92:AM.Spec:=⟨⟨92,pT,[(false,[xb])]⟩,Tryz.f92,.s .o (.s .o (.s .o (.s (.s .o (.j pj (.j (pj++[w 22 vr,w 23 vi,w 24 vi]) (.s .o (.s oo (.s (.s (.s .o (.s .o (.j (pj++[w 22 vr,w 23 vi,w 24 vi]) oo))) .o) .o)))))) (.s .o (.s .o (.st 4 (.s .o (.j [c 1,a 1,.tm 4 false q5,w 7 xb,.bx 8 pS,a 8] (.j (pj++[w 7 xb,.bx 8 pS,a 8,w 51 vl,w 52 vi,w 53 vi]) (.s .o (.s oo (.s (.s (.s .o (.s .o (.j (pj++[w 7 xb,.bx 8 pS,a 8,w 51 vl,w 52 vi,w 53 vi]) oo))) .o) .o)))))) (.s (.s .o (.j [w 7 xb] (.j pd (.s pP (.s (.s (.s .o (.s .o (.j pd (.j (pd++[w 85 vl,w 86 vi,w 87 vi]) (.s .o (.s oo (.s (.s (.s .o (.s .o (.j (pd++[w 85 vl,w 86 vi,w 87 vi]) (.j (pd++[w 85 vl,w 86 vi,w 87 vi,w 96 vl,w 97 vi,w 98 vi]) pG)))) .o) .o))))))) .o) .o))))) oo))))))),[(17,131),(20,1),(32,1002),(62,133),(103,133)],none⟩
def ala:AM.Spec:=⟨⟨130,[.val false [vi],.rptr pM],[(false,[vb])]⟩,Tryz.f130,.s .o oo,[],none⟩
def ajH:AM.Spec:=⟨⟨169,[.val false [vl],.clo 130 pM],[(false,[vi])]⟩,Tryz.f169,.s .o (.s (.s .o (.jr [] (.j [w 0 vl,.cpd 1 130 pM,w 7 vi,w 8 vi] pJ))) oo),[(16,130)],none⟩
def ajG:AM.Spec:=⟨⟨128,[.val false [vl],.clo 130 pM],[(false,[vb])]⟩,Tryz.f128,.s .o oo,[(7,1005)],none⟩
def aij:AM.Sig:=⟨100,[.io [wr],.fn 49],[]⟩
def ajI:AM.Spec:=⟨aij,Tryz.f100,.o,[],(some xZ)⟩
def aja:AM.Spec:=⟨⟨124,[.val false [vi]],[(false,[vb])]⟩,Tryz.f124,.s .o oo,[],none⟩
def s87:AM.Spec:=⟨⟨87,q2,[(false,[vi])]⟩,Tryz.f87,.s .o (.s .o (.s .o (.s (.s .o (.s (.s pO oo) .o)) (.s pO (.s pO (.s pO oo)))))),[(8,124),(10,124)],none⟩
def s88:AM.Spec:=⟨⟨88,pW,[(false,[vi])]⟩,Tryz.f88,.s .o (.s (.s .o (.jr [w 0 vl,w 1 vl] (.j [w 0 vl,w 1 vl,w 9 vl,w 10 vi,w 11 vi] (.s .o (.s oo (.s (.s (.s .o (.s pO (.s .o (.s .o pO)))) .o) .o)))))) (.s pO oo)),[(26,87)],none⟩
def s86:AM.Spec:=⟨⟨86,[.val false [vl]],[(false,[vi])]⟩,Tryz.f86,.s .o (.s .o (.s (.s .o (.jr [w 3 vi] (.j [w 3 vi,w 6 vl,w 7 vi,w 8 vi] pJ))) oo)),[],none⟩
def s49:AM.Spec:=⟨⟨49,[.val true pQ,.val true pQ],[(false,[vi])]⟩,Tryz.f49,.s .o oo,[(9,87),(14,88),(19,87),(21,86)],none⟩
def alg:AM.Spec:=⟨⟨139,[.val true pQ,.val true pQ],[(false,[vb])]⟩,Tryz.f139,.s .o oo,[(7,49)],none⟩
def ajJ:AM.Spec:=⟨⟨138,[.val false [wr],.fn 139],[(false,[wr])]⟩,Tryz.f138,.s .o (.s pO (.s (.s .o (.jr [w 0 wr] (.j [w 0 wr,.fn 1 139,w 5 vi] (.s pP (.s (.s (.s .o (.s (.s .o (.s (.s .o (.j [w 0 wr,w 5 vi] (.j q6 (.s pP (.s (.s (.s .o (.j q6 pF)) .o) .o))))) pP)) .o)) .o) .o))))) oo)),[(6,2),(28,139),(48,139)],none⟩
def s99:AM.Spec:=⟨⟨99,[.val false [wr]],[(false,[wr])]⟩,Tryz.f99,.s .o pP,[(4,1006),(6,1007)],none⟩
def s91:AM.Spec:=⟨⟨91,[.val true pN,.val false pM],[(true,pL)]⟩,Tryz.f91,.s .o (.s .o (.s .o (.s (.s .o (.j p6 (.j (p6++[.tm 19 false pM,w 20 vi,w 21 vi]) (.s .o (.s oo (.s (.s (.s .o (.s .o (.j (p6++[.tm 19 false pM,w 20 vi,w 21 vi]) pF))) .o) .o)))))) (.s (.s .o (.j p6 (.j (p6++[w 38 vl,w 39 vi,w 40 vi]) (.s .o (.s oo (.s (.s (.s .o (.s .o (.j (p6++[w 38 vl,w 39 vi,w 40 vi]) oo))) .o) .o)))))) (.s (.s .o (.j (pr++[.bx 5 pL,a 5]) (.j (pi++[w 59 vr,w 60 vi,w 61 vi]) (.s .o (.s oo (.s (.s (.s .o (.s (.s (.j (pi++[.bx 12 pQ,a 12,w 59 vr,w 60 vi,w 61 vi,w 76 vb]) .o) oo) (.s .o (.s .o (.s (.s .o (.j (pi++[.bx 13 q0,a 13,w 59 vr,w 60 vi,w 61 vi]) (.j (pi++[.bx 13 q0,a 13,w 59 vr,w 60 vi,w 61 vi,.rf 95 (.box 13) 1 false 1,w 96 vi,w 97 vi]) pG))) .o))))) .o) .o)))))) pP))))),[(75,1004),(120,99)],none⟩
def s74:AM.Spec:=⟨⟨74,pK,[(true,pN),(false,[vi])]⟩,Tryz.f74,.s .o (.s pO oo),[(8,60),(13,92),(14,91)],none⟩
def s75:AM.Spec:=⟨⟨75,pK,[(false,[xl])]⟩,Tryz.f75,.s .o (.s .o (.st 5 (.s .o (.j [.tm 5 false q5] (.j [.tm 5 false q5,w 13 vr,w 14 vi,w 15 vi] pG))) oo)),[(11,1)],none⟩
def agw:AM.Sig:=⟨116,[.io [wl]],[(false,[wl])]⟩
def ajK:AM.Spec:=⟨agw,Tryz.f116,.o,[],(some zS)⟩
def alz:AM.Spec:=⟨⟨189,[.val false pU],[(false,[(.str,.pure)])]⟩,Tryz.f189,.s .o (.s .o (.s (.s .o (.j [.tm 3 false pR] (.j py (.s .o (.s oo (.s (.s (.s .o (.s .o (.j py (.j [.tm 3 false pR,w 5 vu,.tm 11 false pU,w 12 vi,w 13 vi,w 17 vi] pG)))) .o) .o)))))) oo)),[],none⟩
def alu:AM.Spec:=⟨⟨167,[.ptr [vi,vl,vr,pH,q8,qa,(.sl [.int .i64,.sl [.int .i64],.int .i64],.dead),vi,vi,vb],.val false [vl]],[(false,[vi])]⟩,Tryz.f167,.s .o (.s pO (.s .o (.s (.s .o (.j (p9++[.tm 5 false [(.sl [.int .u64],.own)]]) (.j (p9++[.tm 5 false [(.sl [.int .u64],.own)],w 23 vl,w 24 vi,w 25 vi]) (.s .o (.s oo (.s (.s pP .o) .o)))))) (.s .o (.s .o (.s (.s .o (.j (p9++[w 10 vi]) (.s pP .o))) oo)))))),[(50,189)],none⟩
def alv:AM.Spec:=⟨⟨168,[.val false pU,.val false [vi]],[(false,[vb])]⟩,Tryz.f168,.s .o oo,[],none⟩
def ak7:AM.Spec:=⟨⟨126,[.ptr [vi,vl,vr,pH,q8,qa,wr,vi,vi,vb],.val false [vi],.val false [vi],.io [wl],.val false [vl],.val false [vb]],[]⟩,Tryz.f126,.s (.s (.j (p0++[w 25 vb]) .o) oo) (.s (.s .o (.s (.s .o (.s (.j pt .o) .o)) .o)) (.s .o (.s (.s (.j (p0++[w 12 vi,w 71 vb]) .o) (.j (p0++[w 12 vi]) oo)) (.s .o (.j pt (.j (p0++[w 13 vi]) (.s pP (.s (.s (.s .o (.s (.s .o (.j (p0++[w 13 vi,w 14 wl]) (.j (p0++[w 13 vi,w 14 wl,w 85 vl,w 86 vi,w 87 vi]) (.s .o (.s oo (.s (.s (.s .o (.s .o (.j (p0++[w 13 vi,w 14 wl,w 85 vl,w 86 vi,w 87 vi]) oo))) .o) .o)))))) (.j (p0++[w 13 vi]) .o))) .o) .o)))))))),[(37,1008),(40,167),(111,168),(123,3),(134,126)],none⟩
def s94:AM.Spec:=⟨⟨94,pT,[(false,[xb])]⟩,Tryz.f94,.s .o (.s .o (.s (.s .o (.j [w 3 xb] (.j [w 3 xb,w 10 vl,w 11 vi,w 12 vi] pG))) oo)),[],none⟩
def ak8:AM.Spec:=⟨⟨127,[.val false pU],[(false,[wl])]⟩,Tryz.f127,.s .o (.s .o (.s (.s .o (.j [w 3 wl] (.j [.tm 0 false pU,w 3 wl,w 7 vi,w 8 vi] (.s .o (.s oo (.s (.s (.s .o (.s .o (.j [.tm 0 false pU,w 3 wl,w 7 vi,w 8 vi] oo))) .o) .o)))))) oo)),[(13,168)],none⟩
def ak9:AM.Spec:=⟨⟨129,[.val false [vi],.rptr pM],[(false,[vb])]⟩,Tryz.f129,.s .o oo,[],none⟩
def ajM:AM.Spec:=⟨⟨169,[.val false [vl],.clo 129 pM],[(false,[vi])]⟩,Tryz.f169,.s .o (.s (.s .o (.jr [] (.j [w 0 vl,.cpd 1 129 pM,w 7 vi,w 8 vi] pJ))) oo),[(16,129)],none⟩
def ajL:AM.Spec:=⟨⟨128,[.val false [vl],.clo 129 pM],[(false,[vb])]⟩,Tryz.f128,.s .o oo,[(7,1010)],none⟩
def s90:AM.Spec:=⟨⟨90,pK,[(true,pN),(false,[pH]),(false,[vi])]⟩,Tryz.f90,.s .o (.s pO (.s .o (.s (.s .o (.jr (p8++[.adr 7 (.box 28) 0,.bx 28 [vi,vl,vr,pH,q8,qa,wr,vi,vi,vb]]) (.j p3 (.s (.s (.j (p3++[w 41 vb]) .o) oo) (.s (.s (.s (.s .o (.j p3 (.j (p3++[w 45 vl,w 46 vi,w 47 vi]) (.s .o (.s oo (.s (.s (.s .o (.s .o (.j (p3++[w 45 vl,w 46 vi,w 47 vi]) oo))) .o) .o)))))) (.s pO .o)) .o) .o))))) (.s .o (.s .o (.s .o (.s (.s .o (.j (pr++[.bx 11 pL,a 11,w 13 xl]) (.j pc (.s .o (.s oo (.s (.s (.s .o (.s .o (.s .o (.s .o (.j pc oo))))) .o) .o)))))) oo))))))),[(19,60),(25,75),(69,126),(100,99),(103,94),(115,127),(122,1009)],none⟩
def s51:AM.Spec:=⟨⟨51,pK,[(true,pN),(false,[vi])]⟩,Tryz.f51,.s .o (.s .o (.s pO (.s pO (.s .o (.s pO pP))))),[(14,89),(23,85),(27,74),(37,90)],none⟩
def s52:AM.Spec:=⟨⟨52,pT,[(true,pL)]⟩,Tryz.f52,.s .o oo,[(5,92),(6,91)],none⟩
def s93:AM.Spec:=⟨⟨93,[.val false pM],[(false,[vl]),(false,[vi])]⟩,Tryz.f93,.s .o (.s .o (.s .o (.s (.s .o (.j pz (.j (pz++[.tm 11 false pM,w 12 vi,w 13 vi]) (.s .o (.s oo (.s (.s (.s .o (.s .o (.s (.s .o (.j (pz++[w 8 vi,.tm 11 false pM,w 12 vi,w 13 vi]) pF)) .o))) .o) .o)))))) oo))),[],none⟩
def ale:AM.Spec:=⟨⟨134,[.val false [vi],.val false [vl]],[(false,[(.str,.pure)])]⟩,Tryz.f134,.s .o oo,[(7,125)],none⟩
def aik:AM.Sig:=⟨135,[.io [(.sl [.int .i64,.int .i64],.own)],.fn 136],[]⟩
def ajN:AM.Spec:=⟨aik,Tryz.f135,.o,[],(some CY)⟩
def s95:AM.Spec:=⟨⟨95,pT,[(false,pV)]⟩,Tryz.f95,.s .o (.s .o (.s .o (.s (.s .o (.j [.tm 4 false pV] (.j (pg++[w 20 vr,w 21 vi,w 22 vi]) (.s .o (.s oo (.s (.s (.s .o (.s .o (.j (pg++[w 20 vr,w 21 vi,w 22 vi]) (.j (pg++[.bx 6 pQ,a 6,w 20 vr,w 21 vi,w 22 vi,w 27 vl,w 28 vi,w 29 vi]) (.s .o (.s oo (.s (.s (.s .o (.s .o (.s .o (.s .o (.s .o (.s (.s .o (.j (pg++[.bx 6 pQ,a 6,w 8 vi,w 11 vi,w 20 vr,w 21 vi,w 22 vi,w 27 vl,w 28 vi,w 29 vi]) pF)) .o)))))) .o) .o))))))) .o) .o)))))) (.s (.s .o (.j [.tm 4 false pV] (.j [.tm 4 false pV,.rf 72 (.tmp 4) 0 false 1,w 73 vi,w 74 vi] pG))) oo)))),[(14,2),(18,1),(36,116),(43,134),(79,1011)],none⟩
def s97:AM.Spec:=⟨⟨97,[.val false [(.sl [.str],.pure)]],[(false,[vl]),(false,[vi])]⟩,Tryz.f97,.s .o (.s .o (.s .o (.s (.s .o (.j pB (.j (pB++[.tm 11 false [(.sl [.str],.pure)],w 12 vi,w 13 vi]) (.s .o (.s oo (.s (.s (.s .o (.s .o (.s (.s .o (.j (pB++[w 8 vi,.tm 11 false [(.sl [.str],.pure)],w 12 vi,w 13 vi]) pF)) .o))) .o) .o)))))) oo))),[],none⟩
def s53:AM.Spec:=⟨⟨53,pT,[(false,[vl])]⟩,Tryz.f53,.s .o (.s .o (.st 5 .o (.jr [] (.j pm (.s (.s .o (.s (.s .o (.j [c 1,a 1,w 4 vi,.tm 5 false [(.sl [.sl [.int .i64,.int .i64]],.own)],.tm 6 false q9] (.j (pm++[.tm 6 false q9,w 25 vi,w 26 vi]) (.s .o (.s oo (.s (.s (.s .o (.s .o (.s (.s .o (.j (pm++[.tm 6 false q9,w 7 vi,.tm 8 false pR,w 25 vi,w 26 vi]) (.j (pm++[.tm 6 false q9,w 7 vi,.tm 8 false pR,w 25 vi,w 26 vi,.tm 37 false [(.sl [.int .i64,.int .i64],.pure)],w 38 vi,w 39 vi]) (.s .o (.s oo (.s (.s pP .o) .o)))))) .o))) .o) .o)))))) (.s .o (.s .o (.s pO .o))))) .o))))),[(15,94),(16,93),(20,95),(33,96),(48,96),(57,96),(67,97)],none⟩
def g78:AM.Sig:=⟨78,[.io [wl]],[]⟩
def s78:AM.Spec:=⟨g78,Tryz.f78,.o,[],(some VO)⟩
def s98:AM.Spec:=⟨⟨98,[.val false [wl]],[(false,[wl])]⟩,Tryz.f98,.s .o (.s pO (.s (.s .o (.jr [w 0 wl] (.j [w 0 wl,w 3 vi] (.s pP (.s (.s (.s .o (.s (.s .o (.s (.s .o (.j [w 0 wl,w 3 vi] (.j [w 0 wl,w 3 vi,.rs 4 (.tmp 0) 0 false,w 5 vi] (.s pP (.s (.s (.s .o (.j [w 0 wl,w 3 vi,.rs 4 (.tmp 0) 0 false,w 5 vi] pF)) .o) .o))))) pP)) .o)) .o) .o))))) oo)),[(4,2)],none⟩
def s54:AM.Spec:=⟨⟨54,[.val true pN,.val false [vi],.val false [vl]],[(true,pN)]⟩,Tryz.f54,.s .o (.s .o (.s (.s .o (.j [w 2 vl,c 3,a 3,.bx 6 pL,a 6,.bx 7 pL,a 7] (.j [w 2 vl,c 3,a 3,.bx 6 pL,a 6,.bx 7 pL,a 7,w 18 vl,w 19 vi,w 20 vi] pG))) (.s .o (.s .o (.s (.s .o (.j [.bx 6 pL,a 6,.bx 7 pL,a 7] (.j [w 2 vl,.bx 6 pL,a 6,.bx 7 pL,a 7,w 42 vr,w 43 vi,w 44 vi] (.s .o (.s oo (.s (.s (.s .o (.s .o (.s (.s .o (.j pw (.j (pw++[w 57 vl,w 58 vi,w 59 vi]) pG))) .o))) .o) .o)))))) pP))))),[(36,78),(39,98),(82,99)],none⟩
def s55:AM.Spec:=⟨⟨55,pT,[(false,[wl])]⟩,Tryz.f55,.s .o (.s .o (.s (.s .o (.j [c 1,a 1,w 3 wl] (.j [c 1,a 1,w 3 wl,w 18 vi,w 19 vi] pG))) (.s (.s .o (.j [w 3 wl] (.j [c 1,a 1,w 3 wl,w 5 vi] (.s pP (.s (.s .o (.s .o (.s (.s .o (.j pu (.j (pu++[w 31 vr,w 32 vi,w 33 vi]) (.s .o (.s oo (.s (.s (.s .o (.s pP (.s .o (.s (.s .o (.jr (pu++[.bx 9 q0,a 9,w 31 vr,w 32 vi,w 33 vi]) (.j (pu++[.bx 9 q0,a 9,w 31 vr,w 32 vi,w 33 vi,w 49 vl,w 50 vi,w 51 vi]) (.s .o (.s oo (.s (.s (.s .o (.s pP .o)) .o) .o)))))) .o)))) .o) .o)))))) (.s pP (.s .o (.s .o (.j [c 1,a 1,w 3 wl,w 5 vi] (.j (pu++[.rf 80 (.tmp 6) 0 false 1,w 81 vi,w 82 vi]) (.s .o (.s oo (.s (.s (.s .o (.s .o (.j (pu++[.rf 80 (.tmp 6) 0 false 1,w 81 vi,w 82 vi]) pF))) .o) .o))))))))))) .o))))) oo))),[(79,1006)],none⟩
def s15:AM.Spec:=⟨⟨15,pK,[(true,pN),(false,[vi])]⟩,Tryz.f15,.s .o (.s .o (.s pO (.s .o (.s .o (.s .o (.s (.s .o (.j (pr++[.bx 6 pY,a 6,w 8 vl,w 9 vi]) (.j (pr++[.bx 6 pY,a 6,w 8 vl,w 9 vi,w 27 vl,w 28 vi,w 29 vi]) pG))) pP)))))),[(16,51),(24,52),(26,53),(41,54),(45,55),(46,54)],none⟩
def s50:AM.Spec:=⟨⟨50,pW,[(false,[vb])]⟩,Tryz.f50,.s .o (.s pO (.s (.s .o (.jr [] (.j [w 0 vl,w 1 vl,w 12 vi,w 13 vi] pJ))) oo)),[],none⟩
def s14:AM.Spec:=⟨⟨14,[.val true pN,.val true pN],[(false,[vb])]⟩,Tryz.f14,.s .o (.s (.s (.j [c 2,a 2,c 3,a 3,w 28 vb] .o) pF) (.s (.s .o (.jr [] (.j [c 3,a 3,w 30 vr,w 31 vi,w 32 vi] (.s .o (.s oo (.s (.s (.s .o (.s (.j [c 3,a 3,w 30 vr,w 31 vi,w 32 vi,w 68 vb] .o) pF)) .o) .o)))))) oo)),[(17,50),(66,50)],none⟩
def s12:AM.Spec:=⟨⟨12,[],[(false,[vb])]⟩,Tryz.f12,.s .o (.s .o (.s (.j [w 0 vb] .o) .o)),[(5,45),(6,15),(26,14)],none⟩
def ak2:AM.Spec:=⟨⟨113,[.val true [vl],.val true pZ,.ptr [vi]],[(false,[vb])]⟩,Tryz.f113,.s .o (.s (.s .o (.s (.j [b 2 vi,a 2,b 3 vl,a 3,.bx 4 pZ,a 4,w 42 vb] .o) pF)) (.s (.s .o (.jr [b 2 vi,a 2] (.j [b 2 vi,a 2,b 3 vl,a 3,w 44 vk,w 45 vi,w 46 vi] pJ))) oo)),[(53,113)],none⟩
def s68:AM.Spec:=⟨⟨68,q7,[(false,[vb])]⟩,Tryz.f68,.s .o (.s .o q1),[(7,108),(11,113)],none⟩
def ak3:AM.Spec:=⟨⟨114,pX,[(false,[vi])]⟩,Tryz.f114,.s .o (.s (.s (.j [w 16 vb] .o) pF) oo),[(9,60),(14,68)],none⟩
def ak4:AM.Spec:=⟨⟨115,[.val true pN,.val false [pH],.val true pZ],[(false,[(.dl [.sl [.bool]],.own)])]⟩,Tryz.f115,.s .o (.s .o (.s .o (.s (.s .o (.j ps (.j (ps++[w 22 vk,w 23 vi,w 24 vi]) (.s .o (.s oo (.s (.s (.s .o pP) .o) .o)))))) (.s .o (.s (.s .o (.j [.tm 7 false [(.dl [.sl [.bool]],.own)]] (.j (pp++[w 46 vl,w 47 vi,w 48 vi]) (.s .o (.s oo (.s (.s (.s .o (.s .o (.s (.s .o (.jr (pp++[.bx 14 pQ,a 14,w 46 vl,w 47 vi,w 48 vi]) (.j (pp++[.bx 14 pQ,a 14,w 46 vl,w 47 vi,w 48 vi,w 58 vl,w 59 vi,w 60 vi]) (.s .o (.s oo (.s (.s (.s .o pP) .o) .o)))))) .o))) .o) .o)))))) oo))))),[(20,1),(31,115)],none⟩
def s69:AM.Spec:=⟨⟨69,pX,[(false,[vl]),(false,[vi])]⟩,Tryz.f69,.s .o (.s (.s .o pO) (.s .o (.s (.s .o (.j [w 9 wl] (.j [w 9 wl,w 26 xb,w 27 vi,w 28 vi] (.s .o (.s oo (.s (.s (.s .o (.s .o (.j [w 9 wl,w 26 xb,w 27 vi,w 28 vi] oo))) .o) .o)))))) oo))),[(15,114),(22,75),(24,115),(26,1)],none⟩
def s27:AM.Spec:=⟨⟨27,pX,[(false,[vi]),(false,[vi])]⟩,Tryz.f27,.s .o (.s (.s (.j (pD++[w 20 vb]) .o) pF) (.s .o (.s pO (.s .o (.s pO (.s pO oo)))))),[(13,60),(18,68),(24,15),(34,69)],none⟩
def s56:AM.Spec:=⟨⟨56,[.val true [vl]],[(false,[vb])]⟩,Tryz.f56,.s .o (.s pO (.s (.s .o (.jr [] (.j [w 10 vl,w 11 vi,w 12 vi] (.s .o (.s oo (.s (.s (.s .o (.s (.j [w 10 vl,w 11 vi,w 12 vi,w 21 vb] .o) pF)) .o) .o)))))) oo)),[],none⟩
def s16:AM.Spec:=⟨⟨16,pK,[(false,[vb])]⟩,Tryz.f16,.s .o (.s (.s (.j (pE++[w 29 vb]) .o) pF) (.s (.s .o (.jr pE (.j (pE++[w 31 vl,w 32 vi,w 33 vi]) (.s .o (.s oo (.s (.s (.s .o (.s (.j (pE++[w 31 vl,w 32 vi,w 33 vi,w 59 vb]) .o) pF)) .o) .o)))))) (.s (.s .o (.jr [] (.j pv (.s .o (.s oo (.s (.s (.s .o (.s (.s (.j (pE++[.bx 8 pQ,a 8,w 62 vr,w 63 vi,w 64 vi,w 102 vb]) .o) pF) (.s .o (.jr pv (.j (pv++[w 104 vl,w 105 vi,w 106 vi]) (.s .o (.s oo (.s (.s (.s .o (.s (.j (pv++[w 104 vl,w 105 vi,w 106 vi,w 117 vb]) .o) pF)) .o) .o)))))))) .o) .o)))))) oo))),[(12,56)],none⟩
def s65:AM.Spec:=⟨⟨65,q7,[(false,[vb])]⟩,Tryz.f65,.s .o (.s (.s (.j [b 2 vl,a 2,.bx 3 pZ,a 3,w 29 vb] .o) pF) (.s (.s .o (.jr [] (.j [b 2 vl,a 2,w 31 vk,w 32 vi,w 33 vi] pJ))) oo)),[(39,65)],none⟩
def s25:AM.Spec:=⟨⟨25,q7,[(false,[vb])]⟩,Tryz.f25,.s .o q1,[(6,56),(9,22),(14,65)],none⟩
def s23:AM.Spec:=⟨⟨23,pT,[(false,[vb])]⟩,Tryz.f23,.s .o (.s (.s .o (.jr [] (.j [c 1,a 1,w 8 vr,w 9 vi,w 10 vi] (.s .o (.s oo (.s (.s (.s .o (.s .o (.jr [c 1,a 1,w 8 vr,w 9 vi,w 10 vi] (.j pC (.s .o (.s oo (.s (.s (.s .o (.s (.j (pC++[w 35 vb]) .o) pF)) .o) .o))))))) .o) .o)))))) oo),[(34,50)],none⟩
def ak0:AM.Spec:=⟨⟨111,pT,[(false,[xb])]⟩,Tryz.f111,.s .o (.s .o (.s (.s .o (.j [w 3 xb] (.j [c 1,a 1,w 3 xb,w 4 vb] (.s pP (.s (.s .o (.s .o (.j [c 1,a 1,w 3 xb,w 4 vb] (.j qb (.s .o (.s oo (.s (.s (.s .o (.s .o (.s (.s .o (.j pq (.j (pq++[w 22 vl,w 23 vi,w 24 vi]) (.s .o (.s oo (.s (.s (.s .o (.j (pq++[w 22 vl,w 23 vi,w 24 vi]) .o)) .o) .o)))))) (.s (.j [c 1,a 1,w 3 xb,w 4 vb,.bx 6 pQ,a 6,w 15 vr,w 16 vi,w 17 vi,w 44 vb] .o) (.j qb oo))))) .o) .o))))))) .o))))) oo)),[],none⟩
def s64:AM.Spec:=⟨⟨64,pT,[(false,[xb])]⟩,Tryz.f64,.s .o (.s .o (.s .o (.s (.s .o (.j [c 1,a 1,w 3 xb,w 4 xb] (.j [c 1,a 1,w 3 xb,w 4 xb,w 21 vl,w 22 vi,w 23 vi] pG))) (.s (.s .o (.j [w 4 xb] (.j pn (.s pP (.s (.s .o (.s .o (.j pn (.j (pn++[w 37 vr,w 38 vi,w 39 vi]) (.s .o (.s oo (.s (.s (.s .o (.s .o (.s (.s .o (.j (pn++[.bx 9 pQ,a 9,w 10 vb,w 37 vr,w 38 vi,w 39 vi]) (.j (pn++[.bx 9 pQ,a 9,w 10 vb,w 37 vr,w 38 vi,w 39 vi,w 49 vl,w 50 vi,w 51 vi]) (.s .o (.s oo (.s (.s (.s .o (.j (pn++[.bx 9 pQ,a 9,w 10 vb,w 37 vr,w 38 vi,w 39 vi,w 49 vl,w 50 vi,w 51 vi]) .o)) .o) .o)))))) (.s .o (.j (pn++[w 37 vr,w 38 vi,w 39 vi]) (.j (pn++[w 10 vb,w 37 vr,w 38 vi,w 39 vi,w 64 vl,w 65 vi,w 66 vi]) (.s .o (.s oo (.s (.s (.s .o (.s (.j (pn++[w 10 vb,w 14 vi,w 37 vr,w 38 vi,w 39 vi,w 64 vl,w 65 vi,w 66 vi,w 77 vb]) .o) (.j (pn++[w 10 vb,w 37 vr,w 38 vi,w 39 vi,w 64 vl,w 65 vi,w 66 vi]) oo))) .o) .o))))))))) .o) .o))))))) .o))))) oo)))),[(16,111)],none⟩
def als:AM.Spec:=⟨⟨151,[.val true pQ],[(false,[wl])]⟩,Tryz.f151,.s .o oo,[],none⟩
def alr:AM.Spec:=⟨⟨150,pW,[(false,[vi])]⟩,Tryz.f150,.s .o (.s (.s .o (.jr [w 0 vl,w 1 vl] (.j [w 0 vl,w 1 vl,w 10 vi,w 11 vi] (.s .o (.s oo (.s (.s (.s .o (.s pO pO)) .o) .o)))))) (.s (.s (.s .o (.s oo pO)) .o) oo)),[],none⟩
def akZ:AM.Spec:=⟨⟨110,[.val false [vr]],[(false,[wr])]⟩,Tryz.f110,.s .o (.s .o (.s (.s .o (.j [w 3 wr] (.j [w 3 wr,w 9 vr,w 10 vi,w 11 vi] (.s .o (.s oo (.s (.s (.s .o (.s .o (.s (.j (px++[w 9 vr,w 10 vi,w 11 vi]) (.j (px++[w 7 vi,w 9 vr,w 10 vi,w 11 vi]) (.s pP (.s (.s .o (.s .o (.j (px++[w 7 vi,w 9 vr,w 10 vi,w 11 vi]) oo))) .o)))) (.s (.j (px++[w 9 vr,w 10 vi,w 11 vi,w 50 vb]) .o) (.j [w 3 wr,w 9 vr,w 10 vi,w 11 vi] (.s pP .o)))))) .o) .o)))))) oo)),[(28,151),(30,151),(31,150),(45,151),(47,151),(48,150)],none⟩
def s63:AM.Spec:=⟨⟨63,[.val true pN,.val false pM],[(true,pL)]⟩,Tryz.f63,.s .o (.s .o (.s .o (.s (.s .o (.j p5 (.j (p5++[.tm 20 false pM,w 21 vi,w 22 vi]) (.s .o (.s oo (.s (.s (.s .o (.s .o (.j (p5++[.tm 20 false pM,w 21 vi,w 22 vi]) pF))) .o) .o)))))) (.s (.s .o (.j p5 (.j (p5++[w 39 vl,w 40 vi,w 41 vi]) (.s .o (.s oo (.s (.s (.s .o (.s .o (.j (p5++[w 39 vl,w 40 vi,w 41 vi]) oo))) .o) .o)))))) (.s (.s .o (.j (pr++[.bx 6 pL,a 6]) (.j (pb++[w 60 vr,w 61 vi,w 62 vi]) (.s .o (.s oo (.s (.s (.s .o (.s .o (.s .o (.s (.s .o (.j (pb++[.bx 12 pQ,a 12,w 13 vb,w 14 wl,w 60 vr,w 61 vi,w 62 vi]) (.j (pb++[.bx 12 pQ,a 12,w 13 vb,w 14 wl,w 60 vr,w 61 vi,w 62 vi,w 72 vl,w 73 vi,w 74 vi]) (.s .o (.s oo (.s (.s (.s .o (.s (.j (pb++[.bx 12 pQ,a 12,w 13 vb,w 14 wl,w 16 vi,w 60 vr,w 61 vi,w 62 vi,w 72 vl,w 73 vi,w 74 vi]) .o) .o)) .o) .o)))))) (.s .o (.j (pb++[w 60 vr,w 61 vi,w 62 vi]) oo)))))) .o) .o)))))) pP))))),[(111,110)],none⟩
def s24:AM.Spec:=⟨⟨24,pT,[(true,pL)]⟩,Tryz.f24,.s .o oo,[(5,64),(6,63)],none⟩
def akQ:AM.Spec:=⟨⟨101,q2,[(false,[vi])]⟩,Tryz.f101,.s .o (.s .o (.s (.s .o (.j [w 5 vi] (.j [w 0 vi,w 5 vi,w 6 vi,w 7 vi] (.s .o (.s oo pF))))) oo)),[],none⟩
def s58:AM.Spec:=⟨⟨58,pT,[(false,[vi])]⟩,Tryz.f58,.s .o oo,[(4,24),(6,101)],none⟩
def s83:AM.Spec:=⟨⟨83,[.val true [vl],.val false [vi]],[(false,[vi])]⟩,Tryz.f83,.s .o (.s .o (.s (.s .o (.j [w 5 vi] (.j [w 1 vi,w 5 vi,w 9 vl,w 10 vi,w 11 vi] pG))) oo)),[(18,101)],none⟩
def s57:AM.Spec:=⟨⟨57,[.val true [vl],.val false [vi]],[(false,[vb])]⟩,Tryz.f57,.s .o q1,[(10,83)],none⟩
def g17:AM.Sig:=⟨17,[.val true [vl],.val true [vi,vl,vr]],[(false,[vb])]⟩
def s17:AM.Spec:=⟨g17,Tryz.f17,.s .o q1,[(6,23),(10,58),(11,57)],none⟩
def s41:AM.Spec:=⟨⟨41,q4,[(false,[vb])]⟩,Tryz.f41,.s .o (.s (.s .o (.jr [] (.j [b 2 vl,a 2,.tm 8 false pI,w 9 vi,w 10 vi] (.s .o (.s oo (.s (.s (.s .o (.s (.s (.j [b 2 vl,a 2,c 6,a 6,.tm 8 false pI,w 9 vi,w 10 vi,w 22 vb] .o) pF) (.s .o (.s (.s .o (.j [b 2 vl,a 2,w 7 vi,.tm 8 false pI,w 9 vi,w 10 vi] oo)) pO)))) .o) .o)))))) oo),[(24,58),(26,23),(28,24),(33,83)],none⟩
def s18:AM.Spec:=⟨⟨18,q4,[(false,[vb])]⟩,Tryz.f18,.s .o oo,[(7,41)],none⟩
def ali:AM.Spec:=⟨⟨142,q2,[(false,[xl])]⟩,Tryz.f142,.s .o (.s pO (.s .o (.s (.s .o (.j [w 5 xl] (.j [w 0 vi,w 1 vi,w 5 xl,w 12 vi,w 13 vi] (.s .o (.s oo (.s (.s (.s .o (.s .o (.j [w 0 vi,w 1 vi,w 5 xl,w 12 vi,w 13 vi] (.j [w 0 vi,w 1 vi,w 5 xl,w 6 vi,w 12 vi,w 13 vi,w 19 xl,w 20 vi,w 21 vi] pG)))) .o) .o)))))) oo))),[(19,142)],none⟩
def alj:AM.Spec:=⟨⟨143,[.val false [pH],.val false [vl]],[(false,[xl])]⟩,Tryz.f143,.s .o (.s .o (.s (.s .o (.j [w 5 xl] (.j [.tm 0 false [pH],w 5 xl,w 8 vl,w 9 vi,w 10 vi] pG))) oo)),[],none⟩
def akU:AM.Spec:=⟨⟨105,[.val false [vl],.val false [vi]],[(false,[vb])]⟩,Tryz.f105,.s .o (.s (.s .o (.jr [] (.j [w 1 vi,w 7 vl,w 8 vi,w 9 vi] pJ))) oo),[],none⟩
def akV:AM.Spec:=⟨⟨106,[.val false [vl],.val false [vi]],[(false,[vl])]⟩,Tryz.f106,.s .o (.s .o (.s (.j [w 0 vl,w 1 vi,w 5 vi] (.j [w 0 vl,w 1 vi,w 5 vi] (.s (.s (.j [w 0 vl,w 1 vi,w 5 vi,w 17 vb] .o) oo) oo))) (.s (.s (.j [w 0 vl,w 1 vi,w 5 vi,w 31 vb] .o) pF) oo))),[],none⟩
def ak1:AM.Spec:=⟨⟨112,[.val true pN,.val false [vi],.val false [pH]],[(false,[vl])]⟩,Tryz.f112,.s .o (.s .o (.s (.s .o (.j [w 7 vl] (.j (po++[w 13 vr,w 14 vi,w 15 vi]) (.s .o (.s oo (.s (.s (.s .o (.s .o (.s (.s .o (.j (po++[.bx 9 pQ,a 9,w 10 vb,w 13 vr,w 14 vi,w 15 vi]) (.j (po++[.bx 9 pQ,a 9,w 10 vb,w 11 vi,w 13 vr,w 14 vi,w 15 vi]) (.s (.s (.j (po++[.bx 9 pQ,a 9,w 10 vb,w 11 vi,w 13 vr,w 14 vi,w 15 vi,w 29 vb]) .o) oo) pF)))) (.s .o (.j (po++[w 13 vr,w 14 vi,w 15 vi]) oo))))) .o) .o)))))) oo)),[(41,105),(46,106)],none⟩
def alk:AM.Spec:=⟨⟨144,[.val false [pH],.val false [vl]],[(false,[vi])]⟩,Tryz.f144,.s .o (.s (.s .o (.jr [] (.j [w 1 vl,.tm 7 false [pH],w 8 vi,w 9 vi] pJ))) oo),[(16,50)],none⟩
def alh:AM.Spec:=⟨⟨141,pK,[(false,[pH]),(false,[vb])]⟩,Tryz.f141,.s .o (.s .o (.jr [] (.j pa (.s (.s .o (.s (.s .o (.j (pa++[w 7 vi]) (.j (pa++[w 7 vi,w 16 vl,w 17 vi,w 18 vi]) (.s .o (.s oo (.s (.s (.s .o (.s .o (.j (pa++[w 7 vi,w 16 vl,w 17 vi,w 18 vi]) (.j (pa++[w 7 vi,w 8 vi,w 16 vl,w 17 vi,w 18 vi,w 25 xl,w 26 vi,w 27 vi]) (.s .o (.s oo (.s (.s (.s .o (.s .o (.s (.j (pa++[w 7 vi,w 8 vi,w 12 vl,w 16 vl,w 17 vi,w 18 vi,w 25 xl,w 26 vi,w 27 vi,w 47 vb]) .o) (.j (pa++[w 7 vi,w 8 vi,w 16 vl,w 17 vi,w 18 vi,w 25 xl,w 26 vi,w 27 vi]) oo)))) .o) .o))))))) .o) .o)))))) (.s pO pO))) .o)))),[(25,142),(37,143),(38,112),(45,144)],none⟩
def s66:AM.Spec:=⟨⟨66,pW,[(false,[vb])]⟩,Tryz.f66,.s .o (.s (.s .o (.jr [] (.j [w 1 vl,w 7 vl,w 8 vi,w 9 vi] pJ))) oo),[(15,105)],none⟩
def akR:AM.Spec:=⟨⟨102,pK,[(true,pN),(false,[pH]),(false,[vi])]⟩,Tryz.f102,.s .o (.s pO (.s .o (.s pO (.s .o (.s (.s .o (.j pl (.j (pl++[.tm 34 false [pH],w 35 vi,w 36 vi]) (.s .o (.s oo (.s (.s (.s .o (.s .o (.j (pl++[.tm 34 false [pH],w 35 vi,w 36 vi]) oo))) .o) .o)))))) (.s (.s .o (.j (pr++[.tm 7 false [pH],.bx 9 pL,a 9]) (.j (p8++[.tm 7 false [pH],.bx 9 pL,a 9,w 53 vl,w 54 vi,w 55 vi]) (.s .o (.s oo (.s (.s (.s .o (.s .o (.j (p8++[.tm 7 false [pH],.bx 9 pL,a 9,w 53 vl,w 54 vi,w 55 vi]) (.j (p8++[.tm 7 false [pH],.bx 9 pL,a 9,w 12 vi,w 53 vl,w 54 vi,w 55 vi,w 63 xl,w 64 vi,w 65 vi]) (.s .o (.s oo (.s (.s (.s .o (.s .o (.s .o (.j (p8++[.tm 7 false [pH],.bx 9 pL,a 9,w 12 vi,w 53 vl,w 54 vi,w 55 vi,w 63 xl,w 64 vi,w 65 vi]) oo)))) .o) .o))))))) .o) .o)))))) (.s pO oo))))))),[(19,16),(25,141),(44,66),(63,142),(73,143),(74,112),(84,144)],none⟩
def akS:AM.Spec:=⟨⟨103,pK,[(true,pL)]⟩,Tryz.f103,.s .o (.s .o (.s (.s .o (.j (pr++[.bx 5 pL,a 5]) (.j (p8++[.bx 5 pL,a 5,w 26 vl,w 27 vi,w 28 vi]) (.s .o (.s oo (.s (.s (.s .o (.s .o (.j (p8++[.bx 5 pL,a 5,w 26 vl,w 27 vi,w 28 vi]) (.j (p8++[.bx 5 pL,a 5,w 6 vi,w 26 vl,w 27 vi,w 28 vi,w 37 xl,w 38 vi,w 39 vi]) (.s .o (.s oo (.s (.s (.s .o (.s .o (.s (.s .o (.j (p8++[.bx 5 pL,a 5,w 6 vi,w 9 vl,w 10 vb,w 26 vl,w 27 vi,w 28 vi,w 37 xl,w 38 vi,w 39 vi]) (.j (p8++[.bx 5 pL,a 5,w 6 vi,w 9 vl,w 10 vb,w 26 vl,w 27 vi,w 28 vi,w 37 xl,w 38 vi,w 39 vi,w 44 vr,w 45 vi,w 46 vi]) (.s .o (.s oo (.s (.s (.s .o (.j (p8++[.bx 5 pL,a 5,w 6 vi,w 9 vl,w 10 vb,w 26 vl,w 27 vi,w 28 vi,w 37 xl,w 38 vi,w 39 vi,w 44 vr,w 45 vi,w 46 vi]) .o)) .o) .o)))))) (.s .o (.j (p8++[.bx 5 pL,a 5,w 6 vi,w 26 vl,w 27 vi,w 28 vi,w 37 xl,w 38 vi,w 39 vi]) oo))))) .o) .o))))))) .o) .o)))))) oo)),[(37,142),(60,50)],none⟩
def aly:AM.Spec:=⟨⟨180,[.val true [vi,pH],.val false [vl]],[(false,[vi])]⟩,Tryz.f180,.s .o (.s .o (.s (.s .o (.j [w 5 vi] (.j [.bx 2 [vi,pH],a 2,w 5 vi,w 8 vl,w 9 vi,w 10 vi] pG))) oo)),[],none⟩
def alm:AM.Spec:=⟨⟨145,pK,[(true,[vi,(.sl [.sl [.int .i64]],.own)])]⟩,Tryz.f145,.s .o (.s .o (.s (.s .o (.j pe (.j (pe++[w 16 vl,w 17 vi,w 18 vi]) (.s .o (.s oo (.s (.s (.s .o (.s .o (.s (.s .o (.j (pe++[w 8 wl,w 16 vl,w 17 vi,w 18 vi]) (.j (pe++[w 8 wl,w 16 vl,w 17 vi,w 18 vi,w 28 vi,w 29 vi]) pG))) .o))) .o) .o)))))) (.s (.s .o (.j pA (.j (pA++[w 44 vr,w 45 vi,w 46 vi]) pG))) oo))),[(5,1),(14,1),(25,101),(39,1),(59,180)],none⟩
def alp:AM.Spec:=⟨⟨148,[.val true [vi,pH],.val false [vi],.val false [vl]],[(false,[vi])]⟩,Tryz.f148,.s .o oo,[(14,180)],none⟩
def aln:AM.Spec:=⟨⟨146,[.val true [vl],.val true [vi,pH],.val false [vl],.val false [vi],.val false [vi]],[(false,[vb])]⟩,Tryz.f146,.s .o (.s (.s .o (.jr [] (.j (ph++[w 19 vl,w 20 vi,w 21 vi]) (.s .o (.s oo (.s (.s (.s .o (.s pP (.s .o (.jr (ph++[w 19 vl,w 20 vi,w 21 vi]) (.j (ph++[w 11 vi,w 12 vi,w 19 vl,w 20 vi,w 21 vi,w 32 xl,w 33 vi,w 34 vi]) (.s .o (.s oo (.s (.s (.s .o (.s .o (.jr (ph++[w 11 vi,w 12 vi,w 19 vl,w 20 vi,w 21 vi,w 32 xl,w 33 vi,w 34 vi]) (.j (ph++[w 11 vi,w 12 vi,w 14 vl,w 19 vl,w 20 vi,w 21 vi,w 32 xl,w 33 vi,w 34 vi,w 38 vi,w 39 vi]) (.s .o (.s oo (.s (.s (.s .o (.s .o (.s .o pO))) .o) .o))))))) .o) .o)))))))) .o) .o)))))) oo),[(32,142),(70,148),(77,148)],none⟩
def alo:AM.Spec:=⟨⟨147,[.val false [vl]],[(false,[vi])]⟩,Tryz.f147,.s .o (.s .o (.s (.s .o (.j [w 3 vl] (.j [w 3 vl,w 6 vl,w 7 vi,w 8 vi] pG))) oo)),[(14,106)],none⟩
def akT:AM.Spec:=⟨⟨104,pK,[(false,[wl])]⟩,Tryz.f104,.s .o (.s .o (.s .o (.s (.s .o (.j p4 (.j (p4++[w 21 vl,w 22 vi,w 23 vi]) pG))) (.jr [] (.j p4 (.s (.s .o (.s .o (.s (.s .o (.j (p4++[w 10 wl]) (.j (p4++[w 9 wl,w 10 wl,w 35 vi,w 36 vi]) (.s .o (.s oo (.s (.s (.s .o (.s .o (.s (.s .o (.j (p4++[w 9 wl,w 10 wl,w 11 vi,w 35 vi,w 36 vi]) (.j (p4++[w 9 wl,w 10 wl,w 11 vi,w 35 vi,w 36 vi,.rf 44 (.tmp 9) 0 false 1,w 45 vi,w 46 vi]) (.s .o (.s oo (.s (.s (.s .o (.s (.j (p4++[w 9 wl,w 10 wl,w 11 vi,w 12 vi,w 35 vi,w 36 vi,.rf 44 (.tmp 9) 0 false 1,w 45 vi,w 46 vi,w 67 vb]) .o) pF)) .o) .o)))))) (.s .o (.j (p4++[w 9 wl,w 10 wl,w 35 vi,w 36 vi]) oo))))) .o) .o)))))) (.s pO .o)))) .o)))))),[(16,145),(66,146),(86,147),(88,147)],none⟩
def akW:AM.Spec:=⟨⟨107,pK,[(true,pL)]⟩,Tryz.f107,.s .o (.s .o (.s .o (.s (.s .o (.j p1 (.j (p1++[w 33 vi,w 34 vi]) pG))) (.s .o (.s (.j (p8++[w 6 wl,w 8 wl]) (.j (p1++[w 8 wl]) (.s (.s .o (.s (.s .o (.j (p1++[w 8 wl,w 9 vi]) (.j (p1++[w 8 wl,w 9 vi,w 44 vl,w 45 vi,w 46 vi]) (.s .o (.s oo (.s (.s (.s .o (.s .o (.j (p1++[w 8 wl,w 9 vi,w 44 vl,w 45 vi,w 46 vi]) (.j (p1++[w 8 wl,w 9 vi,w 10 vi,w 44 vl,w 45 vi,w 46 vi,w 53 xl,w 54 vi,w 55 vi]) (.s .o (.s oo (.s (.s (.s .o (.s .o (.s (.s .o (.j (p1++[w 8 wl,w 9 vi,w 10 vi,w 14 wl,w 44 vl,w 45 vi,w 46 vi,w 53 xl,w 54 vi,w 55 vi]) (.j (p1++[w 8 wl,w 9 vi,w 10 vi,w 14 wl,w 44 vl,w 45 vi,w 46 vi,w 53 xl,w 54 vi,w 55 vi,w 59 vl,w 60 vi,w 61 vi]) pG))) (.s .o (.s (.j (p1++[w 8 wl,w 9 vi,w 10 vi,w 17 vi,w 44 vl,w 45 vi,w 46 vi,w 53 xl,w 54 vi,w 55 vi,w 85 vb]) .o) (.j (p1++[w 8 wl,w 9 vi,w 10 vi,w 44 vl,w 45 vi,w 46 vi,w 53 xl,w 54 vi,w 55 vi]) pF)))))) .o) .o))))))) .o) .o)))))) pP)) .o))) (.s .o (.s (.s .o (.j (p8++[w 6 wl,.bx 18 pL,a 18]) (.j (p8++[w 6 wl,w 8 wl,.bx 18 pL,a 18,.rf 104 (.tmp 8) 0 false 1,w 105 vi,w 106 vi]) (.s .o (.s oo (.s (.s (.s .o (.s .o (.j (p8++[w 6 wl,w 8 wl,.bx 18 pL,a 18,.rf 104 (.tmp 8) 0 false 1,w 105 vi,w 106 vi]) oo))) .o) .o)))))) (.s (.s .o (.j (pr++[.bx 18 pL,a 18]) (.j (pr++[w 6 wl,.bx 18 pL,a 18,w 123 vr,w 124 vi,w 125 vi]) (.s .o (.s oo (.s (.s (.s .o (.s .o (.s (.s .o (.j (pr++[w 6 wl,.bx 18 pL,a 18,.bx 23 q0,a 23,w 123 vr,w 124 vi,w 125 vi]) (.j (pr++[w 6 wl,.bx 18 pL,a 18,.bx 23 q0,a 23,w 123 vr,w 124 vi,w 125 vi,w 138 vl,w 139 vi,w 140 vi]) pG))) .o))) .o) .o)))))) pP)))))))),[(28,145),(53,142),(76,148),(114,105),(163,110)],none⟩
def s59:AM.Spec:=⟨⟨59,pK,[(true,pN),(false,[vb])]⟩,Tryz.f59,.s .o (.s .o (.s (.s (.j [b 2 vl,a 2,.bx 4 pL,a 4,c 6,a 6,w 36 vb] .o) pF) (.s .o (.s .o (.s .o (.s (.s .o (.j (p2++[a 6,w 9 wl,.bx 10 pL,a 10]) (.j (p2++[a 6,w 9 wl,.bx 10 pL,a 10,.rf 45 (.tmp 9) 0 false 1,w 46 vi,w 47 vi]) pG))) (.s (.s .o (.j (p2++[a 6,w 9 wl,.bx 10 q3,a 10]) (.j (p2++[a 6,w 9 wl,.bx 10 q3,a 10,.rf 58 (.tmp 9) 0 false 1,w 59 vi,w 60 vi]) (.s .o (.s oo (.s (.s (.s .o (.s .o (.j (p2++[a 6,w 9 wl,.bx 10 q3,a 10,.rf 58 (.tmp 9) 0 false 1,w 59 vi,w 60 vi]) oo))) .o) .o)))))) (.s (.s .o (.j [b 2 vl,a 2,.bx 4 pL,a 4,.bx 10 q3,a 10] (.j (p2++[w 9 wl,.bx 10 q3,a 10,.rf 76 (.box 6) 2 false 1,w 77 vi,w 78 vi]) (.s .o (.s oo (.s (.s (.s .o (.s .o (.s (.s .o (.j (p2++[w 9 wl,.bx 10 q3,a 10,.bx 17 q0,a 17,.rf 76 (.box 6) 2 false 1,w 77 vi,w 78 vi]) (.j (p2++[w 9 wl,.bx 10 q3,a 10,.bx 17 q0,a 17,.rf 76 (.box 6) 2 false 1,w 77 vi,w 78 vi,w 91 vl,w 92 vi,w 93 vi]) pG))) .o))) .o) .o)))))) oo)))))))),[(23,24),(24,102),(35,57),(40,103),(43,104),(68,105),(72,106),(116,24),(117,107)],none⟩
def s19:AM.Spec:=⟨⟨19,pK,[(true,pN),(false,[vb])]⟩,Tryz.f19,.s .o oo,[(8,59)],none⟩
def s67:AM.Spec:=⟨⟨67,[.val true pN,.val true pZ],[(false,[vl])]⟩,Tryz.f67,.s .o (.s .o (.s (.s .o (.j [c 2,a 2,.bx 3 pZ,a 3,w 5 xl] (.j [c 2,a 2,.bx 3 pZ,a 3,w 5 xl,w 9 vk,w 10 vi,w 11 vi] pG))) oo)),[(18,67),(26,112)],none⟩
def s28:AM.Spec:=⟨⟨28,[.val true pN,.val true pZ],[(false,[vi])]⟩,Tryz.f28,.s .o (.s .o (.s pO oo)),[(8,67)],none⟩
def g6:AM.Sig:=⟨6,[.val true [vl],.val true [vi,vl,vr],.val true [vi,vk]],[(false,[vb])]⟩
def s6:AM.Spec:=⟨g6,Tryz.f6,.s .o (.s (.s (.j (pD++[w 20 vb]) .o) pF) (.s .o (.s (.s (.s (.j (pD++[w 7 vi,w 8 vi,w 29 vb]) .o) (.s (.s (.j [w 6 vb] .o) .o) (.s .o (.s (.s (.j [w 6 vb] .o) .o) (.s .o (.s oo pO)))))) .o) (.s .o (.s (.j [w 6 vb] .o) .o))))),[(14,11),(18,22),(21,12),(26,27),(32,16),(37,25),(43,12),(50,17),(53,12),(62,18),(64,12),(68,19),(77,28),(81,12)],none⟩
def NP:List (Nat×AM.Spec):=[(43,s43),(11,s11),(62,s62),(22,s22),(45,s45),(149,alq),(1001,ajD),(1000,ajC),(108,akX),(109,akY),(60,s60),(171,alx),(137,alf),(96,s96),(125,ak6),(89,s89),(116,ak5),(85,s85),(133,ald),(131,alb),(132,alc),(1003,ajF),(1002,ajE),(92,s92),(130,ala),(1005,ajH),(1004,ajG),(1006,ajI),(124,aja),(87,s87),(88,s88),(86,s86),(49,s49),(139,alg),(1007,ajJ),(99,s99),(91,s91),(74,s74),(75,s75),(1008,ajK),(189,alz),(167,alu),(168,alv),(126,ak7),(94,s94),(127,ak8),(129,ak9),(1010,ajM),(1009,ajL),(90,s90),(51,s51),(52,s52),(93,s93),(134,ale),(1011,ajN),(95,s95),(97,s97),(53,s53),(78,s78),(98,s98),(54,s54),(55,s55),(15,s15),(50,s50),(14,s14),(12,s12),(113,ak2),(68,s68),(114,ak3),(115,ak4),(69,s69),(27,s27),(56,s56),(16,s16),(65,s65),(25,s25),(23,s23),(111,ak0),(64,s64),(151,als),(150,alr),(110,akZ),(63,s63),(24,s24),(101,akQ),(58,s58),(83,s83),(57,s57),(17,s17),(41,s41),(18,s18),(142,ali),(143,alj),(105,akU),(106,akV),(112,ak1),(144,alk),(141,alh),(66,s66),(102,akR),(103,akS),(180,aly),(145,alm),(148,alp),(146,aln),(147,alo),(104,akT),(107,akW),(59,s59),(19,s19),(67,s67),(28,s28),(6,s6)]
def Zc (g:Nat):Option (List CV):=bif Nat.beq g 0 then some [⟨.sl [.int .i64],.pure,([0,0,2]:List Int)⟩]else bif Nat.beq g 2 then some [⟨.int .u64,.pure,(1:Int)⟩,⟨.int .u64,.pure,(10:Int)⟩,⟨.int .u64,.pure,(100:Int)⟩,⟨.int .u64,.pure,(1000:Int)⟩,⟨.int .u64,.pure,(10000:Int)⟩,⟨.int .u64,.pure,(100000:Int)⟩,⟨.int .u64,.pure,(1000000:Int)⟩,⟨.int .u64,.pure,(10000000:Int)⟩,⟨.int .u64,.pure,(100000000:Int)⟩,⟨.int .u64,.pure,(1000000000:Int)⟩,⟨.int .u64,.pure,(10000000000:Int)⟩,⟨.int .u64,.pure,(100000000000:Int)⟩,⟨.int .u64,.pure,(1000000000000:Int)⟩,⟨.int .u64,.pure,(10000000000000:Int)⟩,⟨.int .u64,.pure,(100000000000000:Int)⟩,⟨.int .u64,.pure,(1000000000000000:Int)⟩,⟨.int .u64,.pure,(10000000000000000:Int)⟩,⟨.int .u64,.pure,(100000000000000000:Int)⟩,⟨.int .u64,.pure,(1000000000000000000:Int)⟩,⟨.int .u64,.pure,(10000000000000000000:Int)⟩]else none
def prg:AM.Prg:=⟨QY ai1,Zc,aiO s43 NP⟩
theorem akC:adV Tryz.prog s43:=⟨Tryz.func43,Ψ,Ψ⟩
theorem aii:adV Tryz.prog aja:=⟨Tryz.func124,Ψ,Ψ⟩
theorem akF:adV Tryz.prog s87:=⟨Tryz.func87,Ψ,Ψ⟩
theorem akG:adV Tryz.prog s88:=⟨Tryz.func88,Ψ,Ψ⟩
theorem akE:adV Tryz.prog s86:=⟨Tryz.func86,Ψ,Ψ⟩
theorem akD:adV Tryz.prog s49:=⟨Tryz.func49,Ψ,Ψ⟩
theorem ajn: ∀i,adV Tryz.prog (prg.spec i):=Hr akC NP (by
 intro x d;simp only[NP,aaU,acL,or_false]at d;rcases d with rfl|rfl|rfl|rfl|rfl|rfl|rfl|rfl|rfl|rfl|rfl|rfl|rfl|rfl|rfl|rfl|rfl|rfl|rfl|rfl|rfl|rfl|rfl|rfl|rfl|rfl|rfl|rfl|rfl|rfl|rfl|rfl|rfl|rfl|rfl|rfl|rfl|rfl|rfl|rfl|rfl|rfl|rfl|rfl|rfl|rfl|rfl|rfl|rfl|rfl|rfl|rfl|rfl|rfl|rfl|rfl|rfl|rfl|rfl|rfl|rfl|rfl|rfl|rfl|rfl|rfl|rfl|rfl|rfl|rfl|rfl|rfl|rfl|rfl|rfl|rfl|rfl|rfl|rfl|rfl|rfl|rfl|rfl|rfl|rfl|rfl|rfl|rfl|rfl|rfl|rfl|rfl|rfl|rfl|rfl|rfl|rfl|rfl|rfl|rfl|rfl|rfl|rfl|rfl|rfl|rfl|rfl|rfl|rfl|rfl|rfl|rfl|rfl
 all_goals refine⟨?_,Ψ,Ψ⟩
 exact Tryz.func43;exact Tryz.func11;exact Tryz.func62;exact Tryz.func22;exact Tryz.func45;exact Tryz.func149;exact Tryz.func169;exact Tryz.func128;exact Tryz.func108;exact Tryz.func109;exact Tryz.func60;exact Tryz.func171;exact Tryz.func137;exact Tryz.func96;exact Tryz.func125;exact Tryz.func89;exact Tryz.func116;exact Tryz.func85;exact Tryz.func133;exact Tryz.func131;exact Tryz.func132;exact Tryz.func169;exact Tryz.func128;exact Tryz.func92;exact Tryz.func130;exact Tryz.func169;exact Tryz.func128;exact Tryz.func100;exact Tryz.func124;exact Tryz.func87;exact Tryz.func88;exact Tryz.func86;exact Tryz.func49;exact Tryz.func139;exact Tryz.func138;exact Tryz.func99;exact Tryz.func91;exact Tryz.func74;exact Tryz.func75;exact Tryz.func116;exact Tryz.func189;exact Tryz.func167;exact Tryz.func168;exact Tryz.func126;exact Tryz.func94;exact Tryz.func127;exact Tryz.func129;exact Tryz.func169;exact Tryz.func128;exact Tryz.func90;exact Tryz.func51;exact Tryz.func52;exact Tryz.func93;exact Tryz.func134;exact Tryz.func135;exact Tryz.func95;exact Tryz.func97;exact Tryz.func53;exact Tryz.func78;exact Tryz.func98;exact Tryz.func54;exact Tryz.func55;exact Tryz.func15;exact Tryz.func50;exact Tryz.func14;exact Tryz.func12;exact Tryz.func113;exact Tryz.func68;exact Tryz.func114;exact Tryz.func115;exact Tryz.func69;exact Tryz.func27;exact Tryz.func56;exact Tryz.func16;exact Tryz.func65;exact Tryz.func25;exact Tryz.func23;exact Tryz.func111;exact Tryz.func64;exact Tryz.func151;exact Tryz.func150;exact Tryz.func110;exact Tryz.func63;exact Tryz.func24;exact Tryz.func101;exact Tryz.func58;exact Tryz.func83;exact Tryz.func57;exact Tryz.func17;exact Tryz.func41;exact Tryz.func18;exact Tryz.func142;exact Tryz.func143;exact Tryz.func105;exact Tryz.func106;exact Tryz.func112;exact Tryz.func144;exact Tryz.func141;exact Tryz.func66;exact Tryz.func102;exact Tryz.func103;exact Tryz.func180;exact Tryz.func145;exact Tryz.func148;exact Tryz.func146;exact Tryz.func147;exact Tryz.func104;exact Tryz.func107;exact Tryz.func59;exact Tryz.func19;exact Tryz.func67;exact Tryz.func28;exact Tryz.func6)
theorem ajT:yu Tryz.prog prg.ty:=ahM Ψ
theorem akO:ahZ Tryz.prog prg.ty:=ag4 Ψ
theorem mixed:Tryz.prog.follows .mixedOrders=true:=Ψ
end Go.Proofs.YtdchbjmbgecejaaGreatDoor.Am
end
