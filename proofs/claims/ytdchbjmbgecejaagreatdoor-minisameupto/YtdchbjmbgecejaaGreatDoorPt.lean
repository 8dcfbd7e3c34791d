import Derived.Test.YtdchbjmbgecejaaGreatDoorMd
import Derived.Test.YtdchbjmbgecejaaGreatDoorProg
import Derived.Test.YtdchbjmbgecejaaGreatDoorMk
import Derived.KernelRfl
set_option linter.unusedVariables false
noncomputable section
namespace Go.Proofs.YtdchbjmbgecejaaGreatDoor.Am
open Go Go.AM Go.Bk
noncomputable def Ky (x:List Int):Option (List Int):=bif decide (List.length x<=ay)then some x else none
noncomputable def zC (x:List Int):Option (List Int×List Int):=bif decide (List.length x<=ay)then some (x,x)else none
noncomputable def qX (x:List Int×Int×Int):Option (List Int):=bif decide (x.2.2=10)&&decide (0<=x.2.1)&&decide (x.2.1<18446744073709551616)&&decide (List.length x.1<=2000000000)then some (x.1++Ep 20 x.2.1.toNat)else none
noncomputable def Vl (x:List Int):Option (List Int):=bif decide (List.length x<=ay)then some (GL (λ a b=>decide (a<=b)) x)else none
noncomputable def Ce (x:List (Int×Int)):Option (List (Int×Int)):=
 bif decide (List.length x<=ay)&&x.all (λ p=>decide (0<=p.1)&&decide (p.1<=1000000000000)&&x.all λ q=> !decide (p.1=q.1)||decide (p.2=q.2))then some (GL (λ p q=>decide (p.1<=q.1)) x)else none
noncomputable def xK (x:List (Int×List Int×Int)):Option (List (Int×List Int×Int)):=bif decide (List.length x<=ay)&&x.all (λ p=>decide (List.length p.2.1<=1000))then some (GL (λ p q=>decide (uY p q<=0)) x)else none
end Go.Proofs.YtdchbjmbgecejaaGreatDoor.Am
end
noncomputable section
namespace Go.Proofs.YtdchbjmbgecejaaGreatDoor.Am
open Go Go.AM
set_option maxRecDepth 100000
abbrev vi:Sh×Tg:=(.int .i64,.pure)
abbrev vl:Sh×Tg:=(.sl [.int .i64],.pure)
abbrev vr:Sh×Tg:=(.sl [.int .i64,.sl [.int .i64],.int .i64],.pure)
abbrev vb:Sh×Tg:=(.bool,.pure)
abbrev xb:Sh×Tg:=(.sl [.bool],.own)
abbrev xl:Sh×Tg:=(.sl [.sl [.int .i64]],.own)
abbrev vu:Sh×Tg:=(.int .u64,.pure)
abbrev w (n:Nat) (v:Sh×Tg):JE:= .tm n false [v]
abbrev b (n:Nat) (v:Sh×Tg):JE:= .bx n [v]
abbrev c (n:Nat):JE:= .bx n [vi,vl,vr]
abbrev a (n:Nat):JE:= .adr n (.box n) 0
abbrev oo:H:= .s .o .o
abbrev wl:Sh×Tg:=(.sl [.int .i64],.own)
abbrev wr:Sh×Tg:=(.sl [.int .i64,.sl [.int .i64],.int .i64],.own)
noncomputable def ain:List (Nat×TyI):=[(2,⟨false,[.int .i64],[],[],none⟩),
 (3,⟨false,[.int .i64],[],[],none⟩),
 (4,⟨false,[.bool],[],[],none⟩),
 (5,⟨false,[.int .u8],[],[],none⟩),
 (6,⟨false,[.int .u8],[],[],none⟩),
 (7,⟨true,[.int .i64,.int .i64,.bool,.int .u8],[(0,1),(1,1),(2,1),(3,1)],[2,3,4,6],none⟩),
 (8,⟨true,[.int .i64,.int .i64,.bool,.int .u8],[(0,1),(1,1),(2,1),(3,1)],[2,3,4,6],none⟩),
 (9,⟨false,[.str],[],[],none⟩),
 (10,⟨false,[.str],[],[],none⟩),
 (11,⟨false,[.str],[],[],none⟩),
 (12,⟨false,[.int .u64],[],[],none⟩),
 (13,⟨true,[.str,.int .u64],[(0,1),(1,1)],[9,12],none⟩),
 (14,⟨true,[.str,.int .u64],[(0,1),(1,1)],[9,12],none⟩),
 (21,⟨false,[.int .i32],[],[],none⟩),
 (22,⟨false,[.sl [.int .i64]],[],[],(some 3)⟩),
 (23,⟨true,[.sl [.int .i64]],[(0,1)],[22],none⟩),
 (24,⟨true,[.sl [.int .i64]],[(0,1)],[22],none⟩),
 (25,⟨false,[.sl [.int .i64,.sl [.int .i64],.int .i64]],[],[],(some 69)⟩),
 (26,⟨true,[.int .i64,.sl [.int .i64],.sl [.int .i64,.sl [.int .i64],.int .i64]],[(0,1),(1,1),(2,1)],[3,22,25],none⟩),
 (27,⟨true,[.int .i64,.sl [.int .i64],.sl [.int .i64,.sl [.int .i64],.int .i64]],[(0,1),(1,1),(2,1)],[3,22,25],none⟩),
 (31,⟨false,[.int .i64],[],[],none⟩),
 (42,⟨false,[.rsl [.int .i64]],[],[],(some 44)⟩),
 (43,⟨true,[.int .i64,.rsl [.int .i64]],[(0,1),(1,1)],[3,42],none⟩),
 (44,⟨true,[.int .i64,.rsl [.int .i64]],[(0,1),(1,1)],[3,42],none⟩),
 (66,⟨false,[.sl [.int .i64,.sl [.int .i64],.sl [.int .i64,.sl [.int .i64],.int .i64]]],[],[],(some 27)⟩),
 (68,⟨true,[.int .i64,.sl [.int .i64],.int .i64],[(0,1),(1,1),(2,1)],[3,22,3],none⟩),
 (69,⟨true,[.int .i64,.sl [.int .i64],.int .i64],[(0,1),(1,1),(2,1)],[3,22,3],none⟩),
 (81,⟨false,[.sl [.bool]],[],[],(some 4)⟩),
 (89,⟨false,[.sl [.sl [.int .i64]]],[],[],(some 22)⟩),
 (107,⟨false,[.sl [.sl [.int .i64,.int .i64]]],[],[],(some 112)⟩),
 (109,⟨false,[.sl [.str]],[],[],(some 9)⟩),
 (110,⟨false,[.sl [.int .u8]],[],[],(some 5)⟩),
 (112,⟨false,[.sl [.int .i64,.int .i64]],[],[],(some 114)⟩),
 (113,⟨true,[.int .i64,.int .i64],[(0,1),(1,1)],[3,3],none⟩),
 (114,⟨true,[.int .i64,.int .i64],[(0,1),(1,1)],[3,3],none⟩),
 (128,⟨false,[.sl [.sl [.bool]]],[],[],(some 81)⟩),
 (132,⟨false,[.int .u64],[],[],none⟩),
 (134,⟨false,[.mp .str .bool],[],[9,4],none⟩),
 (137,⟨false,[.mp .str (.int .i64)],[],[9,3],none⟩),
 (138,⟨false,[.sl [.sl [.int .u64]]],[],[],(some 143)⟩),
 (139,⟨true,[.int .i64,.sl [.int .i64],.sl [.int .i64,.sl [.int .i64],.int .i64],.sl [.sl [.int .i64]],.sl [.sl [.int .u64]],.mp .str (.int .i64),.sl [.int .i64,.sl [.int .i64],.int .i64],.int .i64,.int .i64,.bool],[(0,3),(3,1),(4,1),(5,1),(6,1),(7,1),(8,1),(9,1)],[27,89,138,137,25,3,3,4],none⟩),
 (140,⟨true,[.int .i64,.sl [.int .i64],.sl [.int .i64,.sl [.int .i64],.int .i64],.sl [.sl [.int .i64]],.sl [.sl [.int .u64]],.mp .str (.int .i64),.sl [.int .i64,.sl [.int .i64],.int .i64],.int .i64,.int .i64,.bool],[(0,3),(3,1),(4,1),(5,1),(6,1),(7,1),(8,1),(9,1)],[27,89,138,137,25,3,3,4],none⟩),
 (142,⟨false,[.sl [.int .u64]],[],[],(some 180)⟩),
 (143,⟨false,[.sl [.int .u64]],[],[],(some 180)⟩),
 (146,⟨false,[.mp (.int .i64) .bool],[],[3,4],none⟩),
 (147,⟨true,[.sl [.int .i64],.mp (.int .i64) .bool],[(0,1),(1,1)],[22,146],none⟩),
 (148,⟨true,[.sl [.int .i64],.mp (.int .i64) .bool],[(0,1),(1,1)],[22,146],none⟩),
 (150,⟨false,[.mp .bool (.int .i64)],[],[4,3],none⟩),
 (160,⟨true,[.int .i64,.sl [.sl [.int .i64]]],[(0,1),(1,1)],[3,89],none⟩),
 (161,⟨true,[.int .i64,.sl [.sl [.int .i64]]],[(0,1),(1,1)],[3,89],none⟩),
 (170,⟨false,[.int .i64],[],[],none⟩),
 (178,⟨false,[.int .u32],[],[],none⟩),
 (180,⟨false,[.int .u64],[],[],none⟩),
 (198,⟨false,[.int .u64],[],[],none⟩),
 (236,⟨false,[.int .u8],[],[],none⟩),
 (237,⟨false,[.int .u8],[],[],none⟩),
 (240,⟨false,[.int .i32],[],[],none⟩),
 (241,⟨false,[.int .i32],[],[],none⟩)]
abbrev p0:List JE:=[.bx 0 [vi,vl,vr,(.sl [.sl [.int .i64]],.pure),(.sl [.sl [.int .u64]],.own),(.mp .str (.int .i64),.own),wr,vi,vi,vb],a 0,w 1 vi,w 2 vi,w 3 wl,w 4 vl,w 5 vb]
abbrev p1:List JE:=[b 2 vl,a 2,c 3,a 3,.bx 4 [vi,wl,wr],a 4,.bx 5 [vi,(.sl [.sl [.int .i64]],.own)],a 5,w 6 wl]
abbrev p2:List JE:=[b 2 vl,a 2,.bx 4 [vi,wl,wr],a 4,.bx 6 [vi,(.sl [.int .i64],.tip),(.sl [.int .i64,.sl [.int .i64],.int .i64],.tip)]]
abbrev p3:List JE:=[b 2 vl,a 2,c 3,a 3,.bx 4 [vi,wl,wr],a 4,.adr 7 (.box 28) 0,w 8 vi,.bx 28 [vi,vl,vr,(.sl [.sl [.int .i64]],.pure),(.sl [.sl [.int .u64]],.own),(.mp .str (.int .i64),.own),wr,vi,vi,vb]]
abbrev p4:List JE:=[b 2 vl,a 2,c 3,a 3,.bx 5 [vi,(.sl [.sl [.int .i64]],.own)],a 5,w 6 wl]
abbrev p5:List JE:=[.tm 1 false [(.sl [.bool],.pure)],c 2,a 2,.bx 4 [vi,wl,wr],a 4,w 5 wl,.bx 6 [vi,wl,wr],a 6]
abbrev p6:List JE:=[c 2,a 2,.bx 3 [(.sl [.bool],.pure)],a 3,.bx 4 [vi,wl,wr],a 4,.bx 5 [vi,wl,wr],a 5,w 6 wl]
abbrev p7:List JE:=[c 1,a 1,w 3 xb,w 4 wl,.tm 5 false [(.dl [.sl [.int .i64]],.own)],.bx 6 [wl,(.mp (.int .i64) .bool,.own)],a 6]
abbrev p8:List JE:=[c 3,a 3,.bx 4 [vi,wl,wr],a 4]
abbrev p9:List JE:=[.bx 0 [vi,vl,vr,(.sl [.sl [.int .i64]],.pure),(.sl [.sl [.int .u64]],.own),(.mp .str (.int .i64),.own),(.sl [.int .i64,.sl [.int .i64],.int .i64],.dead),vi,vi,vb],a 0]
abbrev pa:List JE:=[b 2 vl,a 2,c 3,a 3,.tm 6 false [(.sl [.sl [.int .i64]],.tip)]]
abbrev pb:List JE:=[.tm 1 false [(.sl [.bool],.pure)],.bx 4 [vi,wl,wr],a 4,w 5 wl,.bx 6 [vi,wl,wr],a 6]
abbrev pc:List JE:=[.bx 4 [vi,wl,wr],a 4,.bx 11 [vi,wl,wr],a 11,.bx 12 [xb],a 12,w 13 xl,.bx 28 [vi,vl,vr,(.sl [.sl [.int .i64]],.pure),(.sl [.sl [.int .u64]],.own),(.mp .str (.int .i64),.own),(.sl [.int .i64,.sl [.int .i64],.int .i64],.dead),vi,vi,vb],.rf 107 (.box 28) 4 false 1,w 108 vi,w 109 vi]
abbrev pd:List JE:=[c 1,a 1,w 4 xl,w 7 xb,.bx 8 [wl,(.mp (.int .i64) .bool,.own)],a 8,w 11 vi]
abbrev pe:List JE:=[c 3,a 3,.bx 4 [vi,(.sl [.sl [.int .i64]],.own)],a 4,.bx 5 [vi,(.dl [.sl [.int .i64]],.own)],a 5]
abbrev pf:List JE:=[w 1 vi,w 2 vi,b 4 vl,a 4,.tm 13 false [(.sl [.int .i64,.sl [.int .i64],.sl [.int .i64,.sl [.int .i64],.int .i64]],.pure)],w 14 vi,w 15 vi]
abbrev pg:List JE:=[.tm 3 false [(.mp .str (.int .i64),.own)],.tm 4 false [(.dl [.sl [.int .i64,.int .i64]],.own)]]
abbrev ph:List JE:=[w 2 vl,w 3 vi,w 4 vi,.bx 6 [vi,(.sl [.sl [.int .i64]],.pure)],a 6]
abbrev pi:List JE:=[.bx 3 [(.sl [.bool],.pure)],a 3,.bx 4 [vi,wl,wr],a 4,.bx 5 [vi,wl,wr],a 5,w 6 wl]
abbrev pj:List JE:=[c 1,a 1,.bx 3 [xb],a 3,.tm 4 false [(.dl [.sl [.int .i64]],.own)]]
abbrev pk:List JE:=[c 1,a 1,w 3 xb,w 4 wl,w 5 xl,.bx 6 [wl,(.mp (.int .i64) .bool,.own)],a 6,w 11 vi]
abbrev pl:List JE:=[b 2 vl,a 2,c 3,a 3,.bx 4 [vi,wl,wr],a 4,.tm 7 false [(.sl [.sl [.int .i64]],.pure)],.bx 9 [vi,wl,wr],a 9]
abbrev pm:List JE:=[c 1,a 1,w 3 vl,w 4 vi,.tm 5 false [(.sl [.sl [.int .i64,.int .i64]],.own)]]
abbrev pn:List JE:=[c 1,a 1,w 3 xb,w 4 xb,w 7 vb]
abbrev po:List JE:=[w 1 vi,.tm 2 false [(.sl [.sl [.int .i64]],.pure)],w 7 vl]
abbrev pp:List JE:=[c 1,a 1,w 3 xb,w 4 vb,.bx 6 [vi,vl,vi],a 6,w 7 vb,w 15 vr,w 16 vi,w 17 vi]
abbrev pq:List JE:=[.bx 4 [vi,wl,wr],a 4]
abbrev pr:List JE:=[.bx 0 [vi,vl,vr,(.sl [.sl [.int .i64]],.pure),(.sl [.sl [.int .u64]],.own),(.mp .str (.int .i64),.own),wr,vi,vi,vb],a 0,w 3 wl]
abbrev ps:List JE:=[c 1,a 1,w 3 wl,w 5 vi,w 6 wr]
abbrev pt:List JE:=[b 2 vl,a 2,c 3,a 3,w 62 vr,w 63 vi,w 64 vi]
abbrev pu:List JE:=[w 2 vl,.bx 6 [vi,wl,wr],a 6,.bx 7 [vi,wl,wr],a 7,.bx 12 [vi,wl,vi],a 12,w 42 vr,w 43 vi,w 44 vi]
abbrev pv:List JE:=[w 3 wr,.bx 5 [vi,vl,vi],a 5,w 6 vi]
abbrev pw:List JE:=[.tm 3 false [(.sl [.int .u8],.own)],.tm 11 false [(.sl [.int .u64],.pure)],w 12 vi,w 13 vi]
abbrev px:List JE:=[.tm 4 false [(.mp .bool (.int .i64),.own)],w 5 wl]
abbrev py:List JE:=[.bx 4 [vi,(.sl [.sl [.int .i64]],.own)],a 4,.bx 5 [vi,(.dl [.sl [.int .i64]],.own)],a 5]
abbrev pz:List JE:=[.tm 4 false [(.mp .str (.int .i64),.own)],w 5 wl]
abbrev pA:List JE:=[c 1,a 1,.bx 4 [vi,vl,vi],a 4,w 8 vr,w 9 vi,w 10 vi,w 18 vr,w 19 vi,w 20 vi]
abbrev pB:List JE:=[b 2 vl,a 2,c 3,a 3]
abbrev pC:H:=(.s oo .o)
abbrev pD:H:=(.s .o (.s oo (.s pC .o)))
abbrev pE:List (Sh×Tg):=[(.sl [.int .i64,.sl [.int .i64],.sl [.int .i64,.sl [.int .i64],.int .i64]],.pure)]
abbrev pF:Sh×Tg:=(.sl [.sl [.int .i64]],.pure)
abbrev pG:List (PK):=[.val true [vl],.val true [vi,vl,vr]]
abbrev pH:H:=(.s .o (.s oo (.s (.s (.s .o (.s .o pC)) .o) .o)))
abbrev pI:List (Sh×Tg):=[vi,wl,wr]
abbrev pJ:List (Sh×Tg):=[(.sl [.bool],.pure)]
abbrev pK:List (Sh×Tg):=[vi,vl,vr]
abbrev pL:H:=(.s .o pC)
abbrev pM:List (Sh×Tg):=[vi,vl,vi]
abbrev pN:H:=(.s .o oo)
abbrev pO:List (Sh×Tg):=[(.sl [.int .u8],.own)]
abbrev pP:List (Sh×Tg):=[wl,(.mp (.int .i64) .bool,.own)]
abbrev pQ:List (PK):=[.val true pK]
abbrev pR:List (PK):=[.val false [vl],.val false [vl]]
abbrev pS:List (Sh×Tg):=[(.sl [.int .u64],.pure)]
abbrev pT:List (Sh×Tg):=[(.dl [.sl [.int .i64,.int .i64]],.own)]
abbrev pU:List (PK):=[.val true [vl],.val true pK,.val true pK]
abbrev pV:List (Sh×Tg):=[vi,(.sl [.int .i64],.tip),(.sl [.int .i64,.sl [.int .i64],.int .i64],.tip)]
abbrev pW:H:=(.s pL (.s (.s .o (.jr [] (.j [w 0 vl,w 1 vl,w 12 vi,w 13 vi] pH))) oo))
abbrev pX:List (Sh×Tg):=[vi,wl,vi]
abbrev pY:List (PK):=[.val false [vi],.val false [vi]]
abbrev pZ:List (Sh×Tg):=[vi,vl,wr]
abbrev q0:List (PK):=[.val true [vl],.val false pE]
abbrev q1:List (Sh×Tg):=[(.dl [.sl [.int .i64]],.own)]
abbrev q2:List (JE):=[w 0 wr,.fn 1 139,w 5 vi,.rs 6 (.tmp 0) 0 false,w 7 vi]
abbrev q3:Sh×Tg:=(.sl [.sl [.int .u64]],.own)
abbrev q4:List (Sh×Tg):=[(.sl [.str],.own)]
abbrev q5:List (PK):=[.val true pM,.val true pM]
abbrev q6:Sh×Tg:=(.mp .str (.int .i64),.own)
abbrev q7:List (JE):=[c 1,a 1,w 3 xb,w 4 vb,w 15 vr,w 16 vi,w 17 vi]
noncomputable def s43:AM.Spec:=⟨⟨43,[.val true [vl],.val false [vi],.val false [vi],.val false pE],[(false,[vb])]⟩,Tryz.f43,.s .o (.s (.s .o (.jr [b 4 vl,a 4] (.j pf (.s .o (.s oo (.s (.s (.s .o (.s (.s (.j [w 1 vi,w 2 vi,b 4 vl,a 4,c 10,a 10,.tm 13 false pE,w 14 vi,w 15 vi,w 41 vb] .o) pC) (.s .o (.jr pf (.j (pf++[w 43 vr,w 44 vi,w 45 vi]) pH))))) .o) .o)))))) oo),[],none⟩
noncomputable def s11:AM.Spec:=⟨⟨11,q0,[(false,[vb])]⟩,Tryz.f11,.s .o oo,[(7,43)],none⟩
noncomputable def s45:AM.Spec:=⟨⟨45,[],[(true,pI)]⟩,Tryz.f45,.s .o oo,[],none⟩
noncomputable def akw:AM.Spec:=⟨⟨149,[.val false [vi]],[(false,[vb])]⟩,Tryz.f149,.s .o (.s (.j [w 2 vb] .o) .o),[],none⟩
noncomputable def aiX:AM.Spec:=⟨⟨169,[.val false [vl],.fn 149],[(false,[vi])]⟩,Tryz.f169,.s .o (.s (.s .o (.jr [] (.j [w 0 vl,.fn 1 149,w 7 vi,w 8 vi] pH))) oo),[(16,149)],none⟩
noncomputable def aiW:AM.Spec:=⟨⟨128,[.val false [vl],.fn 149],[(false,[vb])]⟩,Tryz.f128,.s .o oo,[(7,1001)],none⟩
noncomputable def aj6:AM.Spec:=⟨⟨108,[.val true [vl]],[(false,[vb])]⟩,Tryz.f108,.s .o (.s (.j [w 2 vb] .o) .o),[(10,1000)],none⟩
noncomputable def aj7:AM.Spec:=⟨⟨109,[.val false [vi],.rptr pK],[(false,[vb])]⟩,Tryz.f109,.s .o (.s (.j [w 3 vb] .o) .o),[],none⟩
noncomputable def s60:AM.Spec:=⟨⟨60,pG,[(false,[vb])]⟩,Tryz.f60,.s .o (.s (.s (.j (pB++[w 30 vb]) .o) pC) (.s .o (.s (.s .o (.jr [b 2 vl,a 2,c 3,a 3,.clo 5 109 [(.box 3,0)]] (.j [b 2 vl,a 2,c 3,a 3,.clo 5 109 [(.box 3,0)],w 33 vl,w 34 vi,w 35 vi] (.s .o (.s oo (.s (.s (.s .o (.s (.j [b 2 vl,a 2,c 3,a 3,.clo 5 109 [(.box 3,0)],w 33 vl,w 34 vi,w 35 vi,w 57 vb] .o) pC)) .o) .o)))))) (.s (.s .o (.jr [] (.j [b 2 vl,a 2,c 3,.clo 5 109 [(.box 3,0)],w 60 vr,w 61 vi,w 62 vi] (.s .o (.s oo (.s (.s (.s .o (.s (.s (.j [b 2 vl,a 2,c 3,.clo 5 109 [(.box 3,0)],.bx 9 pM,a 9,w 60 vr,w 61 vi,w 62 vi,w 95 vb] .o) pC) (.s .o (.jr [b 2 vl,a 2,c 3,.clo 5 109 [(.box 3,0)],w 60 vr,w 61 vi,w 62 vi] (.j [b 2 vl,a 2,c 3,.clo 5 109 [(.box 3,0)],w 60 vr,w 61 vi,w 62 vi,w 97 vl,w 98 vi,w 99 vi] pH))))) .o) .o)))))) oo)))),[(13,108),(42,109),(93,109),(105,109)],none⟩
noncomputable def aiL:AM.Sig:=⟨171,[.val false [(.sl [.int .u8],.own)],.val false [vu],.val false [vi]],[(false,[(.sl [.int .u8],.own)])]⟩
noncomputable def akB:AM.Spec:=⟨aiL,Tryz.f171,.o,[],(some qX)⟩
noncomputable def akm:AM.Spec:=⟨⟨137,[.val false pO,.val false [vi],.val false [vi]],[(false,pO)]⟩,Tryz.f137,.s .o (.s .o (.s (.s .o (.j [.tm 0 false pO,w 2 vi,w 7 vu] pC)) oo)),[(20,171)],none⟩
noncomputable def s96:AM.Spec:=⟨⟨96,[.val false pO,.val false [vi],.val false [vi]],[(false,pO)]⟩,Tryz.f96,.s .o oo,[(10,137)],none⟩
noncomputable def akd:AM.Spec:=⟨⟨125,[.val false [vi],.val false [vl]],[(false,[(.str,.pure)])]⟩,Tryz.f125,.s .o (.s .o (.s (.s .o (.j [.tm 5 false pO] (.j [.tm 5 false pO,w 10 vl,w 11 vi,w 12 vi] pD))) oo)),[(9,96),(20,96)],none⟩
noncomputable def s89:AM.Spec:=⟨⟨89,pG,[(false,[vb]),(false,[vi])]⟩,Tryz.f89,.s .o (.s pL (.s .o (.s (.s .o (.jr [] (.j [.tm 6 false [(.mp .str .bool,.own)],w 16 vr,w 17 vi,w 18 vi] (.s .o (.s oo (.s (.s (.s .o (.s .o (.s pL .o))) .o) .o)))))) oo))),[(12,60),(26,125)],none⟩
noncomputable def aiK:AM.Sig:=⟨116,[.val false [vl]],[(false,[wl])]⟩
noncomputable def akc:AM.Spec:=⟨aiK,Tryz.f116,.o,[],(some Ky)⟩
noncomputable def s85:AM.Spec:=⟨⟨85,pQ,[(true,pI)]⟩,Tryz.f85,.s .o (.s .o (.s (.s .o (.j [.bx 2 pI,a 2,.bx 3 pI,a 3] (.j [.bx 2 pI,a 2,.bx 3 pI,a 3,w 13 vr,w 14 vi,w 15 vi] pD))) oo)),[(10,116),(25,116)],none⟩
noncomputable def akk:AM.Spec:=⟨⟨133,[.ptr pP,.val false [vi]],[]⟩,Tryz.f133,.s (.s .o (.j [.bx 0 pP,a 0,w 1 vi] oo)) (.s .o (.j [.bx 0 pP,a 0] pC)),[],none⟩
noncomputable def aki:AM.Spec:=⟨⟨131,pQ,[(false,[xb])]⟩,Tryz.f131,.s .o (.s .o (.s .o (.s .o (.s .o (.st 5 (.s .o (.j p7 (.j (p7++[w 25 vr,w 26 vi,w 27 vi]) (.s .o (.s oo (.s (.s (.s .o (.s .o (.s (.s .o (.j (p7++[w 7 vi,.bx 8 pM,a 8,w 25 vr,w 26 vi,w 27 vi]) (.j (p7++[w 7 vi,.bx 8 pM,a 8,w 25 vr,w 26 vi,w 27 vi,w 39 vl,w 40 vi,w 41 vi]) pD))) (.s .o (.j (p7++[w 25 vr,w 26 vi,w 27 vi]) oo))))) .o) .o)))))) (.s (.s .o (.j [w 3 xb] (.j pk (.s pN (.s (.s (.s .o (.s .o (.j pk (.j (pk++[w 86 vl,w 87 vi,w 88 vi]) (.s .o (.s oo (.s (.s (.s .o (.s .o (.s .o (.j (pk++[w 86 vl,w 87 vi,w 88 vi]) oo)))) .o) .o))))))) .o) .o))))) oo)))))),[(23,1),(63,133),(109,133)],none⟩
noncomputable def akj:AM.Spec:=⟨⟨132,[.val false [vi],.rptr pJ],[(false,[vb])]⟩,Tryz.f132,.s .o oo,[],none⟩
noncomputable def aiZ:AM.Spec:=⟨⟨169,[.val false [vl],.clo 132 pJ],[(false,[vi])]⟩,Tryz.f169,.s .o (.s (.s .o (.jr [] (.j [w 0 vl,.cpd 1 132 pJ,w 7 vi,w 8 vi] pH))) oo),[(16,132)],none⟩
noncomputable def aiY:AM.Spec:=⟨⟨128,[.val false [vl],.clo 132 pJ],[(false,[vb])]⟩,Tryz.f128,.s .o oo,[(7,1003)],none⟩
noncomputable def s92:AM.Spec:=⟨⟨92,pQ,[(false,[xb])]⟩,Tryz.f92,.s .o (.s .o (.s .o (.s (.s .o (.j pj (.j (pj++[w 22 vr,w 23 vi,w 24 vi]) (.s .o (.s oo (.s (.s (.s .o (.s .o (.j (pj++[w 22 vr,w 23 vi,w 24 vi]) oo))) .o) .o)))))) (.s .o (.s .o (.st 4 (.s .o (.j [c 1,a 1,.tm 4 false q1,w 7 xb,.bx 8 pP,a 8] (.j (pj++[w 7 xb,.bx 8 pP,a 8,w 51 vl,w 52 vi,w 53 vi]) (.s .o (.s oo (.s (.s (.s .o (.s .o (.j (pj++[w 7 xb,.bx 8 pP,a 8,w 51 vl,w 52 vi,w 53 vi]) oo))) .o) .o)))))) (.s (.s .o (.j [w 7 xb] (.j pd (.s pN (.s (.s (.s .o (.s .o (.j pd (.j (pd++[w 85 vl,w 86 vi,w 87 vi]) (.s .o (.s oo (.s (.s (.s .o (.s .o (.j (pd++[w 85 vl,w 86 vi,w 87 vi]) (.j (pd++[w 85 vl,w 86 vi,w 87 vi,w 96 vl,w 97 vi,w 98 vi]) pD)))) .o) .o))))))) .o) .o))))) oo))))))),[(17,131),(20,1),(32,1002),(62,133),(103,133)],none⟩
noncomputable def akh:AM.Spec:=⟨⟨130,[.val false [vi],.rptr pJ],[(false,[vb])]⟩,Tryz.f130,.s .o oo,[],none⟩
noncomputable def ai1:AM.Spec:=⟨⟨169,[.val false [vl],.clo 130 pJ],[(false,[vi])]⟩,Tryz.f169,.s .o (.s (.s .o (.jr [] (.j [w 0 vl,.cpd 1 130 pJ,w 7 vi,w 8 vi] pH))) oo),[(16,130)],none⟩
noncomputable def ai0:AM.Spec:=⟨⟨128,[.val false [vl],.clo 130 pJ],[(false,[vb])]⟩,Tryz.f128,.s .o oo,[(7,1005)],none⟩
noncomputable def ahD:AM.Sig:=⟨100,[.io [wr],.fn 49],[]⟩
noncomputable def ai2:AM.Spec:=⟨ahD,Tryz.f100,.o,[],(some xK)⟩
noncomputable def aiw:AM.Spec:=⟨⟨124,[.val false [vi]],[(false,[vb])]⟩,Tryz.f124,.s .o oo,[],none⟩
noncomputable def s87:AM.Spec:=⟨⟨87,pY,[(false,[vi])]⟩,Tryz.f87,.s .o (.s .o (.s .o (.s (.s .o (.s (.s pL oo) .o)) (.s pL (.s pL (.s pL oo)))))),[(8,124),(10,124)],none⟩
noncomputable def s88:AM.Spec:=⟨⟨88,pR,[(false,[vi])]⟩,Tryz.f88,.s .o (.s (.s .o (.jr [w 0 vl,w 1 vl] (.j [w 0 vl,w 1 vl,w 9 vl,w 10 vi,w 11 vi] (.s .o (.s oo (.s (.s (.s .o (.s pL (.s .o (.s .o pL)))) .o) .o)))))) (.s pL oo)),[(26,87)],none⟩
noncomputable def s86:AM.Spec:=⟨⟨86,[.val false [vl]],[(false,[vi])]⟩,Tryz.f86,.s .o (.s .o (.s (.s .o (.jr [w 3 vi] (.j [w 3 vi,w 6 vl,w 7 vi,w 8 vi] pH))) oo)),[],none⟩
noncomputable def s49:AM.Spec:=⟨⟨49,q5,[(false,[vi])]⟩,Tryz.f49,.s .o oo,[(9,87),(14,88),(19,87),(21,86)],none⟩
noncomputable def akn:AM.Spec:=⟨⟨139,q5,[(false,[vb])]⟩,Tryz.f139,.s .o oo,[(7,49)],none⟩
noncomputable def ai3:AM.Spec:=⟨⟨138,[.val false [wr],.fn 139],[(false,[wr])]⟩,Tryz.f138,.s .o (.s pL (.s (.s .o (.jr [w 0 wr] (.j [w 0 wr,.fn 1 139,w 5 vi] (.s pN (.s (.s (.s .o (.s (.s .o (.s (.s .o (.j [w 0 wr,w 5 vi] (.j q2 (.s pN (.s (.s (.s .o (.j q2 pC)) .o) .o))))) pN)) .o)) .o) .o))))) oo)),[(6,2),(28,139),(48,139)],none⟩
noncomputable def s99:AM.Spec:=⟨⟨99,[.val false [wr]],[(false,[wr])]⟩,Tryz.f99,.s .o pN,[(4,1006),(6,1007)],none⟩
noncomputable def s91:AM.Spec:=⟨⟨91,[.val true pK,.val false pJ],[(true,pI)]⟩,Tryz.f91,.s .o (.s .o (.s .o (.s (.s .o (.j p6 (.j (p6++[.tm 19 false pJ,w 20 vi,w 21 vi]) (.s .o (.s oo (.s (.s (.s .o (.s .o (.j (p6++[.tm 19 false pJ,w 20 vi,w 21 vi]) pC))) .o) .o)))))) (.s (.s .o (.j p6 (.j (p6++[w 38 vl,w 39 vi,w 40 vi]) (.s .o (.s oo (.s (.s (.s .o (.s .o (.j (p6++[w 38 vl,w 39 vi,w 40 vi]) oo))) .o) .o)))))) (.s (.s .o (.j (pq++[.bx 5 pI,a 5]) (.j (pi++[w 59 vr,w 60 vi,w 61 vi]) (.s .o (.s oo (.s (.s (.s .o (.s (.s (.j (pi++[.bx 12 pM,a 12,w 59 vr,w 60 vi,w 61 vi,w 76 vb]) .o) oo) (.s .o (.s .o (.s (.s .o (.j (pi++[.bx 13 pX,a 13,w 59 vr,w 60 vi,w 61 vi]) (.j (pi++[.bx 13 pX,a 13,w 59 vr,w 60 vi,w 61 vi,.rf 95 (.box 13) 1 false 1,w 96 vi,w 97 vi]) pD))) .o))))) .o) .o)))))) pN))))),[(75,1004),(120,99)],none⟩
noncomputable def s74:AM.Spec:=⟨⟨74,pG,[(true,pK),(false,[vi])]⟩,Tryz.f74,.s .o (.s pL oo),[(8,60),(13,92),(14,91)],none⟩
noncomputable def s75:AM.Spec:=⟨⟨75,pG,[(false,[xl])]⟩,Tryz.f75,.s .o (.s .o (.st 5 (.s .o (.j [.tm 5 false q1] (.j [.tm 5 false q1,w 13 vr,w 14 vi,w 15 vi] pD))) oo)),[(11,1)],none⟩
noncomputable def afJ:AM.Sig:=⟨116,[.io [wl]],[(false,[wl])]⟩
noncomputable def ai4:AM.Spec:=⟨afJ,Tryz.f116,.o,[],(some zC)⟩
noncomputable def akD:AM.Spec:=⟨⟨189,[.val false pS],[(false,[(.str,.pure)])]⟩,Tryz.f189,.s .o (.s .o (.s (.s .o (.j [.tm 3 false pO] (.j pw (.s .o (.s oo (.s (.s (.s .o (.s .o (.j pw (.j [.tm 3 false pO,w 5 vu,.tm 11 false pS,w 12 vi,w 13 vi,w 17 vi] pD)))) .o) .o)))))) oo)),[],none⟩
noncomputable def akz:AM.Spec:=⟨⟨167,[.ptr [vi,vl,vr,pF,q3,q6,(.sl [.int .i64,.sl [.int .i64],.int .i64],.dead),vi,vi,vb],.val false [vl]],[(false,[vi])]⟩,Tryz.f167,.s .o (.s pL (.s .o (.s (.s .o (.j (p9++[.tm 5 false [(.sl [.int .u64],.own)]]) (.j (p9++[.tm 5 false [(.sl [.int .u64],.own)],w 23 vl,w 24 vi,w 25 vi]) (.s .o (.s oo (.s (.s pN .o) .o)))))) (.s .o (.s .o (.s (.s .o (.j (p9++[w 10 vi]) (.s pN .o))) oo)))))),[(50,189)],none⟩
noncomputable def akA:AM.Spec:=⟨⟨168,[.val false pS,.val false [vi]],[(false,[vb])]⟩,Tryz.f168,.s .o oo,[],none⟩
noncomputable def ake:AM.Spec:=⟨⟨126,[.ptr [vi,vl,vr,pF,q3,q6,wr,vi,vi,vb],.val false [vi],.val false [vi],.io [wl],.val false [vl],.val false [vb]],[]⟩,Tryz.f126,.s (.s (.j (p0++[w 25 vb]) .o) oo) (.s (.s .o (.s (.s .o (.s (.j pr .o) .o)) .o)) (.s .o (.s (.s (.j (p0++[w 12 vi,w 71 vb]) .o) (.j (p0++[w 12 vi]) oo)) (.s .o (.j pr (.j (p0++[w 13 vi]) (.s pN (.s (.s (.s .o (.s (.s .o (.j (p0++[w 13 vi,w 14 wl]) (.j (p0++[w 13 vi,w 14 wl,w 85 vl,w 86 vi,w 87 vi]) (.s .o (.s oo (.s (.s (.s .o (.s .o (.j (p0++[w 13 vi,w 14 wl,w 85 vl,w 86 vi,w 87 vi]) oo))) .o) .o)))))) (.j (p0++[w 13 vi]) .o))) .o) .o)))))))),[(37,1008),(40,167),(111,168),(123,3),(134,126)],none⟩
noncomputable def s94:AM.Spec:=⟨⟨94,pQ,[(false,[xb])]⟩,Tryz.f94,.s .o (.s .o (.s (.s .o (.j [w 3 xb] (.j [w 3 xb,w 10 vl,w 11 vi,w 12 vi] pD))) oo)),[],none⟩
noncomputable def akf:AM.Spec:=⟨⟨127,[.val false pS],[(false,[wl])]⟩,Tryz.f127,.s .o (.s .o (.s (.s .o (.j [w 3 wl] (.j [.tm 0 false pS,w 3 wl,w 7 vi,w 8 vi] (.s .o (.s oo (.s (.s (.s .o (.s .o (.j [.tm 0 false pS,w 3 wl,w 7 vi,w 8 vi] oo))) .o) .o)))))) oo)),[(13,168)],none⟩
noncomputable def akg:AM.Spec:=⟨⟨129,[.val false [vi],.rptr pJ],[(false,[vb])]⟩,Tryz.f129,.s .o oo,[],none⟩
noncomputable def ai6:AM.Spec:=⟨⟨169,[.val false [vl],.clo 129 pJ],[(false,[vi])]⟩,Tryz.f169,.s .o (.s (.s .o (.jr [] (.j [w 0 vl,.cpd 1 129 pJ,w 7 vi,w 8 vi] pH))) oo),[(16,129)],none⟩
noncomputable def ai5:AM.Spec:=⟨⟨128,[.val false [vl],.clo 129 pJ],[(false,[vb])]⟩,Tryz.f128,.s .o oo,[(7,1010)],none⟩
noncomputable def s90:AM.Spec:=⟨⟨90,pG,[(true,pK),(false,[pF]),(false,[vi])]⟩,Tryz.f90,.s .o (.s pL (.s .o (.s (.s .o (.jr (p8++[.adr 7 (.box 28) 0,.bx 28 [vi,vl,vr,pF,q3,q6,wr,vi,vi,vb]]) (.j p3 (.s (.s (.j (p3++[w 41 vb]) .o) oo) (.s (.s (.s (.s .o (.j p3 (.j (p3++[w 45 vl,w 46 vi,w 47 vi]) (.s .o (.s oo (.s (.s (.s .o (.s .o (.j (p3++[w 45 vl,w 46 vi,w 47 vi]) oo))) .o) .o)))))) (.s pL .o)) .o) .o))))) (.s .o (.s .o (.s .o (.s (.s .o (.j (pq++[.bx 11 pI,a 11,w 13 xl]) (.j pc (.s .o (.s oo (.s (.s (.s .o (.s .o (.s .o (.s .o (.j pc oo))))) .o) .o)))))) oo))))))),[(19,60),(25,75),(69,126),(100,99),(103,94),(115,127),(122,1009)],none⟩
noncomputable def s51:AM.Spec:=⟨⟨51,pG,[(true,pK),(false,[vi])]⟩,Tryz.f51,.s .o (.s .o (.s pL (.s pL (.s .o (.s pL pN))))),[(14,89),(23,85),(27,74),(37,90)],none⟩
noncomputable def s52:AM.Spec:=⟨⟨52,pQ,[(true,pI)]⟩,Tryz.f52,.s .o oo,[(5,92),(6,91)],none⟩
noncomputable def s93:AM.Spec:=⟨⟨93,[.val false pJ],[(false,[vl]),(false,[vi])]⟩,Tryz.f93,.s .o (.s .o (.s .o (.s (.s .o (.j px (.j (px++[.tm 11 false pJ,w 12 vi,w 13 vi]) (.s .o (.s oo (.s (.s (.s .o (.s .o (.s (.s .o (.j (px++[w 8 vi,.tm 11 false pJ,w 12 vi,w 13 vi]) pC)) .o))) .o) .o)))))) oo))),[],none⟩
noncomputable def akl:AM.Spec:=⟨⟨134,[.val false [vi],.val false [vl]],[(false,[(.str,.pure)])]⟩,Tryz.f134,.s .o oo,[(7,125)],none⟩
noncomputable def ahE:AM.Sig:=⟨135,[.io [(.sl [.int .i64,.int .i64],.own)],.fn 136],[]⟩
noncomputable def ai7:AM.Spec:=⟨ahE,Tryz.f135,.o,[],(some Ce)⟩
noncomputable def s95:AM.Spec:=⟨⟨95,pQ,[(false,pT)]⟩,Tryz.f95,.s .o (.s .o (.s .o (.s (.s .o (.j [.tm 4 false pT] (.j (pg++[w 20 vr,w 21 vi,w 22 vi]) (.s .o (.s oo (.s (.s (.s .o (.s .o (.j (pg++[w 20 vr,w 21 vi,w 22 vi]) (.j (pg++[.bx 6 pM,a 6,w 20 vr,w 21 vi,w 22 vi,w 27 vl,w 28 vi,w 29 vi]) (.s .o (.s oo (.s (.s (.s .o (.s .o (.s .o (.s .o (.s .o (.s (.s .o (.j (pg++[.bx 6 pM,a 6,w 8 vi,w 11 vi,w 20 vr,w 21 vi,w 22 vi,w 27 vl,w 28 vi,w 29 vi]) pC)) .o)))))) .o) .o))))))) .o) .o)))))) (.s (.s .o (.j [.tm 4 false pT] (.j [.tm 4 false pT,.rf 72 (.tmp 4) 0 false 1,w 73 vi,w 74 vi] pD))) oo)))),[(14,2),(18,1),(36,116),(43,134),(79,1011)],none⟩
noncomputable def s97:AM.Spec:=⟨⟨97,[.val false [(.sl [.str],.pure)]],[(false,[vl]),(false,[vi])]⟩,Tryz.f97,.s .o (.s .o (.s .o (.s (.s .o (.j pz (.j (pz++[.tm 11 false [(.sl [.str],.pure)],w 12 vi,w 13 vi]) (.s .o (.s oo (.s (.s (.s .o (.s .o (.s (.s .o (.j (pz++[w 8 vi,.tm 11 false [(.sl [.str],.pure)],w 12 vi,w 13 vi]) pC)) .o))) .o) .o)))))) oo))),[],none⟩
noncomputable def s53:AM.Spec:=⟨⟨53,pQ,[(false,[vl])]⟩,Tryz.f53,.s .o (.s .o (.st 5 .o (.jr [] (.j pm (.s (.s .o (.s (.s .o (.j [c 1,a 1,w 4 vi,.tm 5 false [(.sl [.sl [.int .i64,.int .i64]],.own)],.tm 6 false q4] (.j (pm++[.tm 6 false q4,w 25 vi,w 26 vi]) (.s .o (.s oo (.s (.s (.s .o (.s .o (.s (.s .o (.j (pm++[.tm 6 false q4,w 7 vi,.tm 8 false pO,w 25 vi,w 26 vi]) (.j (pm++[.tm 6 false q4,w 7 vi,.tm 8 false pO,w 25 vi,w 26 vi,.tm 37 false [(.sl [.int .i64,.int .i64],.pure)],w 38 vi,w 39 vi]) (.s .o (.s oo (.s (.s pN .o) .o)))))) .o))) .o) .o)))))) (.s .o (.s .o (.s pL .o))))) .o))))),[(15,94),(16,93),(20,95),(33,96),(48,96),(57,96),(67,97)],none⟩
noncomputable def g78:AM.Sig:=⟨78,[.io [wl]],[]⟩
noncomputable def s78:AM.Spec:=⟨g78,Tryz.f78,.o,[],(some Vl)⟩
noncomputable def s98:AM.Spec:=⟨⟨98,[.val false [wl]],[(false,[wl])]⟩,Tryz.f98,.s .o (.s pL (.s (.s .o (.jr [w 0 wl] (.j [w 0 wl,w 3 vi] (.s pN (.s (.s (.s .o (.s (.s .o (.s (.s .o (.j [w 0 wl,w 3 vi] (.j [w 0 wl,w 3 vi,.rs 4 (.tmp 0) 0 false,w 5 vi] (.s pN (.s (.s (.s .o (.j [w 0 wl,w 3 vi,.rs 4 (.tmp 0) 0 false,w 5 vi] pC)) .o) .o))))) pN)) .o)) .o) .o))))) oo)),[(4,2)],none⟩
noncomputable def s54:AM.Spec:=⟨⟨54,[.val true pK,.val false [vi],.val false [vl]],[(true,pK)]⟩,Tryz.f54,.s .o (.s .o (.s (.s .o (.j [w 2 vl,c 3,a 3,.bx 6 pI,a 6,.bx 7 pI,a 7] (.j [w 2 vl,c 3,a 3,.bx 6 pI,a 6,.bx 7 pI,a 7,w 18 vl,w 19 vi,w 20 vi] pD))) (.s .o (.s .o (.s (.s .o (.j [.bx 6 pI,a 6,.bx 7 pI,a 7] (.j [w 2 vl,.bx 6 pI,a 6,.bx 7 pI,a 7,w 42 vr,w 43 vi,w 44 vi] (.s .o (.s oo (.s (.s (.s .o (.s .o (.s (.s .o (.j pu (.j (pu++[w 57 vl,w 58 vi,w 59 vi]) pD))) .o))) .o) .o)))))) pN))))),[(36,78),(39,98),(82,99)],none⟩
noncomputable def s55:AM.Spec:=⟨⟨55,pQ,[(false,[wl])]⟩,Tryz.f55,.s .o (.s .o (.s (.s .o (.j [c 1,a 1,w 3 wl] (.j [c 1,a 1,w 3 wl,w 18 vi,w 19 vi] pD))) (.s (.s .o (.j [w 3 wl] (.j [c 1,a 1,w 3 wl,w 5 vi] (.s pN (.s (.s .o (.s .o (.s (.s .o (.j ps (.j (ps++[w 31 vr,w 32 vi,w 33 vi]) (.s .o (.s oo (.s (.s (.s .o (.s pN (.s .o (.s (.s .o (.jr (ps++[.bx 9 pX,a 9,w 31 vr,w 32 vi,w 33 vi]) (.j (ps++[.bx 9 pX,a 9,w 31 vr,w 32 vi,w 33 vi,w 49 vl,w 50 vi,w 51 vi]) (.s .o (.s oo (.s (.s (.s .o (.s pN .o)) .o) .o)))))) .o)))) .o) .o)))))) (.s pN (.s .o (.s .o (.j [c 1,a 1,w 3 wl,w 5 vi] (.j (ps++[.rf 80 (.tmp 6) 0 false 1,w 81 vi,w 82 vi]) (.s .o (.s oo (.s (.s (.s .o (.s .o (.j (ps++[.rf 80 (.tmp 6) 0 false 1,w 81 vi,w 82 vi]) pC))) .o) .o))))))))))) .o))))) oo))),[(79,1006)],none⟩
noncomputable def s15:AM.Spec:=⟨⟨15,pG,[(true,pK),(false,[vi])]⟩,Tryz.f15,.s .o (.s .o (.s pL (.s .o (.s .o (.s .o (.s (.s .o (.j (pq++[.bx 6 pV,a 6,w 8 vl,w 9 vi]) (.j (pq++[.bx 6 pV,a 6,w 8 vl,w 9 vi,w 27 vl,w 28 vi,w 29 vi]) pD))) pN)))))),[(16,51),(24,52),(26,53),(41,54),(45,55),(46,54)],none⟩
noncomputable def s50:AM.Spec:=⟨⟨50,pR,[(false,[vb])]⟩,Tryz.f50,.s .o pW,[],none⟩
noncomputable def s14:AM.Spec:=⟨⟨14,[.val true pK,.val true pK],[(false,[vb])]⟩,Tryz.f14,.s .o (.s (.s (.j [c 2,a 2,c 3,a 3,w 28 vb] .o) pC) (.s (.s .o (.jr [] (.j [c 3,a 3,w 30 vr,w 31 vi,w 32 vi] (.s .o (.s oo (.s (.s (.s .o (.s (.j [c 3,a 3,w 30 vr,w 31 vi,w 32 vi,w 68 vb] .o) pC)) .o) .o)))))) oo)),[(17,50),(66,50)],none⟩
noncomputable def s12:AM.Spec:=⟨⟨12,[],[(false,[vb])]⟩,Tryz.f12,.s .o (.s .o (.s (.j [w 0 vb] .o) .o)),[(5,45),(6,15),(26,14)],none⟩
noncomputable def s46:AM.Spec:=⟨⟨46,pR,[(false,[vb])]⟩,Tryz.f46,.s .o pW,[],none⟩
noncomputable def s48:AM.Spec:=⟨⟨48,q5,[(false,[vb])]⟩,Tryz.f48,.s .o oo,[(7,49)],none⟩
noncomputable def ai8:AM.Spec:=⟨⟨47,[.val false [vr],.val false [vr],.fn 48],[(false,[vb])]⟩,Tryz.f47,.s .o (.s pL (.s (.s .o (.jr [] (.j [w 1 vr,.fn 2 48,w 15 vr,w 16 vi,w 17 vi] (.s .o (.s oo (.s (.s (.s .o (.s .o pL)) .o) .o)))))) oo)),[(29,48)],none⟩
noncomputable def s13:AM.Spec:=⟨⟨13,[.val true pK,.val true pK],[(false,[vb])]⟩,Tryz.f13,.s .o (.s (.j [w 4 vb] .o) .o),[(15,46),(22,1012)],none⟩
noncomputable def s20:AM.Spec:=⟨⟨20,pU,[(false,[vb]),(false,[vi])]⟩,Tryz.f20,.s .o (.s (.s (.j [b 3 vl,a 3,c 4,a 4,c 5,a 5,w 20 vb] .o) pC) (.s .o (.s pL (.s .o (.s pL oo))))),[(13,60),(18,60),(24,15),(33,15),(41,13)],none⟩
noncomputable def s56:AM.Spec:=⟨⟨56,[.val true [vl]],[(false,[vb])]⟩,Tryz.f56,.s .o (.s pL (.s (.s .o (.jr [] (.j [w 10 vl,w 11 vi,w 12 vi] (.s .o (.s oo (.s (.s (.s .o (.s (.j [w 10 vl,w 11 vi,w 12 vi,w 21 vb] .o) pC)) .o) .o)))))) oo)),[],none⟩
noncomputable def s16:AM.Spec:=⟨⟨16,pG,[(false,[vb])]⟩,Tryz.f16,.s .o (.s (.s (.j (pB++[w 29 vb]) .o) pC) (.s (.s .o (.jr pB (.j (pB++[w 31 vl,w 32 vi,w 33 vi]) (.s .o (.s oo (.s (.s (.s .o (.s (.j (pB++[w 31 vl,w 32 vi,w 33 vi,w 59 vb]) .o) pC)) .o) .o)))))) (.s (.s .o (.jr [] (.j pt (.s .o (.s oo (.s (.s (.s .o (.s (.s (.j (pB++[.bx 8 pM,a 8,w 62 vr,w 63 vi,w 64 vi,w 102 vb]) .o) pC) (.s .o (.jr pt (.j (pt++[w 104 vl,w 105 vi,w 106 vi]) (.s .o (.s oo (.s (.s (.s .o (.s (.j (pt++[w 104 vl,w 105 vi,w 106 vi,w 117 vb]) .o) pC)) .o) .o)))))))) .o) .o)))))) oo))),[(12,56)],none⟩
noncomputable def s23:AM.Spec:=⟨⟨23,pQ,[(false,[vb])]⟩,Tryz.f23,.s .o (.s (.s .o (.jr [] (.j [c 1,a 1,w 8 vr,w 9 vi,w 10 vi] (.s .o (.s oo (.s (.s (.s .o (.s .o (.jr [c 1,a 1,w 8 vr,w 9 vi,w 10 vi] (.j pA (.s .o (.s oo (.s (.s (.s .o (.s (.j (pA++[w 35 vb]) .o) pC)) .o) .o))))))) .o) .o)))))) oo),[(34,50)],none⟩
noncomputable def aj9:AM.Spec:=⟨⟨111,pQ,[(false,[xb])]⟩,Tryz.f111,.s .o (.s .o (.s (.s .o (.j [w 3 xb] (.j [c 1,a 1,w 3 xb,w 4 vb] (.s pN (.s (.s .o (.s .o (.j [c 1,a 1,w 3 xb,w 4 vb] (.j q7 (.s .o (.s oo (.s (.s (.s .o (.s .o (.s (.s .o (.j pp (.j (pp++[w 22 vl,w 23 vi,w 24 vi]) (.s .o (.s oo (.s (.s (.s .o (.j (pp++[w 22 vl,w 23 vi,w 24 vi]) .o)) .o) .o)))))) (.s (.j [c 1,a 1,w 3 xb,w 4 vb,.bx 6 pM,a 6,w 15 vr,w 16 vi,w 17 vi,w 44 vb] .o) (.j q7 oo))))) .o) .o))))))) .o))))) oo)),[],none⟩
noncomputable def s64:AM.Spec:=⟨⟨64,pQ,[(false,[xb])]⟩,Tryz.f64,.s .o (.s .o (.s .o (.s (.s .o (.j [c 1,a 1,w 3 xb,w 4 xb] (.j [c 1,a 1,w 3 xb,w 4 xb,w 21 vl,w 22 vi,w 23 vi] pD))) (.s (.s .o (.j [w 4 xb] (.j pn (.s pN (.s (.s .o (.s .o (.j pn (.j (pn++[w 37 vr,w 38 vi,w 39 vi]) (.s .o (.s oo (.s (.s (.s .o (.s .o (.s (.s .o (.j (pn++[.bx 9 pM,a 9,w 10 vb,w 37 vr,w 38 vi,w 39 vi]) (.j (pn++[.bx 9 pM,a 9,w 10 vb,w 37 vr,w 38 vi,w 39 vi,w 49 vl,w 50 vi,w 51 vi]) (.s .o (.s oo (.s (.s (.s .o (.j (pn++[.bx 9 pM,a 9,w 10 vb,w 37 vr,w 38 vi,w 39 vi,w 49 vl,w 50 vi,w 51 vi]) .o)) .o) .o)))))) (.s .o (.j (pn++[w 37 vr,w 38 vi,w 39 vi]) (.j (pn++[w 10 vb,w 37 vr,w 38 vi,w 39 vi,w 64 vl,w 65 vi,w 66 vi]) (.s .o (.s oo (.s (.s (.s .o (.s (.j (pn++[w 10 vb,w 14 vi,w 37 vr,w 38 vi,w 39 vi,w 64 vl,w 65 vi,w 66 vi,w 77 vb]) .o) (.j (pn++[w 10 vb,w 37 vr,w 38 vi,w 39 vi,w 64 vl,w 65 vi,w 66 vi]) oo))) .o) .o))))))))) .o) .o))))))) .o))))) oo)))),[(16,111)],none⟩
noncomputable def aky:AM.Spec:=⟨⟨151,[.val true pM],[(false,[wl])]⟩,Tryz.f151,.s .o oo,[],none⟩
noncomputable def akx:AM.Spec:=⟨⟨150,pR,[(false,[vi])]⟩,Tryz.f150,.s .o (.s (.s .o (.jr [w 0 vl,w 1 vl] (.j [w 0 vl,w 1 vl,w 10 vi,w 11 vi] (.s .o (.s oo (.s (.s (.s .o (.s pL pL)) .o) .o)))))) (.s (.s (.s .o (.s oo pL)) .o) oo)),[],none⟩
noncomputable def aj8:AM.Spec:=⟨⟨110,[.val false [vr]],[(false,[wr])]⟩,Tryz.f110,.s .o (.s .o (.s (.s .o (.j [w 3 wr] (.j [w 3 wr,w 9 vr,w 10 vi,w 11 vi] (.s .o (.s oo (.s (.s (.s .o (.s .o (.s (.j (pv++[w 9 vr,w 10 vi,w 11 vi]) (.j (pv++[w 7 vi,w 9 vr,w 10 vi,w 11 vi]) (.s pN (.s (.s .o (.s .o (.j (pv++[w 7 vi,w 9 vr,w 10 vi,w 11 vi]) oo))) .o)))) (.s (.j (pv++[w 9 vr,w 10 vi,w 11 vi,w 50 vb]) .o) (.j [w 3 wr,w 9 vr,w 10 vi,w 11 vi] (.s pN .o)))))) .o) .o)))))) oo)),[(28,151),(30,151),(31,150),(45,151),(47,151),(48,150)],none⟩
noncomputable def s63:AM.Spec:=⟨⟨63,[.val true pK,.val false pJ],[(true,pI)]⟩,Tryz.f63,.s .o (.s .o (.s .o (.s (.s .o (.j p5 (.j (p5++[.tm 20 false pJ,w 21 vi,w 22 vi]) (.s .o (.s oo (.s (.s (.s .o (.s .o (.j (p5++[.tm 20 false pJ,w 21 vi,w 22 vi]) pC))) .o) .o)))))) (.s (.s .o (.j p5 (.j (p5++[w 39 vl,w 40 vi,w 41 vi]) (.s .o (.s oo (.s (.s (.s .o (.s .o (.j (p5++[w 39 vl,w 40 vi,w 41 vi]) oo))) .o) .o)))))) (.s (.s .o (.j (pq++[.bx 6 pI,a 6]) (.j (pb++[w 60 vr,w 61 vi,w 62 vi]) (.s .o (.s oo (.s (.s (.s .o (.s .o (.s .o (.s (.s .o (.j (pb++[.bx 12 pM,a 12,w 13 vb,w 14 wl,w 60 vr,w 61 vi,w 62 vi]) (.j (pb++[.bx 12 pM,a 12,w 13 vb,w 14 wl,w 60 vr,w 61 vi,w 62 vi,w 72 vl,w 73 vi,w 74 vi]) (.s .o (.s oo (.s (.s (.s .o (.s (.j (pb++[.bx 12 pM,a 12,w 13 vb,w 14 wl,w 16 vi,w 60 vr,w 61 vi,w 62 vi,w 72 vl,w 73 vi,w 74 vi]) .o) .o)) .o) .o)))))) (.s .o (.j (pb++[w 60 vr,w 61 vi,w 62 vi]) oo)))))) .o) .o)))))) pN))))),[(111,110)],none⟩
noncomputable def s24:AM.Spec:=⟨⟨24,pQ,[(true,pI)]⟩,Tryz.f24,.s .o oo,[(5,64),(6,63)],none⟩
noncomputable def ajX:AM.Spec:=⟨⟨101,pY,[(false,[vi])]⟩,Tryz.f101,.s .o (.s .o (.s (.s .o (.j [w 5 vi] (.j [w 0 vi,w 5 vi,w 6 vi,w 7 vi] (.s .o (.s oo pC))))) oo)),[],none⟩
noncomputable def s58:AM.Spec:=⟨⟨58,pQ,[(false,[vi])]⟩,Tryz.f58,.s .o oo,[(4,24),(6,101)],none⟩
noncomputable def s83:AM.Spec:=⟨⟨83,[.val true [vl],.val false [vi]],[(false,[vi])]⟩,Tryz.f83,.s .o (.s .o (.s (.s .o (.j [w 5 vi] (.j [w 1 vi,w 5 vi,w 9 vl,w 10 vi,w 11 vi] pD))) oo)),[(18,101)],none⟩
noncomputable def s57:AM.Spec:=⟨⟨57,[.val true [vl],.val false [vi]],[(false,[vb])]⟩,Tryz.f57,.s .o (.s (.j [w 4 vb] .o) .o),[(10,83)],none⟩
noncomputable def g17:AM.Sig:=⟨17,[.val true [vl],.val true [vi,vl,vr]],[(false,[vb])]⟩
noncomputable def s17:AM.Spec:=⟨g17,Tryz.f17,.s .o (.s (.j [w 4 vb] .o) .o),[(6,23),(10,58),(11,57)],none⟩
noncomputable def s41:AM.Spec:=⟨⟨41,q0,[(false,[vb])]⟩,Tryz.f41,.s .o (.s (.s .o (.jr [] (.j [b 2 vl,a 2,.tm 8 false pE,w 9 vi,w 10 vi] (.s .o (.s oo (.s (.s (.s .o (.s (.s (.j [b 2 vl,a 2,c 6,a 6,.tm 8 false pE,w 9 vi,w 10 vi,w 22 vb] .o) pC) (.s .o (.s (.s .o (.j [b 2 vl,a 2,w 7 vi,.tm 8 false pE,w 9 vi,w 10 vi] oo)) pL)))) .o) .o)))))) oo),[(24,58),(26,23),(28,24),(33,83)],none⟩
noncomputable def s18:AM.Spec:=⟨⟨18,q0,[(false,[vb])]⟩,Tryz.f18,.s .o oo,[(7,41)],none⟩
noncomputable def akp:AM.Spec:=⟨⟨142,pY,[(false,[xl])]⟩,Tryz.f142,.s .o (.s pL (.s .o (.s (.s .o (.j [w 5 xl] (.j [w 0 vi,w 1 vi,w 5 xl,w 12 vi,w 13 vi] (.s .o (.s oo (.s (.s (.s .o (.s .o (.j [w 0 vi,w 1 vi,w 5 xl,w 12 vi,w 13 vi] (.j [w 0 vi,w 1 vi,w 5 xl,w 6 vi,w 12 vi,w 13 vi,w 19 xl,w 20 vi,w 21 vi] pD)))) .o) .o)))))) oo))),[(19,142)],none⟩
noncomputable def akq:AM.Spec:=⟨⟨143,[.val false [pF],.val false [vl]],[(false,[xl])]⟩,Tryz.f143,.s .o (.s .o (.s (.s .o (.j [w 5 xl] (.j [.tm 0 false [pF],w 5 xl,w 8 vl,w 9 vi,w 10 vi] pD))) oo)),[],none⟩
noncomputable def aj1:AM.Spec:=⟨⟨105,[.val false [vl],.val false [vi]],[(false,[vb])]⟩,Tryz.f105,.s .o (.s (.s .o (.jr [] (.j [w 1 vi,w 7 vl,w 8 vi,w 9 vi] pH))) oo),[],none⟩
noncomputable def aj2:AM.Spec:=⟨⟨106,[.val false [vl],.val false [vi]],[(false,[vl])]⟩,Tryz.f106,.s .o (.s .o (.s (.j [w 0 vl,w 1 vi,w 5 vi] (.j [w 0 vl,w 1 vi,w 5 vi] (.s (.s (.j [w 0 vl,w 1 vi,w 5 vi,w 17 vb] .o) oo) oo))) (.s (.s (.j [w 0 vl,w 1 vi,w 5 vi,w 31 vb] .o) pC) oo))),[],none⟩
noncomputable def akb:AM.Spec:=⟨⟨112,[.val true pK,.val false [vi],.val false [pF]],[(false,[vl])]⟩,Tryz.f112,.s .o (.s .o (.s (.s .o (.j [w 7 vl] (.j (po++[w 13 vr,w 14 vi,w 15 vi]) (.s .o (.s oo (.s (.s (.s .o (.s .o (.s (.s .o (.j (po++[.bx 9 pM,a 9,w 10 vb,w 13 vr,w 14 vi,w 15 vi]) (.j (po++[.bx 9 pM,a 9,w 10 vb,w 11 vi,w 13 vr,w 14 vi,w 15 vi]) (.s (.s (.j (po++[.bx 9 pM,a 9,w 10 vb,w 11 vi,w 13 vr,w 14 vi,w 15 vi,w 29 vb]) .o) oo) pC)))) (.s .o (.j (po++[w 13 vr,w 14 vi,w 15 vi]) oo))))) .o) .o)))))) oo)),[(41,105),(46,106)],none⟩
noncomputable def akr:AM.Spec:=⟨⟨144,[.val false [pF],.val false [vl]],[(false,[vi])]⟩,Tryz.f144,.s .o (.s (.s .o (.jr [] (.j [w 1 vl,.tm 7 false [pF],w 8 vi,w 9 vi] pH))) oo),[(16,50)],none⟩
noncomputable def ako:AM.Spec:=⟨⟨141,pG,[(false,[pF]),(false,[vb])]⟩,Tryz.f141,.s .o (.s .o (.jr [] (.j pa (.s (.s .o (.s (.s .o (.j (pa++[w 7 vi]) (.j (pa++[w 7 vi,w 16 vl,w 17 vi,w 18 vi]) (.s .o (.s oo (.s (.s (.s .o (.s .o (.j (pa++[w 7 vi,w 16 vl,w 17 vi,w 18 vi]) (.j (pa++[w 7 vi,w 8 vi,w 16 vl,w 17 vi,w 18 vi,w 25 xl,w 26 vi,w 27 vi]) (.s .o (.s oo (.s (.s (.s .o (.s .o (.s (.j (pa++[w 7 vi,w 8 vi,w 12 vl,w 16 vl,w 17 vi,w 18 vi,w 25 xl,w 26 vi,w 27 vi,w 47 vb]) .o) (.j (pa++[w 7 vi,w 8 vi,w 16 vl,w 17 vi,w 18 vi,w 25 xl,w 26 vi,w 27 vi]) oo)))) .o) .o))))))) .o) .o)))))) (.s pL pL))) .o)))),[(25,142),(37,143),(38,112),(45,144)],none⟩
noncomputable def s66:AM.Spec:=⟨⟨66,pR,[(false,[vb])]⟩,Tryz.f66,.s .o (.s (.s .o (.jr [] (.j [w 1 vl,w 7 vl,w 8 vi,w 9 vi] pH))) oo),[(15,105)],none⟩
noncomputable def ajY:AM.Spec:=⟨⟨102,pG,[(true,pK),(false,[pF]),(false,[vi])]⟩,Tryz.f102,.s .o (.s pL (.s .o (.s pL (.s .o (.s (.s .o (.j pl (.j (pl++[.tm 34 false [pF],w 35 vi,w 36 vi]) (.s .o (.s oo (.s (.s (.s .o (.s .o (.j (pl++[.tm 34 false [pF],w 35 vi,w 36 vi]) oo))) .o) .o)))))) (.s (.s .o (.j (pq++[.tm 7 false [pF],.bx 9 pI,a 9]) (.j (p8++[.tm 7 false [pF],.bx 9 pI,a 9,w 53 vl,w 54 vi,w 55 vi]) (.s .o (.s oo (.s (.s (.s .o (.s .o (.j (p8++[.tm 7 false [pF],.bx 9 pI,a 9,w 53 vl,w 54 vi,w 55 vi]) (.j (p8++[.tm 7 false [pF],.bx 9 pI,a 9,w 12 vi,w 53 vl,w 54 vi,w 55 vi,w 63 xl,w 64 vi,w 65 vi]) (.s .o (.s oo (.s (.s (.s .o (.s .o (.s .o (.j (p8++[.tm 7 false [pF],.bx 9 pI,a 9,w 12 vi,w 53 vl,w 54 vi,w 55 vi,w 63 xl,w 64 vi,w 65 vi]) oo)))) .o) .o))))))) .o) .o)))))) (.s pL oo))))))),[(19,16),(25,141),(44,66),(63,142),(73,143),(74,112),(84,144)],none⟩
noncomputable def ajZ:AM.Spec:=⟨⟨103,pG,[(true,pI)]⟩,Tryz.f103,.s .o (.s .o (.s (.s .o (.j (pq++[.bx 5 pI,a 5]) (.j (p8++[.bx 5 pI,a 5,w 26 vl,w 27 vi,w 28 vi]) (.s .o (.s oo (.s (.s (.s .o (.s .o (.j (p8++[.bx 5 pI,a 5,w 26 vl,w 27 vi,w 28 vi]) (.j (p8++[.bx 5 pI,a 5,w 6 vi,w 26 vl,w 27 vi,w 28 vi,w 37 xl,w 38 vi,w 39 vi]) (.s .o (.s oo (.s (.s (.s .o (.s .o (.s (.s .o (.j (p8++[.bx 5 pI,a 5,w 6 vi,w 9 vl,w 10 vb,w 26 vl,w 27 vi,w 28 vi,w 37 xl,w 38 vi,w 39 vi]) (.j (p8++[.bx 5 pI,a 5,w 6 vi,w 9 vl,w 10 vb,w 26 vl,w 27 vi,w 28 vi,w 37 xl,w 38 vi,w 39 vi,w 44 vr,w 45 vi,w 46 vi]) (.s .o (.s oo (.s (.s (.s .o (.j (p8++[.bx 5 pI,a 5,w 6 vi,w 9 vl,w 10 vb,w 26 vl,w 27 vi,w 28 vi,w 37 xl,w 38 vi,w 39 vi,w 44 vr,w 45 vi,w 46 vi]) .o)) .o) .o)))))) (.s .o (.j (p8++[.bx 5 pI,a 5,w 6 vi,w 26 vl,w 27 vi,w 28 vi,w 37 xl,w 38 vi,w 39 vi]) oo))))) .o) .o))))))) .o) .o)))))) oo)),[(37,142),(60,50)],none⟩
noncomputable def akC:AM.Spec:=⟨⟨180,[.val true [vi,pF],.val false [vl]],[(false,[vi])]⟩,Tryz.f180,.s .o (.s .o (.s (.s .o (.j [w 5 vi] (.j [.bx 2 [vi,pF],a 2,w 5 vi,w 8 vl,w 9 vi,w 10 vi] pD))) oo)),[],none⟩
noncomputable def aks:AM.Spec:=⟨⟨145,pG,[(true,[vi,(.sl [.sl [.int .i64]],.own)])]⟩,Tryz.f145,.s .o (.s .o (.s (.s .o (.j pe (.j (pe++[w 16 vl,w 17 vi,w 18 vi]) (.s .o (.s oo (.s (.s (.s .o (.s .o (.s (.s .o (.j (pe++[w 8 wl,w 16 vl,w 17 vi,w 18 vi]) (.j (pe++[w 8 wl,w 16 vl,w 17 vi,w 18 vi,w 28 vi,w 29 vi]) pD))) .o))) .o) .o)))))) (.s (.s .o (.j py (.j (py++[w 44 vr,w 45 vi,w 46 vi]) pD))) oo))),[(5,1),(14,1),(25,101),(39,1),(59,180)],none⟩
noncomputable def akv:AM.Spec:=⟨⟨148,[.val true [vi,pF],.val false [vi],.val false [vl]],[(false,[vi])]⟩,Tryz.f148,.s .o oo,[(14,180)],none⟩
noncomputable def akt:AM.Spec:=⟨⟨146,[.val true [vl],.val true [vi,pF],.val false [vl],.val false [vi],.val false [vi]],[(false,[vb])]⟩,Tryz.f146,.s .o (.s (.s .o (.jr [] (.j (ph++[w 19 vl,w 20 vi,w 21 vi]) (.s .o (.s oo (.s (.s (.s .o (.s pN (.s .o (.jr (ph++[w 19 vl,w 20 vi,w 21 vi]) (.j (ph++[w 11 vi,w 12 vi,w 19 vl,w 20 vi,w 21 vi,w 32 xl,w 33 vi,w 34 vi]) (.s .o (.s oo (.s (.s (.s .o (.s .o (.jr (ph++[w 11 vi,w 12 vi,w 19 vl,w 20 vi,w 21 vi,w 32 xl,w 33 vi,w 34 vi]) (.j (ph++[w 11 vi,w 12 vi,w 14 vl,w 19 vl,w 20 vi,w 21 vi,w 32 xl,w 33 vi,w 34 vi,w 38 vi,w 39 vi]) (.s .o (.s oo (.s (.s (.s .o (.s .o (.s .o pL))) .o) .o))))))) .o) .o)))))))) .o) .o)))))) oo),[(32,142),(70,148),(77,148)],none⟩
noncomputable def aku:AM.Spec:=⟨⟨147,[.val false [vl]],[(false,[vi])]⟩,Tryz.f147,.s .o (.s .o (.s (.s .o (.j [w 3 vl] (.j [w 3 vl,w 6 vl,w 7 vi,w 8 vi] pD))) oo)),[(14,106)],none⟩
noncomputable def aj0:AM.Spec:=⟨⟨104,pG,[(false,[wl])]⟩,Tryz.f104,.s .o (.s .o (.s .o (.s (.s .o (.j p4 (.j (p4++[w 21 vl,w 22 vi,w 23 vi]) pD))) (.jr [] (.j p4 (.s (.s .o (.s .o (.s (.s .o (.j (p4++[w 10 wl]) (.j (p4++[w 9 wl,w 10 wl,w 35 vi,w 36 vi]) (.s .o (.s oo (.s (.s (.s .o (.s .o (.s (.s .o (.j (p4++[w 9 wl,w 10 wl,w 11 vi,w 35 vi,w 36 vi]) (.j (p4++[w 9 wl,w 10 wl,w 11 vi,w 35 vi,w 36 vi,.rf 44 (.tmp 9) 0 false 1,w 45 vi,w 46 vi]) (.s .o (.s oo (.s (.s (.s .o (.s (.j (p4++[w 9 wl,w 10 wl,w 11 vi,w 12 vi,w 35 vi,w 36 vi,.rf 44 (.tmp 9) 0 false 1,w 45 vi,w 46 vi,w 67 vb]) .o) pC)) .o) .o)))))) (.s .o (.j (p4++[w 9 wl,w 10 wl,w 35 vi,w 36 vi]) oo))))) .o) .o)))))) (.s pL .o)))) .o)))))),[(16,145),(66,146),(86,147),(88,147)],none⟩
noncomputable def aj3:AM.Spec:=⟨⟨107,pG,[(true,pI)]⟩,Tryz.f107,.s .o (.s .o (.s .o (.s (.s .o (.j p1 (.j (p1++[w 33 vi,w 34 vi]) pD))) (.s .o (.s (.j (p8++[w 6 wl,w 8 wl]) (.j (p1++[w 8 wl]) (.s (.s .o (.s (.s .o (.j (p1++[w 8 wl,w 9 vi]) (.j (p1++[w 8 wl,w 9 vi,w 44 vl,w 45 vi,w 46 vi]) (.s .o (.s oo (.s (.s (.s .o (.s .o (.j (p1++[w 8 wl,w 9 vi,w 44 vl,w 45 vi,w 46 vi]) (.j (p1++[w 8 wl,w 9 vi,w 10 vi,w 44 vl,w 45 vi,w 46 vi,w 53 xl,w 54 vi,w 55 vi]) (.s .o (.s oo (.s (.s (.s .o (.s .o (.s (.s .o (.j (p1++[w 8 wl,w 9 vi,w 10 vi,w 14 wl,w 44 vl,w 45 vi,w 46 vi,w 53 xl,w 54 vi,w 55 vi]) (.j (p1++[w 8 wl,w 9 vi,w 10 vi,w 14 wl,w 44 vl,w 45 vi,w 46 vi,w 53 xl,w 54 vi,w 55 vi,w 59 vl,w 60 vi,w 61 vi]) pD))) (.s .o (.s (.j (p1++[w 8 wl,w 9 vi,w 10 vi,w 17 vi,w 44 vl,w 45 vi,w 46 vi,w 53 xl,w 54 vi,w 55 vi,w 85 vb]) .o) (.j (p1++[w 8 wl,w 9 vi,w 10 vi,w 44 vl,w 45 vi,w 46 vi,w 53 xl,w 54 vi,w 55 vi]) pC)))))) .o) .o))))))) .o) .o)))))) pN)) .o))) (.s .o (.s (.s .o (.j (p8++[w 6 wl,.bx 18 pI,a 18]) (.j (p8++[w 6 wl,w 8 wl,.bx 18 pI,a 18,.rf 104 (.tmp 8) 0 false 1,w 105 vi,w 106 vi]) (.s .o (.s oo (.s (.s (.s .o (.s .o (.j (p8++[w 6 wl,w 8 wl,.bx 18 pI,a 18,.rf 104 (.tmp 8) 0 false 1,w 105 vi,w 106 vi]) oo))) .o) .o)))))) (.s (.s .o (.j (pq++[.bx 18 pI,a 18]) (.j (pq++[w 6 wl,.bx 18 pI,a 18,w 123 vr,w 124 vi,w 125 vi]) (.s .o (.s oo (.s (.s (.s .o (.s .o (.s (.s .o (.j (pq++[w 6 wl,.bx 18 pI,a 18,.bx 23 pX,a 23,w 123 vr,w 124 vi,w 125 vi]) (.j (pq++[w 6 wl,.bx 18 pI,a 18,.bx 23 pX,a 23,w 123 vr,w 124 vi,w 125 vi,w 138 vl,w 139 vi,w 140 vi]) pD))) .o))) .o) .o)))))) pN)))))))),[(28,145),(53,142),(76,148),(114,105),(163,110)],none⟩
noncomputable def s59:AM.Spec:=⟨⟨59,pG,[(true,pK),(false,[vb])]⟩,Tryz.f59,.s .o (.s .o (.s (.s (.j [b 2 vl,a 2,.bx 4 pI,a 4,c 6,a 6,w 36 vb] .o) pC) (.s .o (.s .o (.s .o (.s (.s .o (.j (p2++[a 6,w 9 wl,.bx 10 pI,a 10]) (.j (p2++[a 6,w 9 wl,.bx 10 pI,a 10,.rf 45 (.tmp 9) 0 false 1,w 46 vi,w 47 vi]) pD))) (.s (.s .o (.j (p2++[a 6,w 9 wl,.bx 10 pZ,a 10]) (.j (p2++[a 6,w 9 wl,.bx 10 pZ,a 10,.rf 58 (.tmp 9) 0 false 1,w 59 vi,w 60 vi]) (.s .o (.s oo (.s (.s (.s .o (.s .o (.j (p2++[a 6,w 9 wl,.bx 10 pZ,a 10,.rf 58 (.tmp 9) 0 false 1,w 59 vi,w 60 vi]) oo))) .o) .o)))))) (.s (.s .o (.j [b 2 vl,a 2,.bx 4 pI,a 4,.bx 10 pZ,a 10] (.j (p2++[w 9 wl,.bx 10 pZ,a 10,.rf 76 (.box 6) 2 false 1,w 77 vi,w 78 vi]) (.s .o (.s oo (.s (.s (.s .o (.s .o (.s (.s .o (.j (p2++[w 9 wl,.bx 10 pZ,a 10,.bx 17 pX,a 17,.rf 76 (.box 6) 2 false 1,w 77 vi,w 78 vi]) (.j (p2++[w 9 wl,.bx 10 pZ,a 10,.bx 17 pX,a 17,.rf 76 (.box 6) 2 false 1,w 77 vi,w 78 vi,w 91 vl,w 92 vi,w 93 vi]) pD))) .o))) .o) .o)))))) oo)))))))),[(23,24),(24,102),(35,57),(40,103),(43,104),(68,105),(72,106),(116,24),(117,107)],none⟩
noncomputable def s61:AM.Spec:=⟨⟨61,pU,[(false,[vb]),(false,[vb])]⟩,Tryz.f61,.s .o (.s .o (.s .o (.s (.j [w 6 vb,w 7 vb] .o) .o))),[(14,59),(20,59),(30,14)],none⟩
noncomputable def s21:AM.Spec:=⟨⟨21,pU,[(false,[vb]),(false,[vb])]⟩,Tryz.f21,.s .o oo,[(11,61)],none⟩
noncomputable def g4:AM.Sig:=⟨4,[.val true [vl],.val true [vi,vl,vr],.val true [vi,vl,vr]],[(false,[vb])]⟩
noncomputable def s4:AM.Spec:=⟨g4,Tryz.f4,.s .o (.s pL (.s .o (.s (.s (.s (.j [b 3 vl,a 3,c 4,a 4,c 5,a 5,w 7 vb,w 8 vi,w 25 vb] .o) (.s (.s (.j [w 6 vb] .o) .o) (.s .o (.s (.s (.j [w 6 vb] .o) .o) (.s .o (.s oo pL)))))) .o) (.s .o (.s (.j [w 6 vb] .o) .o))))),[(15,11),(17,12),(22,20),(28,16),(33,16),(39,12),(46,17),(51,17),(55,12),(65,18),(67,12),(72,21),(83,12)],none⟩
noncomputable def Nj:List (Nat×AM.Spec):=[(43,s43),(11,s11),(45,s45),(149,akw),(1001,aiX),(1000,aiW),(108,aj6),(109,aj7),(60,s60),(171,akB),(137,akm),(96,s96),(125,akd),(89,s89),(116,akc),(85,s85),(133,akk),(131,aki),(132,akj),(1003,aiZ),(1002,aiY),(92,s92),(130,akh),(1005,ai1),(1004,ai0),(1006,ai2),(124,aiw),(87,s87),(88,s88),(86,s86),(49,s49),(139,akn),(1007,ai3),(99,s99),(91,s91),(74,s74),(75,s75),(1008,ai4),(189,akD),(167,akz),(168,akA),(126,ake),(94,s94),(127,akf),(129,akg),(1010,ai6),(1009,ai5),(90,s90),(51,s51),(52,s52),(93,s93),(134,akl),(1011,ai7),(95,s95),(97,s97),(53,s53),(78,s78),(98,s98),(54,s54),(55,s55),(15,s15),(50,s50),(14,s14),(12,s12),(46,s46),(48,s48),(1012,ai8),(13,s13),(20,s20),(56,s56),(16,s16),(23,s23),(111,aj9),(64,s64),(151,aky),(150,akx),(110,aj8),(63,s63),(24,s24),(101,ajX),(58,s58),(83,s83),(57,s57),(17,s17),(41,s41),(18,s18),(142,akp),(143,akq),(105,aj1),(106,aj2),(112,akb),(144,akr),(141,ako),(66,s66),(102,ajY),(103,ajZ),(180,akC),(145,aks),(148,akv),(146,akt),(147,aku),(104,aj0),(107,aj3),(59,s59),(61,s61),(21,s21),(4,s4)]
noncomputable def YH (g:Nat):Option (List CV):=bif Nat.beq g 0 then some [⟨.sl [.int .i64],.pure,([0,0,2]:List Int)⟩]else bif Nat.beq g 2 then some [⟨.int .u64,.pure,(1:Int)⟩,⟨.int .u64,.pure,(10:Int)⟩,⟨.int .u64,.pure,(100:Int)⟩,⟨.int .u64,.pure,(1000:Int)⟩,⟨.int .u64,.pure,(10000:Int)⟩,⟨.int .u64,.pure,(100000:Int)⟩,⟨.int .u64,.pure,(1000000:Int)⟩,⟨.int .u64,.pure,(10000000:Int)⟩,⟨.int .u64,.pure,(100000000:Int)⟩,⟨.int .u64,.pure,(1000000000:Int)⟩,⟨.int .u64,.pure,(10000000000:Int)⟩,⟨.int .u64,.pure,(100000000000:Int)⟩,⟨.int .u64,.pure,(1000000000000:Int)⟩,⟨.int .u64,.pure,(10000000000000:Int)⟩,⟨.int .u64,.pure,(100000000000000:Int)⟩,⟨.int .u64,.pure,(1000000000000000:Int)⟩,⟨.int .u64,.pure,(10000000000000000:Int)⟩,⟨.int .u64,.pure,(100000000000000000:Int)⟩,⟨.int .u64,.pure,(1000000000000000000:Int)⟩,⟨.int .u64,.pure,(10000000000000000000:Int)⟩]else none
noncomputable def prg:AM.Prg:=⟨QD ain,YH,ah7 s43 Nj⟩
theorem ajH:adi Tryz.prog s43:=⟨Tryz.func43,by kernel_rfl,by kernel_rfl⟩
theorem ahC:adi Tryz.prog aiw:=⟨Tryz.func124,by kernel_rfl,by kernel_rfl⟩
theorem ajK:adi Tryz.prog s87:=⟨Tryz.func87,by kernel_rfl,by kernel_rfl⟩
theorem ajL:adi Tryz.prog s88:=⟨Tryz.func88,by kernel_rfl,by kernel_rfl⟩
theorem ajJ:adi Tryz.prog s86:=⟨Tryz.func86,by kernel_rfl,by kernel_rfl⟩
theorem ajI:adi Tryz.prog s49:=⟨Tryz.func49,by kernel_rfl,by kernel_rfl⟩
theorem aiJ: ∀i,adi Tryz.prog (prg.spec i):=GZ ajH Nj (by
 intro x d;simp only[Nj,aaQ,ab9,or_false]at d;rcases d with rfl|rfl|rfl|rfl|rfl|rfl|rfl|rfl|rfl|rfl|rfl|rfl|rfl|rfl|rfl|rfl|rfl|rfl|rfl|rfl|rfl|rfl|rfl|rfl|rfl|rfl|rfl|rfl|rfl|rfl|rfl|rfl|rfl|rfl|rfl|rfl|rfl|rfl|rfl|rfl|rfl|rfl|rfl|rfl|rfl|rfl|rfl|rfl|rfl|rfl|rfl|rfl|rfl|rfl|rfl|rfl|rfl|rfl|rfl|rfl|rfl|rfl|rfl|rfl|rfl|rfl|rfl|rfl|rfl|rfl|rfl|rfl|rfl|rfl|rfl|rfl|rfl|rfl|rfl|rfl|rfl|rfl|rfl|rfl|rfl|rfl|rfl|rfl|rfl|rfl|rfl|rfl|rfl|rfl|rfl|rfl|rfl|rfl|rfl|rfl|rfl|rfl|rfl|rfl|rfl|rfl|rfl
 all_goals refine⟨?_,by kernel_rfl,by kernel_rfl⟩
 exact Tryz.func43;exact Tryz.func11;exact Tryz.func45;exact Tryz.func149;exact Tryz.func169;exact Tryz.func128;exact Tryz.func108;exact Tryz.func109;exact Tryz.func60;exact Tryz.func171;exact Tryz.func137;exact Tryz.func96;exact Tryz.func125;exact Tryz.func89;exact Tryz.func116;exact Tryz.func85;exact Tryz.func133;exact Tryz.func131;exact Tryz.func132;exact Tryz.func169;exact Tryz.func128;exact Tryz.func92;exact Tryz.func130;exact Tryz.func169;exact Tryz.func128;exact Tryz.func100;exact Tryz.func124;exact Tryz.func87;exact Tryz.func88;exact Tryz.func86;exact Tryz.func49;exact Tryz.func139;exact Tryz.func138;exact Tryz.func99;exact Tryz.func91;exact Tryz.func74;exact Tryz.func75;exact Tryz.func116;exact Tryz.func189;exact Tryz.func167;exact Tryz.func168;exact Tryz.func126;exact Tryz.func94;exact Tryz.func127;exact Tryz.func129;exact Tryz.func169;exact Tryz.func128;exact Tryz.func90;exact Tryz.func51;exact Tryz.func52;exact Tryz.func93;exact Tryz.func134;exact Tryz.func135;exact Tryz.func95;exact Tryz.func97;exact Tryz.func53;exact Tryz.func78;exact Tryz.func98;exact Tryz.func54;exact Tryz.func55;exact Tryz.func15;exact Tryz.func50;exact Tryz.func14;exact Tryz.func12;exact Tryz.func46;exact Tryz.func48;exact Tryz.func47;exact Tryz.func13;exact Tryz.func20;exact Tryz.func56;exact Tryz.func16;exact Tryz.func23;exact Tryz.func111;exact Tryz.func64;exact Tryz.func151;exact Tryz.func150;exact Tryz.func110;exact Tryz.func63;exact Tryz.func24;exact Tryz.func101;exact Tryz.func58;exact Tryz.func83;exact Tryz.func57;exact Tryz.func17;exact Tryz.func41;exact Tryz.func18;exact Tryz.func142;exact Tryz.func143;exact Tryz.func105;exact Tryz.func106;exact Tryz.func112;exact Tryz.func144;exact Tryz.func141;exact Tryz.func66;exact Tryz.func102;exact Tryz.func103;exact Tryz.func180;exact Tryz.func145;exact Tryz.func148;exact Tryz.func146;exact Tryz.func147;exact Tryz.func104;exact Tryz.func107;exact Tryz.func59;exact Tryz.func61;exact Tryz.func21;exact Tryz.func4)
theorem ajd:xU Tryz.prog prg.ty:=ag6 (by kernel_rfl)
theorem ajV:ahl Tryz.prog prg.ty:=agk (by kernel_rfl)
theorem mixed:Tryz.prog.follows .mixedOrders=true:=by kernel_rfl
end Go.Proofs.YtdchbjmbgecejaaGreatDoor.Am
end
