import Derived.Test.YtdchbjmbgecejaaGreatDoorPq
import Derived.Test.YtdchbjmbgecejaaGreatDoorMs
noncomputable section
namespace Go.Proofs.YtdchbjmbgecejaaGreatDoor.Am
open Go Go.AM Go.Bk
set_option maxRecDepth 100000
set_option linter.unusedVariables false
theorem WQ (l:List Int) (h:l.length≤au):Sp aY l (fun r=>r=l):=Sp.step (G:=fun n=>Ig) qL ⟨l,rfl,.all fun n=>by simp only[Ig,decide_eq_true h,cond_true]⟩
theorem YU (l:List Int) (h:l.length≤1000000):Sp eP l (fun r=>r=(l,l)):=Sp.step (G:=fun n=>yG) oI ⟨(l,l),rfl,.all fun n=>by
 have:l.length≤au:=by have:=gq;omega
 simp only[yG,decide_eq_true this,cond_true]⟩
theorem wrap64 (n:Int):IntKind.wrap .u64 n=n % 18446744073709551616:=by simp[IntKind.wrap,IntKind.bits,IntKind.signed]
theorem aao (x:List Int) (u:Nat) (hx:x.length≤2000000000) (hu:u<18446744073709551616):Sp bW (x,(u:Int),(10:Int)) (fun r=>r=x++AV 20 u):=
 Sp.step (G:=fun n=>oZ) mG ⟨_,rfl,.all fun n=>by
  have h1:(0:Int)≤(u:Int):=by omega
  have h2:(u:Int)<18446744073709551616:=by omega
  simp only[oZ,decide_true,decide_eq_true h1,decide_eq_true h2,decide_eq_true hx,Bool.and_true,cond_true,Int.toNat_natCast]⟩
theorem acB:aes aW:=fun b v hb hv=>by
 have hm:=gq
 have hv1: -9223372036854775808≤v:=hv.1
 have hv2:v<9223372036854775808:=hv.2
 refine Sp.step uP (G:=fun n=>jO.P (dG n) n) ?_
 show Tt (fun n=>jO.P (dG n) n (b,v,(10:Int))) _
 unfold jO.P
 refine Tt.bind (R:=fun r=>r=b++dig v) (Sp.step nI (G:=fun n=>eU.P (bW n) n) ?_) fun r hr=>Tt.pure hr
 show Tt (fun n=>eU.P (bW n) n (b,v,(10:Int))) _
 unfold eU.P
 dsimp only
 by_cases hn:v<0
 ·obtain⟨u,rfl⟩: ∃u:Nat,v= -(u:Int):=⟨v.natAbs,by omega⟩
  have hw:IntKind.wrap .u64 (0-IntKind.wrap .u64 (-(u:Int)))=(u:Int):=by
   rw[wrap64,wrap64];omega
  have hd:dig (-(u:Int))=45::AV 20 u:=by unfold dig;rw[decide_eq_true hn,cond_true,Int.natAbs_neg,Int.natAbs_natCast]
  have hl:List.length b+List.length ([(45:Int)]:List Int)≤au:=by simp only[List.length_singleton];omega
  simp only[decide_eq_true hn,cond_true,decide_eq_true hl,hw]
  refine Tt.ay (Tt.bind (aao (List.append b [45]) u (by simp only[List.append_eq,List.length_append,List.length_singleton];omega) (by omega)) fun r hr=>Tt.pure ?_)
  rw[hr,hd];simp
 ·obtain⟨u,rfl⟩: ∃u:Nat,v=(u:Int):=⟨v.toNat,by omega⟩
  have hw:IntKind.wrap .u64 (u:Int)=(u:Int):=by rw[wrap64];omega
  have hd:dig (u:Int)=AV 20 u:=by unfold dig;rw[decide_eq_false hn,cond_false,Int.toNat_natCast]
  simp only[decide_eq_false hn,cond_false,hw]
  refine Tt.ay (Tt.bind (aao b u (by omega) (by omega)) fun r hr=>Tt.pure ?_)
  rw[hr,hd]
theorem abm:SortI ig:=fun x hx=>Sp.step (G:=fun n=>Tj) sF ⟨Ef (fun a b=>decide (a≤b)) x,⟨(kD _ x).length_eq,fun y=>(kD _ x).mem_iff⟩,.all fun n=>by
 have:x.length≤au:=by have:=gq;omega
 simp only[Tj,decide_eq_true this,cond_true]⟩
theorem aaI:acw aJ:=fun x hx h1 h2=>Sp.step (G:=fun n=>xZ) fQ ⟨Ef (fun p q=>decide (p.1≤q.1)) x,⟨(kD _ x).length_eq,fun y=>(kD _ x).mem_iff⟩,.all fun n=>by
 have hl:x.length≤au:=by have:=gq;omega
 have ha:(x.all fun p=>decide (0≤p.1)&&decide (p.1≤1000000000000)&&x.all fun q=> !decide (p.1=q.1)||decide (p.2=q.2))=true:=by
  simp only[List.all_eq_true,Bool.and_eq_true,decide_eq_true_eq,Bool.or_eq_true,Bool.not_eq_true',decide_eq_false_iff_not]
  intro p hp
  obtain⟨a,b⟩:=h1 p hp
  refine⟨⟨a,by omega⟩,fun q hq=> ?_⟩
  by_cases e:p.1=q.1
  ·exact .inr (by rw[h2 p hp q hq e])
  ·exact .inl e
 simp only[xZ,decide_eq_true hl,ha,Bool.and_true,cond_true]⟩
theorem Yv:Gl dQ:=fun x hx h1=>Sp.step (G:=fun n=>vH) wB ⟨Ef (fun p q=>decide (JU p q≤0)) x,⟨Nat.le_of_eq (kD _ x).length_eq,fun y=>(kD _ x).mem_iff⟩,.all fun n=>by
 have hl:x.length≤au:=by have:=gq;omega
 have ha:(x.all fun p=>decide (List.length p.2.1≤1000))=true:=by
  simp only[List.all_eq_true,decide_eq_true_eq]
  intro p hp
  have:=h1 p hp;omega
 simp only[vH,decide_eq_true hl,ha,Bool.and_true,cond_true]⟩
theorem acf (x y:Int):Sp dO (x,y) (fun v=>v=KQ x y):=Sp.step xM (Z7 (fun z=>Sp.step zX (U6 z)) x y)
theorem WL:adt pK:=Xr fun x y hx=>Sp.step FN (QM acf (fun xs h=>Sp.step FC (aap xs h)) (fun xs ys h=>Sp.step pO (Ih acf xs ys h)) x y hx)
theorem Oi:Gl gU:=fun x h1 h2=>Sp.step DN (Xm Yv (fun X hX=>Sp.step su (Wh WL (fun x y hx hy=>Sp.step Aq (Wx WL x y hx hy)) hX)) x h1 h2)
theorem abH:adf fJ:=fun x hx=>Sp.step pU (Um hx)
theorem ab1:ZT aG:=fun l m x h hl=>Sp.step tH (acd l m x h hl)
theorem adE:YD aQ (!·):=fun S l R h1 h2 h3=>Sp.step gW (WI zD iJ S l R h1 h2 h3)
theorem aex:YD aT (!·):=fun S l R h1 h2 h3=>Sp.step iE (abE Dw iU S l R h1 h2 h3)
theorem ad4:YD aN id:=fun S l R h1 h2 h3=>Sp.step gJ (XJ yS iC S l R h1 h2 h3)
theorem UL:NW jK:=fun S fin rs hw=>Sp.step DF (YI ab1 adE S fin rs hw ((Sp.step yT (Q5 ab1 S fin rs hw)).mono fun R hR=>⟨hR.1,fun r hr h=>EG.2 (hR.2 r hr fun s hs=>EG.1 (h s hs))⟩))
theorem aaj:aa9 lW:=fun S fin rs keep hw hk=>Sp.step JC (abC Oi aex S fin rs keep hw hk)
theorem abV (S:Int) (fin:List Int) (rs:List Rule) (hw:Wf S fin rs):Sp qX (S,fin,rs) (U2 S fin rs):=Sp.step JR (aaw aaj UL S fin rs hw)
theorem Ym:ZF kJ:=acC FM
theorem acD (s:Int) (l:List Int) (hs:I64 s) (hl: ∀q∈l,I64 q) (h:l.length≤1000000):Sp kE (s,l) (fun r=>r=OM s l):=Sp.step LM (abS acB s l hs hl h)
theorem ad7 (s:Int) (l:List Int) (hs:I64 s) (hl: ∀q∈l,I64 q) (h:l.length≤1000000):Sp mY (s,l) (fun r=>r=OM s l):=Sp.step LX (by
 show Tt (fun n=>Ep.P (kE n) n (s,l)) _
 unfold Ep.P
 exact Tt.bind (acD s l hs hl h) fun r hr=>Tt.pure hr)
theorem tX (al:List Int) (h:al.length≤au):Sp eF al (fun r=>r=true ↔ abQ al):=
 Sp.step tN (zQ (Sp.step qJ (JL (Sp.step uS (QF (fun x=>Sp.step qP (yB x)) al h)))))
theorem Aa (al:List Int) (S:Int) (fin:List Int) (rs:List Rule) (h0:al.length≤au) (h1:fin.length≤au) (h2:rs.length≤au) (h3: ∀r∈rs,r.2.1.length≤au):Sp dP (al,S,fin,rs) (fun r=>r=true ↔ gY al (S,fin,rs)):=
 Sp.step F7 (NR (fun x S f rs=>Sp.step CB (JO x S f rs)) tX al S fin rs h0 h1 h2 h3)
end Go.Proofs.YtdchbjmbgecejaaGreatDoor.Am
end
noncomputable section
namespace Go.Proofs.YtdchbjmbgecejaaGreatDoor.Am
open Go Go.AM Go.Bk
set_option maxRecDepth 100000
set_option linter.unusedVariables false
theorem Xq (s:List Int) (hs:yF s):Sp kX s (fun r=>r=keyS s):=Sp.step Ac (V9 s hs)
theorem ach (s:List Int) (v:Int) (hs:yF s) (h0:0≤v) (h8:v<8):Sp dA (s,v) (fun r=>r=CU s v):=Sp.step sQ (aa3 s v hs h0 h8)
theorem ac2 (s:List Int) (hs:yF s):Sp iP s (fun r=>r.length≤64∧ ∀v,v∈r ↔ 0≤v∧v<8∧CU s v=true):=Sp.step yR (aaO sQ s hs)
theorem Jf {S:Int} {fin:List Int} {rs:List Rule} (hw:Wf S fin rs):fin.length≤au∧rs.length≤au∧ ∀r∈rs,r.2.1.length≤au:=by
 have hm:=gq
 obtain⟨_,_,h1,h2,_,h3⟩:=hw
 exact⟨by omega,by omega,fun r hr=>by have:=(h3 r hr).2.2;omega⟩
theorem Xb (al:List Int) (S:Int) (fin:List Int) (rs:List Rule) (h:al.length≤au) (hw:Wf S fin rs):Sp dP (al,S,fin,rs) (fun r=>r=true ↔ gY al (S,fin,rs)):=
 Aa al S fin rs h (Jf hw).1 (Jf hw).2.1 (Jf hw).2.2
theorem abp {al:List Int} {S:Int} {fin:List Int} {rs:List Rule} (hv:gY al (S,fin,rs)) (hS:S≤8):ae8 al S fin rs bD:=by
 intro by_ sym rank hsym hrank old done ho hod idx fresh full sets m rl hds hok hil hidx
 have hw:=hv.wf
 have hrl:rs.length≤100000:=hw.2.2.2.1
 have hr3:rank≤3:=by
  obtain⟨h1,h2⟩:=List.getElem?_eq_some_iff.1 hrank
  have:=(hv.1.2 _ h1).2
  rw[h2]at this;omega
 refine Zi tu ach YU al S fin rs by_ hS hrl (fun r hr=>⟨(hw.2.2.2.2.2 r hr).1,(hw.2.2.2.2.2 r hr).2.1⟩) hv.ar
  (fun sets m rl old done full idx h1 h2 h3 h4 h5=>Sp.step xO (ad1 Xq S fin rs by_ sets m rl old done full idx hS h1 h2 h3 h4 h5))
  sym rank hsym hrank hr3 old done ho hod rank [] idx fresh full sets m rl (by simp) (fun x hx=>by cases hx) hds hok hil fun v=> ?_
 rw[hidx]
 constructor
 ·rintro⟨r,h1,h2⟩
  exact⟨r,h1,h2,fun j x q hj=>by simp at hj⟩
 ·rintro⟨r,h1,h2,_⟩
  exact⟨r,h1,h2⟩
theorem ae9 (al:List Int) (S:Int) (fin:List Int) (rs:List Rule) (hv:gY al (S,fin,rs)):Sp pX (al,S,fin,rs) (aaC al rs):=
 Sp.step PU (adD al S fin rs (by have:=hv.1.1;omega) hv.wf.2.2.2.1 fun r hr=>⟨(hv.rule hr).1,(hv.rule hr).2.1⟩)
theorem Zz (al:List Int) (hal:al.length≤au) (S:Int) (fin:List Int) (rs:List Rule) (hS:S≤8) (hw:Wf S fin rs):Sp mX (al,S,fin,rs) (fun r=>r.2.2.2.2=0→Vo fin rs (r.1,r.2.1,r.2.2.1)):=
 Sp.step BO (XQ Ym Oi ac2 ad4 al S fin rs hS (Xb al S fin rs hal hw) (ae9 al S fin rs) fun hv=>abp hv hS)
theorem adT (al:List Int) (S:Int) (fin:List Int) (rs:List Rule) (hv:gY al (S,fin,rs)) (hS:S≤8):Sp qY (al,S,fin,rs) (fun r=>r.2.2.2=0→Vo fin rs (r.1,r.2.1,r.2.2.1)):=by
 have hm:=gq
 have hal:al.length≤au:=by have:=hv.1.1;omega
 have hw:=hv.wf
 have hV:=Xb al S fin rs hal hw
 exact Sp.step Jm (adk al S fin rs hv hS (Sp.step JD (abf WQ S fin rs (Jf hw).1 (Jf hw).2.1 (Jf hw).2.2)) (Sp.step tK (Gy acD al S fin rs hV)) (Sp.step IU (aaS aaj UL al S fin rs hv hV))
  fun S' fin' rs' h1 h2=>Zz al hal S' fin' rs' h1 h2)
theorem afQ (x:List Bool) (h:x.length≤1000000):Sp jB x (aad x):=Sp.step wG (KA x h)
theorem afw (x:List ByteArray) (h:x.length≤1000000):Sp fC x (aad x):=Sp.step tJ (GH x h)
theorem abX (S:Int) (fin:List Int) (rs:List Rule) (hw:Wf S fin rs) (hsy:Sy rs) (hd:Det rs):Sp rE (S,fin,rs) (fun x=> ∃U,x=rows U∧adl S rs U):=
 Sp.step IX (aaF ad7 (fun l h=>WQ l (by have:=gq;omega)) aaI S fin rs hw hsy hd)
theorem Yg (S:Int) (fin:List Int) (rs:List Rule) (hw:Wf S fin rs) (hS:S≤300) (hsy:Sy rs) (hd:Det rs):Sp mQ (S,fin,rs) (fun cl=>cl.length=S.toNat∧(∀v∈cl,iy S v)∧ZH S fin rs (iat cl)):=
 Sp.step BL (VX Ym afQ afw acB S fin rs hw hS (abX S fin rs hw hsy hd))
theorem Zx:ae3 mg:=fun S fin rs m to hw hto=>Sp.step DU (YB Oi abH abm S fin rs hw m to hto)
theorem XE (al:List Int) (S:Int) (fin:List Int) (rs:List Rule) (hv:gY al (S,fin,rs)) (hS:S≤8):Sp jq (al,S,fin,rs) (fun r=>r.2.2.2=0→Yy fin rs (r.1,r.2.1,r.2.2.1)):=
 Sp.step Ci (Vq abV (fun S fin rs hw=>Sp.step BR (XA Yv S fin rs hw)) Yg Zx al S fin rs (adT al S fin rs hv hS))
theorem Ai (al:List Int) (hal:al.length≤au) (t:RT Int) (hn:nds t≤1000000000):Sp lK (al,t.a,t.kids) (fun _=>True):=
 Sp.step QA (OH (tX al hal) ((Yj Ny al t hn 300 (by omega) (by omega)).mono fun _ _=>trivial))
theorem Ze (al:List Int) (hal:al.length≤au) (S:Int) (fin:List Int) (rs:List Rule) (h1:fin.length≤au) (h2:rs.length≤au) (h3: ∀r∈rs,r.2.1.length≤au) (t:RT Int) (hs:Shp al t) (hn:nds t≤1000000000):
 Sp qc (al,S,fin,rs,t.a,t.kids) (fun r=>r.2=0→ ∀q,q∈r.1 ↔ Bk.Reach rs t q):=
 Sp.step Oy (WV al S fin rs t (Sp.step Rw (YT (Aa al S fin rs hal h1 h2 h3) (Ai al hal t hn))) (ae9 al S fin rs) fun hv by_ hby=>aav Ui al S fin rs by_ hv.wf hv.ar hby t hs hn)
theorem aaU (b:List Int) (S:Int) (fin:List Int) (rs:List Rule) (hf:TJ b (S,fin,rs)):
 ∃M:Aut,∀t:RT Int,Shp b t→nds t≤1100000→Sp pV (b,S,fin,rs,t.a,t.kids) (fun r=>r.2=0→gY b (S,fin,rs)∧Yy fin rs M∧RU M t r.1):=by
 have hm:=gq
 obtain⟨f1,f2,f3,f4,f5⟩:=hf
 have hal:b.length≤au:=by omega
 dsimp only at f2 f3 f4 f5
 have hV:=Aa b S fin rs hal (by omega) (by omega) fun r hr=>by have:=f5 r hr;omega
 by_cases hv:gY b (S,fin,rs)
 ·have hS:S≤8:=by have:=hv.2.2.1;dsimp only at this;omega
  obtain⟨rM,hM,hev⟩:=XE b S fin rs hv hS
  refine⟨(rM.1,rM.2.1,rM.2.2.1),fun t hs hn=> ?_⟩
  refine(Sp.step FH (Uy b S fin rs t rM hV (Ai b hal t (by omega)) (fun _=>⟨rM,rfl,hev⟩) (fun _ h=>hM h) fun _ h0=> ?_)).mono fun r hr h0=>⟨(hr h0).1,hM (hr h0).2.1,(hr h0).2.2⟩
  obtain⟨_,_,_,g1,g2,g3⟩:=hM h0
  dsimp only at g1 g2 g3
  exact Ze b hal _ _ _ (by omega) (by omega) (fun r hr=>by have:=g3 r hr;omega) t hs (by omega)
 ·refine⟨(0,[],[]),fun t hs hn=> ?_⟩
  exact(Sp.step FH (Uy b S fin rs t (0,[],[],0) hV (Ai b hal t (by omega)) (fun h=>absurd h hv) (fun h=>absurd h hv) fun h=>absurd h hv)).mono fun r hr h0=>absurd (hr h0).1 hv
theorem agc (al:List Int) (S:Int) (fin:List Int) (rs:List Rule) (h1:rs.length+1≤au) (har:Ar al rs) (t:RT Int) (hn:nds t≤au) (hs:Shp al t):
 Sp mV (S,fin,rs,t.a,t.kids) (fun l=>(∀q,q∈l ↔ Bk.Reach rs t q)∧l.length≤rs.length):=
 aek Vp al S fin rs h1 har (fun s qs h2 h3 h4=>Sp.step Q7 (aa0 (fun l v h=>Sp.step Lh (acR l v h)) (fun l v h=>Sp.step J6 (WH l v h)) S fin rs s qs h1 h2 h3 h4)) t hn hs
theorem adF (al:List Int) (S:Int) (fin:List Int) (rs:List Rule) (h1:rs.length+1≤au) (h2:fin.length≤au) (har:Ar al rs) (t:RT Int) (hn:nds t≤au) (hs:Shp al t):
 Sp qV (S,fin,rs,t.a,t.kids) (fun r=>r=true ↔ Acc rs fin t):=
 Sp.step TS (abU (by omega) h2 (fun l1 l2 h1 h2=>Sp.step Qk (abK (fun l v h=>Sp.step Lh (acR l v h)) l1 l2 h1 h2)) (agc al S fin rs h1 har t hn hs))
theorem aat (t:RT Int) (h:nds t≤au) (m:Int) (h0:0≤m) (h1:m≤1000):Sp jh (t.a,t.kids,m) (fun r=>1≤r∧r≤m+1):=Zj Ou t h m h0 h1
theorem Js (t:RT Int) (h:nds t≤au) (m:Int) (h0:0≤m) (h1:m≤1000):Sp lZ (t.a,t.kids,m) (fun _=>True):=Sp.step Ut (QW (aat t h m h0 h1))
theorem OL (al:List Int) (t:RT Int) (h:nds t≤au):Sp oh (al,t.a,t.kids) (fun r=>r=true→Shp al t):=
 Sp.step Nq (KO (Js t h 300 (by omega) (by omega)) (Sp.step zM (y5 al)) (Yk J3 al t h))
theorem TD (b:List Int) (S:Int) (fin:List Int) (rs:List Rule) (t x:RT Int) (pos:List Int) (hnt:nds t≤1100000) (hnx:nds x≤1100000) (hr:rs.length≤1100000):
 Sp xU (b,S,fin,rs,t.a,t.kids,x.a,x.kids,pos) (fun r=>r=true):=by
 have hm:=gq
 have hFw:Sp vC (b,[(S,fin,rs)]) (fun r=>r=true→TJ b (S,fin,rs)):=by
  refine(Sp.step TK (Qg (Sp.step SV (Po b [(S,fin,rs)] (by simp only[List.length_singleton];omega) fun c hc=> ?_)))).mono fun r hr h=>hr h _ (List.mem_singleton.2 rfl)
  rw[List.mem_singleton.1 hc];dsimp only;omega
 refine Sp.step E8 (O6 b S fin rs t x pos hnt hnx aaA hFw (fun t h=>Js t (by omega) 400 (by omega) (by omega)) (fun t h=>OL b t (by omega)) (fun h=>Sp.step P6 (ZV t pos h))
  (fun u hu h=>Lu Jv x pos t u hu (by omega) h) (fun hv t hs hn=> ?_) (aaU b S fin rs))
 have hw:=hv.wf
 exact adF b S fin rs (by have:=hw.2.2.2.1;dsimp only at this;omega) (Jf hw).1 hv.ar t (by omega) hs
end Go.Proofs.YtdchbjmbgecejaaGreatDoor.Am
end
