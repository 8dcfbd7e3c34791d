import Derived.Calls
import Derived.Laws.Entries
import Derived.Laws.AppendOwn
import Derived.Deep.MidRow
import Derived.Great.BuildSlice
section
namespace Go.AM
inductive Sh where
 |int (k:IntKind)|bool|str|sl (es:List Sh)|rsl (ss:List Sh)|dl (es:List Sh)|mp (k e:Sh)
inductive RT (α:Type) where
 |mk (a:α) (kids:List (RT α))
def RT.a {α:Type}:RT α→α| .mk a _=>a
def RT.kids {α:Type}:RT α→List (RT α)| .mk _ ks=>ks
mutual
def El:Sh→Type
 | .int _=>Int
 | .bool=>Bool
 | .str=>ByteArray
 | .sl es=>List (ElA es)
 | .rsl ss=>List (RT (ElA ss))
 | .dl es=>List (Option (ElA es))
 | .mp k e=>Option (List (El k×El e))
def ElA:List Sh→Type
 | []=>Unit
 |s::ss=>match ss with
  | []=>El s
  |_::_=>El s×ElA ss
end
mutual
def Sh.beq:Sh→Sh→Bool
 | .int k,.int k'=>decide (k=k')
 | .bool,.bool=>true
 | .str,.str=>true
 | .sl es,.sl es'=>Sh.Hq es es'
 | .rsl es,.rsl es'=>Sh.Hq es es'
 | .dl es,.dl es'=>Sh.Hq es es'
 | .mp k e,.mp k' e'=>Sh.beq k k'&&Sh.beq e e'
 |_,_=>false
def Sh.Hq:List Sh→List Sh→Bool
 | [],[]=>true
 |s::ss,t::ts=>Sh.beq s t&&Sh.Hq ss ts
 |_,_=>false
end
theorem Sh.eq_of_beq: ∀{a b:Sh},Sh.beq a b=true→a=b:=by
 intro a
 induction a using Sh.rec (motive_2:=fun aZ=> ∀bs,Sh.Hq aZ bs=true→aZ=bs)with
 |int k=>intro b;cases b<;>simp[Sh.beq]
 |bool=>intro b;cases b<;>simp[Sh.beq]
 |str=>intro b;cases b<;>simp[Sh.beq]
 |sl es ih=>intro b;cases b<;>simp[Sh.beq];exact fun h=>ih _ h
 |rsl es ih=>intro b;cases b<;>simp[Sh.beq];exact fun h=>ih _ h
 |dl es ih=>intro b;cases b<;>simp[Sh.beq];exact fun h=>ih _ h
 |mp k e ih1 ih2=>intro b;cases b<;>simp[Sh.beq];exact fun h h'=>⟨ih1 h,ih2 h'⟩
 |nil=>rename_i bs h;cases bs<;>simp[Sh.Hq]at h ⊢
 |cons s ss ih1 ih2=>rename_i bs h;cases bs<;>simp[Sh.Hq]at h ⊢;exact⟨ih1 h.1,ih2 _ h.2⟩
inductive Tg where
 |pure|own|tip|dead
def Tg.le:Tg→Tg→Bool
 | .dead,_=>true
 | .pure,b=>match b with| .dead=>false|_=>true
 | .tip,b=>match b with| .tip=>true| .own=>true|_=>false
 | .own,b=>match b with| .own=>true|_=>false
def Sh.top:Sh→Tg
 | .sl _=> .own
 | .rsl _=> .own
 | .dl _=> .own
 | .mp _ _=> .own
 |_=> .pure
def Tg.isPure:Tg→Bool| .pure=>true|_=>false
def Tg.Dv:Tg→Bool| .own=>true|_=>false
def Sh.oN:Sh→Bool
 | .sl _=>true
 | .rsl _=>true
 | .dl _=>true
 |_=>false
def Sh.oG:Sh→Bool
 | .sl _=>true
 | .rsl _=>true
 |_=>false
def Sh.base:Sh→Sh
 | .dl es=> .sl es
 |s=>s
def Sh.deep:Sh→Sh
 | .sl es=>bif es.any Sh.oN then .dl es else .sl es
 |s=>s
def Sh.Zp:Sh→Bool
 | .dl _=>true
 |_=>false
def Sh.Hr:Sh→Bool
 | .mp _ _=>true
 |_=>false
def Sh.YM:Sh→Tg→Bool
 | .dl _,.own=>true
 | .dl _,.dead=>true
 | .dl _,_=>false
 | .mp _ _,.own=>true
 | .mp _ _,.dead=>true
 | .mp _ _,_=>false
 |_,_=>true
def rowAt? {α:Type} (l:List (Option α)) (i:Nat):Option α:=(l[i]?).join
def qh {α:Type}:List (Option α)→Option (List α)
 | []=>some []
 |none::_=>none
 |some x::l=>(qh l).map (x:: ·)
structure CV where
 sh:Sh
 tg:Tg
 x:El sh
def CV.isPure (c:CV):Bool:=c.tg.isPure
def CV.kill (c:CV):CV:=⟨c.sh,.dead,c.x⟩
def CV.to (c:CV) (t:Tg):CV:=⟨c.sh,t,c.x⟩
def CV.left (c:CV):CV:=bif c.isPure then c else c.kill
def jd (c:CV) (s:Sh):Option (El s):=
 if h:Sh.beq c.sh s=true then some (cast (congrArg El (Sh.eq_of_beq h)) c.x)else none
def cellsOf:(es:List Sh)→ElA es→List CV
 | [],_=>[]
 | [s],x=>[⟨s,.pure,x⟩]
 |s::t::ss,x=>⟨s,.pure,x.1⟩::cellsOf (t::ss) x.2
def lX (es:List Sh) (x:ElA es):List CV:=(cellsOf es x).map fun c=>c.to c.sh.top
def fH:(es:List Sh)→List CV→Option (ElA es)
 | [],cs=>match cs with| []=>some ()|_=>none
 | [s],cs=>match cs with
   | [c]=>jd c s
   |_=>none
 |s::t::ss,cs=>match cs with
  |c::cs=>match jd c s,fH (t::ss) cs with
   |some y,some z=>some (y,z)
   |_,_=>none
  | []=>none
def Cc (cs:List CV):Bool:=cs.all fun c=>match c.tg with| .dead=>false|_=>true
def BG (cs:List CV):Bool:=cs.all fun c=>(match c.tg with| .dead=>false|_=>true)&& !c.sh.Zp&& !c.sh.Hr
def qI (ss:List Sh) (t:RT (ElA ss)):List CV:=cellsOf ss t.a++[⟨.rsl ss,.pure,t.kids⟩]
def vG (ss:List Sh) (cs:List CV):Option (RT (ElA ss)):=
 match fH ss (cs.take ss.length),cs.drop ss.length with
 |some a,[k]=>match jd k (.rsl ss)with|some ks=>some (.mk a ks)|none=>none
 |_,_=>none
def jR:(s:Sh)→El s
 | .int _=>(0:Int)
 | .bool=>false
 | .str=>ByteArray.empty
 | .sl _=>[]
 | .rsl _=>[]
 | .dl _=>[]
 | .mp _ _=>none
def GU (s:Sh):CV:=⟨s,s.top,jR s⟩
structure TyI where
 ag:Bool
 cells:List Sh
 fields:List (Nat×Nat)
 ftys:List TypeId
 elem:Option TypeId
inductive Root where
 |tmp (n:Nat)|box (n:Nat)
structure Pl where
 root:Root
 inst:Nat
 vers:List Nat
 cell:Nat
 sub:Option (Nat×Nat)
inductive T where
 |dead
 |undef
 |nilc
 |val (ag:Bool) (cs:List CV)
 |ref (p:Pl) (ag:Bool) (n:Nat)
 |rsub (p:Pl) (z:Bool) (lo hi:Nat)
 |addr (p:Pl)
 |rowr (p:Pl) (ag:Bool) (n:Nat)
 |addr2 (p:Pl) (k j:Nat)
 |paddr (cs:List CV) (off:Nat)
 |tup (ts:List (Bool×List CV))
 |fn (f:FuncId)
 |clo (f:FuncId) (caps:List T)
 |ext (p:Pl) (q c:CV)
structure Bx where
 inst:Nat
 cells:List (CV×Nat)
structure St where
 tm:Nat→T×Nat
 bx:Nat→Option Bx
def put {α:Type} (f:Nat→α) (n:Nat) (v:α):Nat→α:=fun m=>bif Nat.beq m n then v else f m
inductive Upd where
 |tm (n:Nat) (t:T)
 |keep (n:Nat) (t:T)
 |bx (n:Nat) (b:Bx)
 |cl (n:Nat) (l:List (Nat×CV×Nat))
def setMany {α:Type}:List α→List (Nat×α)→List α
 |cs,[]=>cs
 |cs,(i,c)::l=>setMany (cs.set i c) l
def Upd.on (s:St):Upd→St
 | .cl n l=>{s with bx:=put s.bx n ((s.bx n).map fun b=>⟨b.inst,setMany b.cells l⟩)}
 | .tm n t=>{s with tm:=put s.tm n (t,(s.tm n).2+1)}
 | .keep n t=>{s with tm:=put s.tm n (t,(s.tm n).2)}
 | .bx n b=>{s with bx:=put s.bx n (some b)}
def St.dI (s:St) (us:List Upd):St:=us.foldl Upd.on s
inductive Dyn (α:Type):Type 1 where
 |ret (a:α)
 |fail
 |chk (c:Bool) (k:Dyn α)
 |idx {β:Type} (o:Option β) (k:β→Dyn α)
def Dyn.run {α:Type}:Dyn α→Option α
 | .ret a=>some a
 | .fail=>none
 | .chk c k=>bif c then k.run else none
 | .idx o k=>o.bind fun b=>(k b).run
def Dyn.runK {α ρ:Type}:Dyn α→(α→Option ρ)→Option ρ
 | .ret a,q=>q a
 | .fail,_=>none
 | .chk c k,q=>bif c then k.runK q else none
 | .idx o k,q=>o.bind fun b=>(k b).runK q
def Dyn.bind {α β:Type}:Dyn α→(α→Dyn β)→Dyn β
 | .ret a,q=>q a
 | .fail,_=> .fail
 | .chk c k,q=> .chk c (k.bind q)
 | .idx o k,q=> .idx o fun b=>(k b).bind q
def Dyn.of {α:Type}:Option α→Dyn α
 |some a=> .ret a
 |none=> .fail
instance:Monad Dyn where
 pure:=Dyn.ret
 bind:=Dyn.bind
theorem Dyn.Un {α ρ:Type} (d:Dyn α) (q:α→Option ρ):d.runK q=d.run.bind q:=by
 induction d with
 |ret a=>rfl
 |fail=>rfl
 |chk c k ih=>cases c<;>simp[Dyn.run,Dyn.runK,ih]
 |idx o k ih=>cases o<;>simp[Dyn.run,Dyn.runK,ih]
theorem Dyn.run_bind {α β:Type} (d:Dyn α) (q:α→Dyn β):(d.bind q).run=d.run.bind fun a=>(q a).run:=by
 induction d with
 |ret a=>rfl
 |fail=>rfl
 |chk c k ih=>cases c<;>simp[Dyn.run,Dyn.bind,ih]
 |idx o k ih=>cases o<;>simp[Dyn.run,Dyn.bind,ih]
def nth? {α:Type} (l:List α) (i:Int):Option α:=bif decide (0≤i)then l[i.toNat]? else none
inductive PK where
 |val (ag:Bool) (cells:List (Sh×Tg))
 |ptr (cells:List (Sh×Tg))
 |rptr (cells:List (Sh×Tg))
 |fn (f:FuncId)
 |io (cells:List (Sh×Tg))
 |clo (f:FuncId) (cells:List (Sh×Tg))
def PK.cells:PK→List (Sh×Tg)| .val _ cs=>cs| .ptr cs=>cs| .rptr cs=>cs| .fn _=>[]| .io cs=>cs| .clo _ cs=>cs
def PK.outs:PK→List (Sh×Tg)| .ptr cs=>cs| .io cs=>cs|_=>[]
def YX (ps:List PK) (d:Nat):Bool:=match ps[d]? with|some (.ptr _)=>true|some (.io _)=>true|_=>false
def Lc (i:Nat):List (Sh×Tg)→Nat→List (Nat×Nat)
 | [],_=>[]
 |(_,.dead)::l,j=>(i,j)::Lc i l (j+1)
 |_::l,j=>Lc i l (j+1)
def RQ:List PK→Nat→List (Nat×Nat)
 | [],_=>[]
 | .ptr want::ps,i=>Lc i want 0++RQ ps (i+1)
 |_::ps,i=>RQ ps (i+1)
structure Sig where
 fn:FuncId
 params:List PK
 res:List (Bool×List (Sh×Tg))
def Sig.ins (g:Sig):List (Sh×Tg):=g.params.flatMap PK.cells
def Sig.outs (g:Sig):List (Sh×Tg):=g.res.flatMap (·.2)++g.params.flatMap PK.outs
abbrev Sig.In (g:Sig):Type:=ElA (g.ins.map (·.1))
abbrev Sig.Out (g:Sig):Type:=ElA (g.outs.map (·.1))
def Sh.scalar:Sh→Bool| .int _=>true| .bool=>true| .str=>true|_=>false
def Sig.scalar (g:Sig):Bool:=g.outs.all (·.1.scalar)&&g.params.all fun p=>match p with| .ptr _=>false| .io _=>false|p=>p.cells.all (·.2.isPure)
structure Env where
 nt:Nat
 fix:Nat→Bool
 ty:TypeId→Option TyI
 glob:Nat→Option (List CV)
 sig:Nat→Sig
 spec:Nat→Nat
 call:(i:Nat)→(sig i).In→Option (sig i).Out
 kept:List (Nat×Nat)
def bg (cs:List CV):Bool:=cs.all CV.isPure
def MF:Value→T
 | .int k n=> .val false [⟨.int k,.pure,n⟩]
 | .bool b=> .val false [⟨.bool,.pure,b⟩]
 | .string b=> .val false [⟨.str,.pure,b⟩]
 | .slice none 0 0=> .nilc
 |_=> .dead
def at_ (E:Env) (s:St):Operand→T
 | .tmp t=>(s.tm t).1
 | .const v=>MF v
 | .global g=>match E.glob g with|some cs=> .paddr cs 0|none=> .dead
 | .func f=> .fn f
def aA (s:St):Root→Option (Nat×List (CV×Nat))
 | .tmp n=>match s.tm n with
   |(.val _ cs,v)=>some (v,cs.map fun c=>(c,v))
   |_=>none
 | .box n=>match s.bx n with
   |some b=>some (b.inst,b.cells)
   |none=>none
def Cm:List Nat→List Nat→Bool
 | [],_=>true
 |v::vs,w::ws=>Nat.beq v w&&Cm vs ws
 |_::_,[]=>false
def aU (s:St) (p:Pl) (n:Nat):Option (List CV):=
 match aA s p.root with
 |some (inst,cs)=>
  bif Nat.beq inst p.inst&&Nat.ble (p.cell+n) cs.length&&Cm p.vers ((cs.drop p.cell).map (·.2))then some (((cs.drop p.cell).take n).map (·.1))else none
 |none=>none
def Ak (s:St) (p:Pl) (n:Nat):List Nat:=
 match aA s p.root with
 |some (_,cs)=>((cs.drop p.cell).take n).map (·.2)
 |none=>[]
def yV (s:St) (p:Pl):Bool:=
 match p.sub with
 |none=>match aA s p.root with|some (inst,_)=>Nat.beq inst p.inst|none=>false
 |some _=>match aU s p 1 with|some _=>true|none=>false
def setCells (cs:List CV) (j:Nat) (ds:List CV):List CV:=cs.take j++ds++cs.drop (j+ds.length)
def iY (s:St) (p:Pl) (ds:List CV) (fresh:Bool):Option (List Upd):=
 match p.root with
 | .tmp n=>match s.tm n with
   |(.val ag cs,v)=>bif fresh then none else bif Nat.beq v p.inst then some [.keep n (.val ag (setCells cs p.cell ds))]else none
   |_=>none
 | .box n=>match s.bx n with
   |some b=>bif Nat.beq b.inst p.inst&&Nat.ble (p.cell+ds.length) b.cells.length then
    some [.bx n ⟨b.inst,b.cells.take p.cell++(ds.zip (b.cells.drop p.cell)).map (fun(d,(_,v))=>(d,bif fresh then v+1 else v))++b.cells.drop (p.cell+ds.length)⟩]
    else none
   |none=>none
def at? {α:Type} (l:List α) (i:Nat):Option α:=l[i]?
def xA (c:CV) (i:Nat):Dyn (List CV):=
 match c with
 |⟨.sl es,tg,l⟩=>match tg with
  | .dead=> .fail
  |_=> .idx (at? l i) fun e=> .ret (cellsOf es e)
 |⟨.rsl ss,tg,l⟩=>match tg with
  | .dead=> .fail
  |_=> .idx (at? l i) fun e=> .ret (qI ss e)
 |_=> .fail
def elemAt (c:CV) (i:Int):Dyn (List CV):=
 match c with
 |⟨.sl es,tg,l⟩=>match tg with
  | .dead=> .fail
  |_=> .idx (nth? l i) fun e=> .ret (cellsOf es e)
 |⟨.rsl ss,tg,l⟩=>match tg with
  | .dead=> .fail
  |_=> .idx (nth? l i) fun e=> .ret (qI ss e)
 |_=> .fail
def content (s:St) (p:Pl) (n:Nat):Dyn (List CV):=
 match p.sub with
 |none=>Dyn.of (aU s p n)
 |some (i,j)=>match aU s p 1 with
  |some [c]=>(xA c i).bind fun cs=>bif Nat.ble (j+n) cs.length then .ret ((cs.drop j).take n)else .fail
  |_=> .fail
def Dh (c:CV) (i:Nat) (cs:List CV):Option CV:=
 match c with
 |⟨.sl es,.own,l⟩=>match fH es cs with
  |some e=>some ⟨.sl es,.own,List.set l i e⟩
  |none=>none
 |⟨.rsl ss,.own,l⟩=>match vG ss cs with
  |some e=>some ⟨.rsl ss,.own,List.set l i e⟩
  |none=>none
 |_=>none
def DZ:List CV→List CV→Bool
 | [],[]=>true
 |a::aZ,b::bs=>Sh.beq a.sh b.sh&&DZ aZ bs
 |_,_=>false
def Kz (s:St) (p:Pl):Option (CV×Nat×Nat):=
 match p.sub with
 |some (i,j)=>match aU s p 1 with
  |some [⟨.dl es,.own,l⟩]=>some (⟨.dl es,.own,l⟩,i,j)
  |_=>none
 |none=>none
def Fv (c:CV) (i j n:Nat):Dyn (List CV):=
 match c with
 |⟨.dl es,.own,l⟩=> .idx (rowAt? l i) fun e=>bif Nat.ble (j+n) (lX es e).length then .ret (((lX es e).drop j).take n)else .fail
 |_=> .fail
def moveRow (c:CV) (i:Nat):Option CV:=
 match c with
 |⟨.dl es,.own,l⟩=>some ⟨.dl es,.own,List.set l i none⟩
 |_=>none
def yO (s:St) (n:Nat):List (CV×Nat):=match s.bx n with|some b=>b.cells|none=>[]
def Jy (fresh:Bool):Nat→List CV→List (CV×Nat)→List (Nat×CV×Nat)
 |j,d::ds,(_,v)::old=>(j,d,bif fresh then v+1 else v)::Jy fresh (j+1) ds old
 |_,_,_=>[]
def JW (s:St) (p:Pl) (ds:List CV) (fresh:Bool) (us:List Upd):List Upd:=match p.root with
 | .box n=>[.cl n (Jy fresh p.cell ds ((yO s n).drop p.cell))]
 | .tmp _=>us
def JH (s:St) (p:Pl) (ds:List CV):Dyn (List Upd):=
 match p.sub with
 |none=>match aU s p ds.length with
  |some old=>bif DZ ds old then Dyn.of ((iY s p ds true).map (JW s p ds true))else .fail
  |none=> .fail
 |some (i,j)=>match aU s p 1 with
  |some [c]=>(xA c i).bind fun cs=>bif Nat.ble (j+ds.length) cs.length&&BG ds then
   match Dh c i (setCells cs j ds)with
   |some c'=>Dyn.of (iY s p [c'] false)
   |none=> .fail
   else .fail
  |_=> .fail
def vM (c:CV) (lo hi:Nat):Option CV:=
 match c with
 |⟨.sl es,tg,l⟩=>match tg with| .dead=>none|tg=>some ⟨.sl es,tg,List.drop lo (List.take hi l)⟩
 |⟨.rsl ss,tg,l⟩=>match tg with| .dead=>none|tg=>some ⟨.rsl ss,tg,List.drop lo (List.take hi l)⟩
 |_=>none
def Ae (s:St) (p:Pl) (cs:List CV):Option (List Upd):=
 bif bg cs then some []else match p.sub with|none=>(iY s p (cs.map CV.left) false).map (JW s p (cs.map CV.left) false)|_=>none
def zA (E:Env) (s:St) (x:Operand) (exp:List Sh):Dyn (Bool×List CV×List Upd):=
 match at_ E s x with
 | .val ag cs=>bif bg cs then .ret (ag,cs,[])else match x with
   | .tmp n=> .ret (ag,cs,[.keep n (.val ag (cs.map CV.left))])
   |_=> .fail
 | .ref p ag n=>(content s p n).bind fun cs=>match Ae s p cs with
   |some us=> .ret (ag,cs,us)
   |none=> .fail
 | .rsub p z lo hi=>(content s p 1).bind fun cs=>match cs with
   | [c]=>match vM c lo hi,Ae s p [c]with
     |some d,some us=> .ret (false,[bif z&&d.tg.Dv then d else d.to .pure],us)
     |_,_=> .fail
   |_=> .fail
 | .nilc=>match exp with| [sh]=>bif sh.oN then .ret (false,[GU sh],[])else .fail|_=> .fail
 | .rowr p ag n=>match Kz s p with
   |some (c,i,j)=>(Fv c i j n).bind fun cs=>match moveRow c i with
    |some c'=>match iY s p [c'] false with
     |some us=> .ret (ag,cs,us)
     |none=> .fail
    |none=> .fail
   |none=> .fail
 |_=> .fail
def abh (c:CV) (sh:Sh):Dyn CV:=
 match c with
 |⟨.dl es,.own,l⟩=>match sh with
  | .sl _=> .idx (qh l) fun l'=> .ret ⟨.sl es,.own,l'⟩
  |_=> .ret ⟨.dl es,.own,l⟩
 |c=> .ret c
def thaw:List CV→List Sh→Dyn (List CV)
 |c::cs,sh::shs=>(abh c sh).bind fun d=>(thaw cs shs).bind fun ds=> .ret (d::ds)
 |cs,_=> .ret cs
def GK (E:Env) (s:St) (x:Operand):Dyn (List CV):=
 match at_ E s x with
 | .val false cs=> .ret cs
 | .ref p false n=>content s p n
 | .rsub p _ lo hi=>(content s p 1).bind fun cs=>match cs with
   | [c]=>Dyn.of ((vM c lo hi).map fun d=>[d])
   |_=> .fail
 |_=> .fail
def qg (E:Env) (s:St) (x:Operand):Option (IntKind×Int):=
 match at_ E s x with
 | .val false [⟨.int k,.pure,n⟩]=>some (k,n)
 |_=>none
def uo (E:Env) (s:St) (x:Operand):Option Bool:=
 match at_ E s x with
 | .val false [⟨.bool,.pure,b⟩]=>some b
 |_=>none
def Kv (k:IntKind) (n:Int):T:= .val false [⟨.int k,.pure,n⟩]
def VK (b:Bool):T:= .val false [⟨.bool,.pure,b⟩]
def ad2 (b:ByteArray):T:= .val false [⟨.str,.pure,b⟩]
def intCmp (op:BinOp) (a b:Int):Option Bool:=
 match op with
 | .eql=>some (decide (a=b))| .neq=>some (!decide (a=b))| .lss=>some (decide (a<b))
 | .leq=>some (decide (a≤b))| .gtr=>some (decide (b<a))| .geq=>some (decide (b≤a))
 |_=>none
def aew (op:BinOp) (k:IntKind) (a b:Int):Dyn T:=
 match op with
 | .add=> .ret (Kv k (k.wrap (a+b)))
 | .sub=> .ret (Kv k (k.wrap (a-b)))
 | .mul=> .ret (Kv k (k.wrap (a*b)))
 | .and=> .ret (Kv k (bits .and k a b))
 | .or=> .ret (Kv k (bits .or k a b))
 | .xor=> .ret (Kv k (bits .xor k a b))
 | .andNot=> .ret (Kv k (bits .andNot k a b))
 | .quo=> .chk (!decide (b=0)) (.ret (Kv k (k.wrap (a.tdiv b))))
 | .rem=> .chk (!decide (b=0)) (.ret (Kv k (a.tmod b)))
 |op=>match intCmp op a b with
  |some c=> .ret (VK c)
  |none=> .fail
def aeR (op:BinOp) (a b:Bool):Dyn T:=
 match op with
 | .eql=> .ret (VK (a==b))
 | .neq=> .ret (VK (!(a==b)))
 |_=> .fail
def ac3 (op:BinOp) (k:IntKind) (a b:Int):Dyn T:=
 match op with
 | .shl=> .chk (decide (0≤b)&&decide (b≤k.bits)) (.ret (Kv k (k.wrap (a*2^b.toNat))))
 | .shr=> .chk (decide (0≤b)&&decide (b≤k.bits)) (.ret (Kv k (a/2^b.toNat)))
 |_=> .fail
def CP:BinOp→Bool| .shl=>true| .shr=>true|_=>false
def aeN (op:BinOp) (isB:Bool) (x y:T):Dyn T:=
 match x,y with
 | .val false [⟨.int k,.pure,a⟩],.val false [⟨.int k',.pure,b⟩]=>bif CP op then ac3 op k a b else bif decide (k=k')then aew op k a b else .fail
 | .val false [⟨.bool,.pure,a⟩],.val false [⟨.bool,.pure,b⟩]=>bif isB then aeR op a b else .fail
 |_,_=> .fail
def nV {α β:Type} (q:α→α→Bool) (x:α):List (α×β)→Option β
 | []=>none
 |p::l=>bif q x p.1 then some p.2 else nV q x l
def ED {α β:Type} (q:α→α→Bool) (x:α) (y:β):List (α×β)→List (α×β)
 | []=>[(x,y)]
 |p::l=>bif q x p.1 then(x,y)::l else p::ED q x y l
def U4 {α:Type} (l:Option (List α)):Nat:=match l with|some l=>List.length l|none=>0
def mD {α:Type} (l:Option (List α)):List α:=match l with|some l=>l|none=>[]
def keq:(s:Sh)→El s→El s→Bool
 | .int _,a,b=> @decide (@Eq Int a b) (Int.instDecidableEq a b)
 | .bool,a,b=> @BEq.beq Bool _ a b
 | .str,a,b=> @decide (@Eq ByteArray a b) ((inferInstance:DecidableEq ByteArray) a b)
 |_,_,_=>false
def ieq (a b:Int):Bool:=decide (a=b)
def acN (a b:Bool):Bool:=a==b
def seq (a b:ByteArray):Bool:=decide (a=b)
def uZ (l:List Int):ByteArray:=⟨(l.map fun n=>UInt8.ofNat n.toNat).toArray⟩
def lenOf (c:CV):Option Nat:=
 match c with
 |⟨.sl _,.dead,_⟩=>none
 |⟨.rsl _,.dead,_⟩=>none
 |⟨.sl _,_,l⟩=>some (List.length l)
 |⟨.rsl _,_,l⟩=>some (List.length l)
 |⟨.dl _,.own,l⟩=>some (List.length l)
 |⟨.str,.pure,b⟩=>some (ByteArray.size b)
 |⟨.mp _ _,.own,l⟩=>some (U4 l)
 |_=>none
def au:Nat:=2^40
def adq (c d:CV):Dyn CV:=
 match c,d with
 |⟨.sl es,tg,l⟩,⟨.sl es',tg',m⟩=>
  bif (match tg with| .tip=>true| .own=>true|_=>false)&&Tg.le .pure tg' then
  match jd ⟨.sl es',.pure,m⟩ (.sl es)with
  |some m=> .chk (decide (List.length l+List.length m≤au)) (.ret ⟨.sl es,tg,List.append l m⟩)
  |none=> .fail
  else .fail
 |⟨.rsl ss,tg,l⟩,⟨.rsl ss',tg',m⟩=>
  bif (match tg with| .tip=>true| .own=>true|_=>false)&&Tg.le .pure tg' then
  match jd ⟨.rsl ss',.pure,m⟩ (.rsl ss)with
  |some m=> .chk (decide (List.length l+List.length m≤au)) (.ret ⟨.rsl ss,tg,List.append l m⟩)
  |none=> .fail
  else .fail
 |_,_=> .fail
def rY (E:Env) (fields:List (Nat×Nat)) (cells:List Sh):List (Nat×Operand)→St→List CV→List Upd→Dyn (List CV×List Upd)
 | [],_,cs,us=> .ret (cs,us)
 |(i,x)::ps,s,cs,us=>match fields[i]? with
  |none=> .fail
  |some (off,n)=>(zA E s x ((cells.drop off).take n)).bind fun(_,ds,vs)=>
   bif Nat.beq ds.length n&&DZ ds ((cs.drop off).take n)then rY E fields cells ps (s.dI vs) (setCells cs off ds) (us++vs)else .fail
def Ja (es:List Sh):List (List CV)→Option (List (ElA es))
 | []=>some []
 |r::rs=>bif BG r then match fH es r,Ja es rs with
  |some e,some l=>some (e::l)
  |_,_=>none else none
def Nw (ss:List Sh):List (List CV)→Option (List (RT (ElA ss)))
 | []=>some []
 |r::rs=>bif BG r then match vG ss r,Nw ss rs with
  |some e,some l=>some (e::l)
  |_,_=>none else none
def Tc (s:St) (d:Nat) (cs:List CV):List Upd:=
 let i:=(match s.bx d with|some b=>b.inst|none=>0)+1
 [.bx d ⟨i,cs.map fun c=>(c,0)⟩,.tm d (.addr ⟨.box d,i,[],0,none⟩)]
def weaken (cs:List CV) (want:List (Sh×Tg)):Option (List CV):=
 match cs,want with
 | [],[]=>some []
 |c::cs,(sh,tg)::want=>bif Sh.beq c.sh sh&&Tg.le tg c.tg&&sh.YM tg then(weaken cs want).map (c.to tg:: ·)else none
 |_,_=>none
def leftAs (c:CV) (tg:Tg):CV:=
 match tg with
 | .pure=>match c.tg with
   | .own=>c.to .tip
   |_=>c
 | .dead=>c
 |_=>c.kill
def fV:List CV→List (Sh×Tg)→List CV
 |c::cs,(_,tg)::want=>(bif c.isPure then c else leftAs c tg)::fV cs want
 |_,_=>[]
def H9 (s:St) (p:Pl) (cs:List CV) (want:List (Sh×Tg)):Dyn (List CV×List Upd):=
 match weaken cs want with
 |none=> .fail
 |some ds=>bif bg cs then .ret (ds,[])else match p.sub with
  |none=>match iY s p (fV cs want) false with
   |some us=> .ret (ds,JW s p (fV cs want) false us)
   |none=> .fail
  |_=> .fail
def Y7 (want:List (Sh×Tg)):Dyn (List CV):=
 match want with
 | [(sh,tg)]=>bif sh.oG then .ret [(GU sh).to tg]else .fail
 |_=> .fail
def Jr (s:St) (t:T) (x:Operand) (ag0:Bool) (want:List (Sh×Tg)):Dyn (List CV×List Upd):=
 match t with
 | .val ag cs=>bif ag==ag0 then match weaken cs want with
   |none=> .fail
   |some ds=>bif bg cs then .ret (ds,[])else match x with
    | .tmp n=> .ret (ds,[.keep n (.val ag (fV cs want))])
    |_=> .fail else .fail
 | .ref p ag n=>bif ag==ag0 then(content s p n).bind fun cs=>H9 s p cs want else .fail
 | .rsub p _ lo hi=>bif ag0 then .fail else(content s p 1).bind fun cs=>match cs with
   | [c]=>match vM c lo hi with
     |none=> .fail
     |some d=>match weaken [d] want with
      |none=> .fail
      |some ds=>bif bg ds then match p.sub with
       |none=>match iY s p (fV [c] want) false with
        |some us=> .ret (ds,us)
        |none=> .fail
       |_=> .fail else .fail
   |_=> .fail
 | .nilc=>bif ag0 then .fail else(Y7 want).bind fun ds=> .ret (ds,[])
 | .rowr p ag n=>bif ag||ag0 then .fail else match Kz s p with
   |some (c,i,j)=>(Fv c i j n).bind fun cs=>match cs,want,moveRow c i with
    | [e],[(sh,tg)],some c'=>match weaken [e] [(sh,tg)],iY s p [c'] false with
      |some ds,some us=> .ret (ds,us)
      |_,_=> .fail
    |_,_,_=> .fail
   |none=> .fail
 | .ext p q c=>match want,x with
   | [(sh,.own)],.tmp n=>bif !ag0&&Sh.beq c.sh sh&&c.tg.Dv then .ret ([c],[.keep n (.ext p q c.kill)])else .fail
   |_,_=> .fail
 |_=> .fail
def wF (E:Env) (ag:Bool) (want:List (Sh×Tg)):List (Nat×Operand)→Nat→St→List (List CV)→List Upd→Dyn (List (List CV)×List Upd)
 | [],_,_,rows,us=> .ret (rows.reverse,us)
 |(i,x)::ps,k,s,rows,us=>bif Nat.beq i k then
  (Jr s (at_ E s x) x ag want).bind fun r=>wF E ag want ps (k+1) (s.dI r.2) (r.1::rows) (us++r.2)
  else .fail
def oW (want:List (Sh×Tg)):Bool:=want.any fun x=>match x.2 with| .dead=>true|_=>false
def gB (e:Nat):Nat→List CV→List (CV×Nat)→List (Sh×Tg)→List (Nat×CV×Nat)
 |j,c::cs,(_,v)::old,(_,tg)::want=>match tg with
  | .dead=>gB e (j+1) cs old want
  |_=>(j,c,v+e)::gB e (j+1) cs old want
 |_,_,_,_=>[]
def aeM (E:Env) (t:TypeId):Bool:=match E.ty t with|some i=>i.ag|none=>false
def XO (t:T) (want:List (Sh×Tg)):Dyn (List CV):=
 match t with
 | .paddr cs off=>bif Nat.ble (off+want.length) cs.length then match weaken ((cs.drop off).take want.length) want with
   |some ds=>bif bg ds then .ret ds else .fail
   |none=> .fail else .fail
 |_=> .fail
def ab8 (n:Nat) (bs:List (Option Nat)):Bool:=bs.all fun b=>match b with|some m=> !(Nat.beq n m)|none=>true
def QU (s:St) (bs:List (Option Nat)) (pk:PK) (t:T) (x:Operand):Dyn (List CV×List Upd×Option Nat):=
 match pk with
 | .val ag want=>(Jr s t x ag want).bind fun r=> .ret (r.1,r.2,none)
 | .rptr want=>(XO t want).bind fun ds=> .ret (ds,[],none)
 | .ptr want=>match t with
   | .addr p=>match p.root,p.sub,aU s p want.length with
     | .box n,none,some cs=>bif Nat.beq p.cell 0&&ab8 n bs&&(match s.bx n with|some b=>Nat.beq b.cells.length want.length|none=>false)then
       match weaken cs want,iY s p (fV cs want) false with
        |some ds,some us=> .ret (ds,bif oW want then[.cl n (gB 0 0 (fV cs want) (yO s n) want)]else us,some n)
        |_,_=> .fail
       else .fail
     |_,_,_=> .fail
   |_=> .fail
 | .fn f=>match t with
   | .fn g=>bif Nat.beq f g then .ret ([],[],none)else .fail
   |_=> .fail
 | .io want=>(Jr s t x false want).bind fun r=> .ret (r.1,r.2,none)
 | .clo _ _=> .fail
def vg (E:Env):List PK→List Operand→List (Option Nat)→St→List CV→List Upd→Dyn (List CV×List Upd×List (Option Nat))
 | [],[],bs,_,cs,us=> .ret (cs,us,bs)
 |p::ps,x::xs,bs,s,cs,us=>(QU s bs p (at_ E s x) x).bind fun r=>vg E ps xs (bs++[r.2.2]) (s.dI r.2.1) (cs++r.1) (us++r.2.1)
 |_,_,_,_,_,_=> .fail
def SG (cs:List CV) (want:List (Sh×Tg)):Dyn (List CV):=
 (thaw cs (want.map (·.1))).bind fun cs=>match weaken cs want with
  |some ds=>bif bg ds then .ret ds else .fail
  |none=> .fail
def PX (s:St) (t:T) (want:List (Sh×Tg)):Dyn (List CV):=
 match t with
 | .addr p=>match p.sub with
   |none=>(content s p want.length).bind fun cs=>SG cs want
   |_=> .fail
 |t=>XO t want
def Wv (E:Env) (s:St) (pk:PK) (x:Operand):Dyn (List CV):=
 match pk with
 | .val ag0 want=>match at_ E s x with
   | .val ag cs=>bif ag==ag0 then SG cs want else .fail
   | .ref p ag n=>bif ag==ag0 then(content s p n).bind fun cs=>SG cs want else .fail
   | .rsub p _ lo hi=>bif ag0 then .fail else(content s p 1).bind fun cs=>match cs with
     | [c]=>match vM c lo hi with
       |some d=>SG [d] want
       |none=> .fail
     |_=> .fail
   | .nilc=>bif ag0 then .fail else(Y7 want).bind fun ds=>bif bg ds then .ret ds else .fail
   |_=> .fail
 | .rptr want=>PX s (at_ E s x) want
 | .ptr _=> .fail
 | .io _=> .fail
 | .fn f=>match at_ E s x with
   | .fn g=>bif Nat.beq f g then .ret []else .fail
   |_=> .fail
 | .clo f want=>match at_ E s x with
   | .clo g [t]=>bif Nat.beq f g then PX s t want else .fail
   |_=> .fail
def wL (E:Env) (s:St):List PK→List Operand→List T→Dyn (List CV)
 | [],[],[]=> .ret []
 |p::ps,x::xs,ts=>(Wv E s p x).bind fun ds=>(wL E s ps xs ts).bind fun es=> .ret (ds++es)
 | .rptr want::ps,[],t::ts=>(PX s t want).bind fun ds=>(wL E s ps [] ts).bind fun es=> .ret (ds++es)
 |_,_,_=> .fail
def resT:List (Bool×List (Sh×Tg))→List CV→List (Bool×List CV)×List CV
 | [],cs=>([],cs)
 |(ag,want)::rs,cs=>let(ts,rest):=resT rs (cs.drop want.length); ((ag,cs.take want.length)::ts,rest)
def ni (s:St):List PK→List (Option Nat)→List CV→Option (List Upd)
 | [],[],_=>some []
 | .ptr want::ps,some n::bs,cs=>match s.bx n,ni s ps bs (cs.drop want.length)with
   |some b,some us=>bif Nat.beq (cs.take want.length).length b.cells.length&&Nat.beq b.cells.length want.length then some ((bif oW want then .cl n (gB 1 0 (cs.take want.length) b.cells want)else .bx n ⟨b.inst,((cs.take want.length).zip b.cells).map fun x=>(x.1,x.2.2+1)⟩)::us)else none
   |_,_=>none
 | .ptr _::_,_,_=>none
 | .io want::ps,none::bs,cs=>ni s ps bs (cs.drop want.length)
 |_::ps,none::bs,cs=>ni s ps bs cs
 |_,_,_=>none
def WA:List PK→List Operand→List CV→List (Operand×List CV)
 | .io want::ps,x::xs,cs=>(x,cs.take want.length)::WA ps xs (cs.drop want.length)
 | .ptr want::ps,_::xs,cs=>WA ps xs (cs.drop want.length)
 |_::ps,_::xs,cs=>WA ps xs cs
 |_,_,_=>[]
def pre (m l:List Int):Bool:=decide (List.take (List.length m) l=m)
def XB (c q:CV):Bool:=
 match c,q with
 |⟨.sl [.int _],_,l⟩,⟨.sl [.int _],_,m⟩=>pre m l
 |_,_=>false
def TY (E:Env) (s:St) (d:Nat) (x:Operand) (c:CV):Dyn (List Upd):=
 match at_ E s x with
 | .nilc=> .ret []
 | .val false [q]=>match x with
   | .tmp n=>bif Sh.beq c.sh q.sh&&c.sh.oG then .ret [.keep n (.val false [c])]else .fail
   |_=> .fail
 | .ref p false 1=>match p.sub,aU s p 1 with
   |none,some [q]=>bif Sh.beq c.sh q.sh&&c.sh.oG then Dyn.of (iY s p [c] false)else .fail
   |_,_=> .fail
 | .rowr p false 1=>match Kz s p with
   |some (⟨.dl [sh],.own,l⟩,i,j)=>bif Nat.beq j 0&&sh.oG&&c.tg.Dv then match jd c sh with
    |some y=>Dyn.of (iY s p [⟨.dl [sh],.own,List.set l i (some y)⟩] false)
    |none=> .fail
    else .fail
   |_=> .fail
 | .ext p q _=>match x,p.sub,aU s p 1 with
   | .tmp n,none,some [e]=>bif Sh.beq e.sh q.sh&&Sh.beq c.sh q.sh&&c.tg.Dv&& !(Nat.beq n d)then match iY s p [q] false with
    |some us=> .chk (XB c q) (.ret (.keep n .dead::us))
    |none=> .fail
     else .fail
   |_,_,_=> .fail
 |_=> .fail
def Vw (E:Env) (s:St) (d:Nat):List (Operand×List CV)→Dyn (List Upd)
 | []=> .ret []
 | [(x,[c])]=>TY E s d x c
 |_=> .fail
def retag:List (Sh×Tg)→List CV→List CV
 |(_,tg)::gs,c::cs=>c.to tg::retag gs cs
 |_,_=>[]
def afc:List (Bool×List CV)→T| [(ag,cs)]=> .val ag cs|ts=> .tup ts
def acJ (d:Nat) (ts:List (Bool×List CV)):List Upd:=[.tm d (afc ts)]
def noT (ts:List T):Bool:=match ts with| []=>true|_=>false
def Ko (E:Env) (s:St) (d:Nat) (xs:List Operand) (ts:List T) (i:Nat):Dyn (List Upd):=
 bif (E.sig i).scalar then
  (wL E s (E.sig i).params xs ts).bind fun cs=>match fH ((E.sig i).ins.map (·.1)) cs with
   |none=> .fail
   |some a=> .idx (E.call i a) fun r=> .ret (acJ d (resT (E.sig i).res (retag (E.sig i).outs (cellsOf ((E.sig i).outs.map (·.1)) r))).1)
 else bif !(noT ts)then .fail else
  (vg E (E.sig i).params xs [] s [] []).bind fun p=>match fH ((E.sig i).ins.map (·.1)) p.1 with
   |none=> .fail
   |some a=> .idx (E.call i a) fun r=>
    match resT (E.sig i).res (retag (E.sig i).outs (cellsOf ((E.sig i).outs.map (·.1)) r))with
    |(ts,rest)=>match ni (s.dI p.2.1) (E.sig i).params p.2.2 rest with
     |none=> .fail
     |some us=>(Vw E ((s.dI p.2.1).dI us) d (WA (E.sig i).params xs rest)).bind fun vs=> .ret (p.2.1++us++vs++acJ d ts)
def fF (E:Env) (t:TypeId):List Sh:=match E.ty t with|some i=>i.cells|none=>[]
def Ku (E:Env) (s:St) (x:Operand) (exp:List Sh):Option T:=
 match at_ E s x with
 | .val ag cs=>bif bg cs then some (.val ag cs)else match x with
   | .tmp n=>let v:=(s.tm n).2
     some (.ref ⟨.tmp n,v,cs.map fun _=>v,0,none⟩ ag cs.length)
   |_=>none
 | .nilc=>match exp with| [sh]=>bif sh.oN then some (.val false [GU sh])else none|_=>none
 | .tup _=>none
 | .dead=>none
 | .undef=>none
 | .ext _ _ _=>none
 |t=>some t
def KU (p:Pl) (off:Nat):Pl:=
 match p.sub with
 |none=>{p with cell:=p.cell+off,vers:=[]}
 |some (i,j)=>{p with sub:=some (i,j+off)}
def WS (E:Env) (d:Nat):Bool:=Nat.beq (E.spec d) 2
def intTy (E:Env) (t:TypeId):Option IntKind:=match E.ty t with|some ⟨false,[.int k],_,_,_⟩=>some k|_=>none
def Kt (E:Env) (t:TypeId):Bool:=match E.ty t with|some ⟨false,[.str],_,_,_⟩=>true|_=>false
def Dt (E:Env) (t:TypeId) (c:CV):Bool:=match E.ty t with|some ⟨false,[sh],_,_,some _⟩=>sh.oN&&Sh.beq sh c.sh.base|_=>false
def Pj (E:Env) (s:St) (t:TypeId) (x:Operand) (i:Int):Dyn T:=
 match at_ E s x with
 | .val false [c]=>bif !Dt E t c then .fail else
   match c.tg with
   | .own=>match x with
     | .tmp n=>match lenOf c with
       |some l=> .chk (decide (0≤i)&&decide (i<l)) (.ret (.addr ⟨.tmp n,(s.tm n).2,[(s.tm n).2],0,some (i.toNat,0)⟩))
       |none=> .fail
     |_=> .fail
   | .dead=> .fail
   |_=>(elemAt c i).bind fun cs=> .ret (.paddr cs 0)
 | .ref p false n=>(content s p n).bind fun cs=>match cs with
   | [c]=>bif !Dt E t c then .fail else match c.tg with
     | .own=>match p.sub,lenOf c with
       |none,some l=> .chk (decide (0≤i)&&decide (i<l)) (.ret (.addr {p with sub:=some (i.toNat,0)}))
       |_,_=> .fail
     | .dead=> .fail
     |_=>(elemAt c i).bind fun cs=> .ret (.paddr cs 0)
   |_=> .fail
 | .rsub p _ lo hi=>(content s p 1).bind fun cs=>match cs with
   | [c]=>bif !Dt E t c then .fail else match c.tg with
     | .own=>match p.sub with
       |none=> .chk (decide (0≤i)&&decide (i<((hi-lo:Nat):Int))) (.ret (.addr {p with sub:=some (lo+i.toNat,0)}))
       |_=> .fail
     |_=> .fail
   |_=> .fail
 | .rowr p false n=>match Kz s p with
   |some (c,r,j)=>(Fv c r j n).bind fun cs=>match cs with
    | [e]=>bif Dt E t e&&e.tg.Dv then match lenOf e with
      |some l=> .chk (decide (0≤i)&&decide (i<l)) (.ret (.addr2 p i.toNat 0))
      |none=> .fail
      else .fail
    |_=> .fail
   |none=> .fail
 |_=> .fail
def Xh (b:ByteArray) (i:Int):Option Int:=bif decide (0≤i)then(b[i.toNat]?).map fun c=>(c.toNat:Int)else none
def sliceT (E:Env) (s:St) (t:TypeId) (x:Operand) (lo hi:Option Int):Dyn T:=
 let pureSub (c:CV):Dyn T:=bif !Dt E t c then .fail else match lenOf c with
  |some l=> .chk (decide (0≤lo.getD 0)&&decide (lo.getD 0≤hi.getD l)&&decide (hi.getD l≤l))
   (match vM c (lo.getD 0).toNat (hi.getD l).toNat with|some d=> .ret (.val false [d.to .pure])|none=> .fail)
  |none=> .fail
 match at_ E s x with
 | .val false [⟨.str,.pure,b⟩]=>bif !Kt E t then .fail else .chk (decide (0≤lo.getD 0)&&decide (lo.getD 0≤hi.getD (ByteArray.size b:Nat))&&decide (hi.getD (ByteArray.size b:Nat)≤(ByteArray.size b:Nat)))
  (.ret (ad2 (ByteArray.extract b (lo.getD 0).toNat (hi.getD (ByteArray.size b:Nat)).toNat)))
 | .val false [c]=>match c.tg with
   | .pure=>pureSub c
   |_=> .fail
 | .ref p false 1=>(content s p 1).bind fun cs=>match cs with
   | [c]=>match c.tg with
     | .dead=> .fail
     | .own=>bif !Dt E t c then .fail else match lenOf c with
       |some l=> .chk (decide (0≤lo.getD 0)&&decide (lo.getD 0≤hi.getD l)&&decide (hi.getD l≤l)) (.ret (.rsub p lo.isNone (lo.getD 0).toNat (hi.getD l).toNat))
       |none=> .fail
     |_=>pureSub c
   |_=> .fail
 |_=> .fail
def IW (E:Env) (s:St):Option Operand→Option (Option Int)
 |none=>some none
 |some x=>match qg E s x with|some (_,n)=>some (some n)|none=>none
def rJ (c d:CV) (lo n:Nat):Option CV:=
 match c,d with
 |⟨.sl es,.own,l⟩,⟨.sl es',tg,m⟩=>
  bif Tg.le .pure tg then match jd ⟨.sl es',.pure,m⟩ (.sl es)with
  |some m=>some ⟨.sl es,.own,List.append (List.append (List.take lo l) (List.take n m)) (List.drop (lo+n) l)⟩
  |none=>none else none
 |⟨.rsl ss,.own,l⟩,⟨.rsl ss',tg,m⟩=>
  bif Tg.le .pure tg then match jd ⟨.rsl ss',.pure,m⟩ (.rsl ss)with
  |some m=>some ⟨.rsl ss,.own,List.append (List.append (List.take lo l) (List.take n m)) (List.drop (lo+n) l)⟩
  |none=>none else none
 |_,_=>none
def vU (E:Env) (s:St) (d:Nat) (t u:TypeId) (e:CV) (p:Pl) (lo:Nat) (hi:Option Nat):Dyn (List Upd):=
 match p.sub with
 |some _=> .fail
 |none=>(content s p 1).bind fun cs=>match cs with
  | [q]=>bif Dt E t q&&Dt E u e then match lenOf q,lenOf e with
    |some l,some m=>match rJ q e lo (Nat.min m (hi.getD l-lo))with
     |some r=>match iY s p [r] false with
      |some us=> .ret (us++[.tm d (Kv .i64 (Nat.min m (hi.getD l-lo):Nat))])
      |none=> .fail
     |none=> .fail
    |_,_=> .fail
    else .fail
  |_=> .fail
def aan (c:CV) (lo hi:Nat):Option CV:=
 match c with
 |⟨.sl es,.own,l⟩=>match fH es (es.map fun s=>⟨s,.pure,jR s⟩)with
  |some e=>some ⟨.sl es,.own,List.append (List.append (List.take lo l) (List.replicate (hi-lo) e)) (List.drop hi l)⟩
  |none=>none
 |_=>none
def LG (E:Env) (s:St) (t:TypeId) (x:Operand):Dyn (List Upd):=
 match at_ E s x with
 | .rsub p _ lo hi=>match p.sub with
   |some _=> .fail
   |none=>(content s p 1).bind fun cs=>match cs with
    | [q]=>bif Dt E t q then match aan q lo hi with
      |some r=>Dyn.of (iY s p [r] false)
      |none=> .fail
      else .fail
    |_=> .fail
 |_=> .fail
def aa7 (sh:Sh) (n:Nat):Option CV:=
 match sh with
 | .sl es=>match fH es (es.map fun s=>⟨s,.pure,jR s⟩)with
   |some e=>some ⟨.sl es,.own,List.replicate n e⟩
   |none=>none
 | .rsl ss=>match vG ss ((ss++[Sh.rsl ss]).map fun s=>⟨s,.pure,jR s⟩)with
   |some e=>some ⟨.rsl ss,.own,List.replicate n e⟩
   |none=>none
 |_=>none
def acu (sh:Sh) (n:Nat):Option CV:=
 match sh with
 | .sl [e]=>bif e.oG then some ⟨.dl [e],.own,List.replicate n (some (jR e))⟩else none
 |_=>none
def UY (b:Builtin) (x y:Int):Option Int:=match b with| .min=>some (min x y)| .max=>some (max x y)|_=>none
def P5 (E:Env) (s s':St) (y:Operand) (exp:List Sh):Dyn (List CV):=
 match at_ E s y,exp with
 | .nilc,[sh]=>bif sh.oN then .ret [GU sh]else .fail
 |_,_=>GK E s' y
def boolTy (E:Env) (t:TypeId):Bool:=match E.ty t with|some i=> !i.ag&&Sh.Hq i.cells [.bool]|none=>false
def Za (E:Env) (s:St):List Operand→Option (List T)
 | []=>some []
 |x::xs=>match at_ E s x,Za E s xs with
  | .addr p,some ts=>some (.addr p::ts)
  | .paddr cs off,some ts=>some (.paddr cs off::ts)
  |_,_=>none
def qN (E:Env) (d:Nat):Bool:=Nat.beq (E.spec d) 1
def aea (E:Env) (d:Nat):Bool:=Nat.beq (E.spec d) 3
def X4:Sh→Bool| .sl [.int _]=>true|_=>false
def acT (E:Env) (s:St) (x:Operand) (d:Nat) (q r:CV):Dyn (List Upd):=
 match at_ E s x with
 | .ref p false 1=>match p.sub with
   |none=>bif q.tg.Dv&&X4 q.sh then .ret [.tm d (.ext p q r)]else .fail
   |some _=> .fail
 |_=> .fail
def aci (c:CV) (i j:Nat) (row:List CV) (e:CV):Option CV:=
 match c with
 |⟨.dl es,.own,l⟩=>match fH es (setCells row j [e])with
  |some x=>some ⟨.dl es,.own,List.set l i (some x)⟩
  |none=>none
 |_=>none
def LP (s:St) (p:Pl) (k q:Nat) (ds:List CV):Dyn (List Upd):=
 match Kz s p with
 |some (c,i,j)=>match c with
  |⟨.dl es,.own,l⟩=> .idx (rowAt? l i) fun x=>match(lX es x)[j]? with
   |some e=>(xA e k).bind fun rs=>bif Nat.ble (q+ds.length) rs.length&&bg ds then
    match Dh e k (setCells rs q ds)with
    |some e'=>match aci ⟨.dl es,.own,l⟩ i j (lX es x) e' with
     |some c'=>Dyn.of (iY s p [c'] false)
     |none=> .fail
    |none=> .fail
    else .fail
   |none=> .fail
  |_=> .fail
 |none=> .fail
def Md (s:St) (p:Pl) (c:CV) (i j:Nat) (ds:List CV):Dyn (List Upd):=
 match c,ds with
 |⟨.dl [sh],.own,l⟩,[⟨sh',.own,x⟩]=>bif Nat.beq j 0&&sh.oG then match jd ⟨sh',.own,x⟩ sh with
  |some y=>match p.root with
   | .tmp n=>match(s.tm n).1 with
     | .val false [_]=>bif Nat.beq p.cell 0 then .ret [.tm n (.val false [⟨.dl [sh],.own,List.set l i (some y)⟩])]else .fail
     |_=> .fail
   | .box _=> .fail
  |none=> .fail
  else .fail
 |_,_=> .fail
def Ce (E:Env) (s:St) (x:Operand) (sh:Sh):Option (El sh):=
 match at_ E s x with
 | .val false [⟨sh',.pure,y⟩]=>jd ⟨sh',.pure,y⟩ sh
 |_=>none
def aby (E:Env) (t:TypeId) (k e:Sh):Bool:=match E.ty t with|some ⟨false,[.mp k' e'],_,[_,_],none⟩=>Sh.beq k k'&&Sh.beq e e'&&k.scalar&&e.scalar|_=>false
def ab9 (E:Env) (t:TypeId):Option CV:=match E.ty t with
 |some ⟨false,[.mp k e],_,[_,_],none⟩=>bif k.scalar&&e.scalar then some ⟨.mp k e,.own,some []⟩else none
 |_=>none
def Xo (E:Env) (s:St) (x:Operand):Option (Pl×CV):=
 match at_ E s x with
 | .ref p false 1=>match p.sub,aU s p 1 with
   |none,some [c]=>some (p,c)
   |_,_=>none
 |_=>none
def XC (E:Env) (s:St) (d:Nat) (t:TypeId) (m x:Operand) (ok:Bool):Dyn (List Upd):=
 match Xo E s m with
 |some (_,⟨.mp k e,.own,l⟩)=>bif aby E t k e then match Ce E s x k with
  |some y=>bif ok then .ret [.tm d (.tup [(false,[⟨e,.pure,(nV (keq k) y (mD l)).getD (jR e)⟩]),(false,[⟨.bool,.pure,(nV (keq k) y (mD l)).isSome⟩])])]
   else .ret [.tm d (.val false [⟨e,.pure,(nV (keq k) y (mD l)).getD (jR e)⟩])]
  |none=> .fail
  else .fail
 |_=> .fail
def Vu (E:Env) (s:St) (t:TypeId) (m x v:Operand):Dyn (List Upd):=
 match Xo E s m with
 |some (p,⟨.mp k e,.own,l⟩)=>bif aby E t k e then match Ce E s x k,Ce E s v e with
  |some y,some z=> .idx l fun l=>Dyn.of (iY s p [⟨.mp k e,.own,some (ED (keq k) y z l)⟩] false)
  |_,_=> .fail
  else .fail
 |_=> .fail
def Va (x:Operand):Bool:=match x with| .const (.map none)=>true|_=>false
def X0 (E:Env) (s:St) (d:Nat) (op:BinOp) (x:Operand):Dyn (List Upd):=
 match op,Xo E s x with
 | .eql,some (_,⟨.mp _ _,.own,l⟩)=> .ret [.tm d (VK (Option.isNone l))]
 |_,_=> .fail
def Y8 (E:Env) (t:TypeId):Bool:=match E.ty t with|some ⟨false,[.mp _ _],_,[_,_],none⟩=>true|_=>false
def Pq (E:Env) (s:St) (d:Nat) (x:Operand):Dyn (List Upd):=
 (GK E s x).bind fun cs=>match cs with
 | [⟨.sl [.int .u8],tg,l⟩]=>bif Tg.le .pure tg then .ret [.tm d (ad2 (uZ l))]else .fail
 |_=> .fail
def Zl (E:Env) (t:TypeId):Bool:=match E.ty t with|some ⟨false,[.sl [.int .u8]],_,_,some e⟩=>(match intTy E e with|some .u8=>true|_=>false)|_=>false
def G5 (s:St) (p:Pl) (n:Nat) (t:List Sh):List Sh:=
 match p.sub with
 |none=>match aU s p n with|some old=>old.map CV.sh|none=>t
 |some _=>t
def plan (E:Env) (o:Oper) (s:St):Dyn (List Upd):=
 match o.op with
 | .store t a x=>match o.dst with
   |none=>(zA E s x (fF E t)).bind fun(_,cs,us)=>match at_ E (s.dI us) a with
    | .addr p=>
      bif Nat.beq cs.length (fF E t).length&&Cc cs&&(match E.ty t with|some _=>true|none=>false)then
       match Kz (s.dI us) p with
       |some (c,i,j)=>(Md (s.dI us) p c i j cs).bind fun vs=> .ret (us++vs)
       |none=>(thaw cs (G5 (s.dI us) p cs.length (fF E t))).bind fun cs=>(JH (s.dI us) p cs).bind fun vs=> .ret (us++vs)
      else .fail
    | .addr2 p k j=>
      bif Nat.beq cs.length (fF E t).length&&(match E.ty t with|some _=>true|none=>false)then
       (LP (s.dI us) p k j cs).bind fun vs=> .ret (us++vs)
      else .fail
    |_=> .fail
   |some _=> .fail
 |op=>match o.dst with
  |none=>match op with
   | .call c=>match c.callee,c.args.toList,c.argTypes.toList with
     | .builtin .clear,[x],[t]=>LG E s t x
     |_,_,_=> .fail
   | .mapUpdate t m x v=>Vu E s t m x v
   |_=> .fail
  |some d=>match op with
   | .move x=>match Ku E s x (fF E o.type)with
     |some t=> .ret [.tm d t]
     |none=>match at_ E s x,x with
      | .tup ts,.tmp n=> .ret [.keep n .dead,.tm d (.tup ts)]
      |_,_=> .fail
   | .assign x=>match at_ E s x with
     | .addr p=> .ret [.tm d (.addr p)]
     | .paddr cs off=> .ret [.tm d (.paddr cs off)]
     | .fn f=> .ret [.tm d (.fn f)]
     | .clo f ts=> .ret [.tm d (.clo f ts)]
     | .rsub p z lo hi=>bif WS E d then .ret [.tm d (.rsub p z lo hi)]else
       (zA E s x (fF E o.type)).bind fun(ag,cs,us)=> .ret (us++[.tm d (.val ag cs)])
     | .rowr p ag n=>bif WS E d then .ret [.tm d (.rowr p ag n)]else
       (zA E s x (fF E o.type)).bind fun(ag,cs,us)=> .ret (us++[.tm d (.val ag cs)])
     |_=>(zA E s x (fF E o.type)).bind fun(ag,cs,us)=> .ret (us++[.tm d (.val ag cs)])
   | .pick c a b=>match uo E s c with
     |some v=>match bif v then at_ E s a else at_ E s b with
      | .val ag cs=>bif bg cs then .ret [.tm d (.val ag cs)]else .fail
      |_=> .fail
     |none=> .fail
   | .alloc t=>match E.ty t with|some i=> .ret (Tc s d ((bif qN E d then i.cells.map Sh.deep else i.cells).map GU))|none=> .fail
   | .box t x=>(zA E s x (fF E t)).bind fun(_,cs,us)=>
    bif DZ cs ((fF E t).map GU)then .ret (us++Tc (s.dI us) d cs)else .fail
   | .build t parts=>match E.ty t with
     |some i=>(rY E i.fields i.cells parts.toList s ((bif qN E d then i.cells.map Sh.deep else i.cells).map GU) []).bind fun(cs,us)=>bif i.ag then .ret (us++[.tm d (.val true cs)])else .fail
     |none=> .fail
   | .buildSlice t n parts=>match E.ty t with
     |some ⟨_,[sh],_,_,some e⟩=>(wF E (aeM E e) ((fF E e).map fun sh=>(sh,bif qN E d then sh.top else .pure)) parts.toList 0 s [] []).bind fun(rows,us)=>
      bif Nat.beq rows.length n&&Nat.ble 1 (fF E e).length&&Nat.ble (n*(fF E e).length) 16777216 then
       match sh with
       | .sl es=>match Ja es rows with
         |some l=>bif qN E d then .ret (us++[.tm d (.val false [⟨.dl es,.own,List.map some l⟩])])else .ret (us++[.tm d (.val false [⟨.sl es,.own,l⟩])])
         |none=> .fail
       | .rsl ss=>match Nw ss rows with
         |some l=>bif qN E d then .fail else .ret (us++[.tm d (.val false [⟨.rsl ss,.own,l⟩])])
         |none=> .fail
       |_=> .fail
      else .fail
     |_=> .fail
   | .load t a=>match at_ E s a,E.ty t with
     | .addr p,some i=>match Kz s p with
       |some (c,r,j)=>(Fv c r j i.cells.length).bind fun cs=>bif bg cs then .ret [.tm d (.val i.ag cs)]else bif qN E d then(match moveRow c r with
        |some c'=>match iY s p [c'] false with
         |some us=> .ret (us++[.tm d (.val i.ag cs)])
         |none=> .fail
        |none=> .fail)else .ret [.tm d (.rowr p i.ag i.cells.length)]
       |none=>(content s p i.cells.length).bind fun cs=>
        bif bg cs then .ret [.tm d (.val i.ag cs)]else match p.sub with
         |none=>bif i.ag||Cc cs then .ret [.tm d (.ref {p with vers:=Ak s p i.cells.length} i.ag i.cells.length)]else .fail
         |some _=> .fail
     | .paddr cs off,some i=>bif Nat.ble (off+i.cells.length) cs.length then .ret [.tm d (.val i.ag ((cs.drop off).take i.cells.length))]else .fail
     |_,_=> .fail
   | .nilCheck x=>match at_ E s x with
     | .addr p=>bif yV s p then .ret [.tm d (.addr p)]else .fail
     | .paddr cs off=> .ret [.tm d (.paddr cs off)]
     | .fn f=> .ret [.tm d (.fn f)]
     | .clo f ts=> .ret [.tm d (.clo f ts)]
     |_=> .fail
   | .makeInterface t _=>match E.ty t with|some _=> .ret [.tm d .dead]|none=> .fail
   | .makeFunc (.func f) first caps=>match first.toList,Za E s caps.toList with
     | [],some ts=> .ret [.tm d (.clo f ts)]
     |_,_=> .fail
   | .binOp op t x y _=>bif Va y then bif Y8 E t then X0 E s d op x else .fail else(aeN op (boolTy E t) (at_ E s x) (at_ E s y)).bind fun t=> .ret [.tm d t]
   | .makeMap t none=>match ab9 E t with|some c=> .ret [.tm d (.val false [c])]|none=> .fail
   | .lookup t m x ok=>XC E s d t m x ok
   | .unOp op _ x=>match op,at_ E s x with
     | .not,.val false [⟨.bool,.pure,b⟩]=> .ret [.tm d (VK (!b))]
     | .neg,.val false [⟨.int k,.pure,n⟩]=>(aew .sub k 0 n).bind fun t=> .ret [.tm d t]
     |_,_=> .fail
   | .convert u t x=>bif Zl E u&&Kt E t then Pq E s d x else match at_ E s x,intTy E u,intTy E t with
     | .val false [⟨.int _,.pure,n⟩],some _,some k=> .ret [.tm d (Kv k (k.wrap n))]
     |_,_,_=> .fail
   | .makeSlice t l c=>match E.ty t,qg E s l,qg E s c with
     |some ⟨_,[sh],_,_,some _⟩,some (_,l),some (_,c)=> .chk (decide (0≤l)&&decide (l≤c)&&decide (c≤(au:Nat))) (match(bif qN E d then acu sh l.toNat else aa7 sh l.toNat)with
      |some v=> .ret [.tm d (.val false [v])]
      |none=> .fail)
     |_,_,_=> .fail
   | .slice t x lo hi mx=>match mx,IW E s lo,IW E s hi with
     |none,some lo,some hi=>(sliceT E s t x lo hi).bind fun t=> .ret [.tm d t]
     |_,_,_=> .fail
   | .fieldAddr t x f=>match E.ty t with
     |some i=>match i.fields[f]?,at_ E s x with
      |some (off,_),.addr p=>bif i.ag&&yV s p then .ret [.tm d (.addr (KU p off))]else .fail
      |some (off,_),.paddr cs k=>bif i.ag then .ret [.tm d (.paddr cs (k+off))]else .fail
      |_,_=> .fail
     |none=> .fail
   | .indexAddr t x i=>match qg E s i with
     |some (_,i)=>(Pj E s t x i).bind fun t=> .ret [.tm d t]
     |none=> .fail
   | .index t x i=>match at_ E s x,qg E s i,Kt E t with
     | .val false [⟨.str,.pure,b⟩],some (_,i),true=> .idx (Xh b i) fun c=> .ret [.tm d (Kv .u8 c)]
     |_,_,_=> .fail
   | .field t x f=>match E.ty t with
     |some i=>match i.fields[f]?,i.ftys[f]?,at_ E s x with
      |some (off,n),some ft,.val true cs=>match E.ty ft with
       |some j=>bif i.ag&&bg ((cs.drop off).take n)&&Nat.beq j.cells.length n&&Nat.ble (off+n) cs.length then .ret [.tm d (.val j.ag ((cs.drop off).take n))]else .fail
       |none=> .fail
      |_,_,_=> .fail
     |none=> .fail
   | .extract x i=>match at_ E s x with
     | .tup ts=>match ts[i]? with
       |some (ag,cs)=>bif bg cs then .ret [.tm d (.val ag cs)]else match x with
        | .tmp n=> .ret [.keep n (.tup (ts.set i (ag,cs.map CV.left))),.tm d (.val ag cs)]
        |_=> .fail
       |none=> .fail
     |_=> .fail
   | .call c=>match c.callee,c.args.toList with
     | .builtin .len,[x]=>(GK E s x).bind fun cs=>match cs,c.argTypes.toList with
       | [e],[t]=>bif Dt E t e||(Kt E t&&Sh.beq e.sh .str)||(Y8 E t&&e.sh.Hr)then match lenOf e with
         |some l=> .ret [.tm d (Kv .i64 (l:Nat))]
         |none=> .fail else .fail
       |_,_=> .fail
     | .builtin .append,[x,y]=>(zA E s x (fF E o.type)).bind fun(ag,cs,us)=>match cs with
       | [⟨.dl es,.own,l⟩]=>(zA E (s.dI us) y []).bind fun(ag2,ds,us2)=>match ag,ag2,ds,c.argTypes.toList with
         |false,false,[⟨.dl es',.own,m⟩],[t,u]=>bif Dt E t ⟨.dl es,.own,l⟩&&Dt E u ⟨.dl es',.own,m⟩then match jd ⟨.dl es',.own,m⟩ (.dl es)with
          |some m=> .chk (decide (List.length l+List.length m≤au)) (.ret (us++us2++[.tm d (.val false [⟨.dl es,.own,List.append l m⟩])]))
          |none=> .fail
          else .fail
         |_,_,_,_=> .fail
       |_=>(P5 E s (s.dI us) y (fF E o.type)).bind fun ds=>match ag,cs,ds,c.argTypes.toList with
        |false,[q],[e],[t,u]=>bif Dt E t q&&Dt E u e then(adq q e).bind fun r=>bif aea E d then(acT E (s.dI us) x d q r).bind fun vs=> .ret (us++vs)else .ret (us++[.tm d (.val false [r])])else .fail
        |_,_,_,_=> .fail
     | .builtin .copy,[x,y]=>(GK E s y).bind fun ds=>match ds,c.argTypes.toList,at_ E s x with
       | [e],[t,u],.rsub p _ lo hi=>vU E s d t u e p lo (some hi)
       | [e],[t,u],.ref p false 1=>vU E s d t u e p 0 none
       |_,_,_=> .fail
     | .builtin b,[x,y]=>match qg E s x,qg E s y with
       |some (k,x),some (k',y)=>match UY b x y with
        |some z=>bif decide (k=k')then .ret [.tm d (Kv k z)]else .fail
        |none=> .fail
       |_,_=> .fail
     | .value f,xs=>match at_ E s f with
       | .fn f=>bif Nat.beq (E.sig (E.spec d)).fn f then Ko E s d xs [] (E.spec d)else .fail
       | .clo f ts=>bif Nat.beq (E.sig (E.spec d)).fn f then Ko E s d xs ts (E.spec d)else .fail
       |_=> .fail
     |_,_=> .fail
   |_=> .fail
inductive Loc where
 |tm (n:Nat)|bx (n:Nat)
 |id (n:Nat)
 |bi (n:Nat)
 |bc (n i:Nat)
def Loc.same:Loc→Loc→Bool
 | .tm a,.tm b=>Nat.beq a b
 | .bx a,.bx b=>Nat.beq a b
 | .id a,.id b=>Nat.beq a b
 | .bi a,.bi b=>Nat.beq a b
 | .bc a i,.bc b j=>Nat.beq a b&&Nat.beq i j
 | .bx a,.bi b=>Nat.beq a b
 | .bi a,.bx b=>Nat.beq a b
 | .bx a,.bc b _=>Nat.beq a b
 | .bc a _,.bx b=>Nat.beq a b
 |_,_=>false
def Root.loc:Root→Loc| .tmp n=> .tm n| .box n=> .bx n
def T.loc:T→List Loc
 | .ref p _ _=>[p.root.loc]
 | .rsub p _ _ _=>[p.root.loc]
 | .addr p=>[p.root.loc]
 | .rowr p _ _=>[p.root.loc]
 | .addr2 p _ _=>[p.root.loc]
 | .ext p _ _=>[p.root.loc]
 |_=>[]
def T.rG:T→List Loc
 | .clo _ ts=>ts.flatMap T.loc
 |t=>t.loc
def pq (s:St):Operand→List Loc
 | .tmp t=> .tm t::(s.tm t).1.rG
 |_=>[]
def AU (s:St) (t k:Nat):List Loc:=
 match(s.tm t).1 with
 | .addr p=>match p.root,p.sub with
   | .box n,none=> .tm t:: .bi n::(List.range (max k p.vers.length)).map fun i=> .bc n (p.cell+i)
   |_,_=> .tm t::(T.addr p).rG
 |x=> .tm t::x.rG
def Tf (s:St) (t:Nat):List Loc:=
 match(s.tm t).1 with
 | .ref p ag k=>match p.root,p.sub with
   | .box n,none=> .tm t:: .bi n::(List.range (max k p.vers.length)).map fun i=> .bc n (p.cell+i)
   |_,_=> .tm t::(T.ref p ag k).rG
 |x=> .tm t::x.rG
def Yw (op:Op):Option Nat:=match op with
 | .call c=>match c.callee,c.args.toList with
   | .builtin .len,[.tmp t]=>some t
   |_,_=>none
 |_=>none
def Ud (E:Env) (s:St) (op:Op):List Loc:=
 match op with
 | .move (.tmp t)=>[.id t]
 | .load ty (.tmp t)=>AU s t (fF E ty).length
 | .nilCheck (.tmp t)=>AU s t 0
 | .fieldAddr _ (.tmp t) _=>AU s t 0
 |op=>op.operands.toList.flatMap (pq s)
def OO (E:Env) (s:St) (op:Op):List Loc:=
 match Yw op with
 |some t=>Tf s t
 |none=>Ud E s op
def ug (E:Env) (s:St) (o:Oper):List Loc:=OO E s o.op++(match o.op,o.dst with| .alloc _,some d=>[.bx d]| .box _ _,some d=>[.bx d]|_,_=>[])
def Ii:T→T→Bool
 | .val ag cs,.val ag' cs'=>(ag==ag')&& !bg cs&& !bg cs'&&Nat.beq cs.length cs'.length
 |_,_=>false
def Upd.rG (s:St):Upd→List Loc
 | .tm n _=>[.tm n,.id n]
 | .keep n t=>bif Ii (s.tm n).1 t then[.tm n]else[.tm n,.id n]
 | .bx n _=>[.bx n]
 | .cl n l=>l.map fun x=> .bc n x.1
def y8:St→List Upd→List Loc
 |_,[]=>[]
 |s,u::us=>u.rG s++y8 (u.on s) us
def Ug (us:List Upd):List Loc:=us.flatMap fun u=>match u with| .keep n _=>[.id n]|_=>[]
def meets (aZ bs:List Loc):Bool:=aZ.any fun a=>bs.any fun b=>a.same b
structure AO where
 r:List Loc
 w:List Loc
def AO.clash (a b:AO):Bool:=meets a.w (b.r++b.w)||meets b.w a.r
def wS (acc:List (List Nat)):List Edge→List Nat
 | []=>[]
 |e::es=>bif Region.binds .any e then e.on::(acc.getD e.on []++wS acc es)else wS acc es
def LH:List Oper→List (List Nat)→List (List Nat)
 | [],acc=>acc
 |o::os,acc=>LH os (acc++[wS acc o.after.toList])
def ordered (ahead:List Nat) (f:AO):List AO→Nat→Bool
 | [],_=>true
 |g::gs,i=>(!(AO.clash g f)||ahead.any (Nat.beq i))&&ordered ahead f gs (i+1)
def guards (ops:List Oper) (j:Nat):Bool:=ops.any fun o=>match o.guard with|some (i,_)=>Nat.beq i j|none=>false
def Vk (ops:List Oper) (j:Nat):Option Tmp:=match ops[j]? with|some o=>o.dst|none=>none
def zI (s:St) (d:Option Tmp):Option (Option Bool):=
 match d with
 |some d=>match(s.tm d).1 with
  | .val false [⟨.bool,.pure,b⟩]=>some (some b)
  | .undef=>some none
  |_=>none
 |none=>none
def splitAt {ρ:Type} (s:St) (d:Option Tmp) (k:St→Option ρ):Option ρ:=
 match d with
 |none=>k s
 |some d=>match s.tm d with
  |(.val false [⟨.bool,.pure,b⟩],v)=>
   bif b then k {s with tm:=put s.tm d (.val false [⟨.bool,.pure,true⟩],v)}else k {s with tm:=put s.tm d (.val false [⟨.bool,.pure,false⟩],v)}
  |_=>k s
def sW (o:Oper):List Upd:=match o.dst with|some d=>[.tm d .undef]|none=>[]
def Jc (E:Env) (o:Oper):Bool:=match o.dst with|some d=> !(E.fix d)&&Nat.blt d E.nt|none=>true
def FT (E:Env) (draw:Bool) (all:List Oper) (ah:List (List Nat)) {ρ:Type}:List Oper→Nat→List AO→St→(St→Option ρ)→Option ρ
 | [],_,_,s,k=>k s
 |o::os,j,fs,s,k=>
  let go (us:List Upd) (f:AO):Option ρ:=
   bif Jc E o&&(!draw||ordered (ah.getD j []) f fs 0)then
    bif guards all j then splitAt (s.dI us) o.dst (fun s'=>FT E draw all ah os (j+1) (fs++[f]) s' k)
    else FT E draw all ah os (j+1) (fs++[f]) (s.dI us) k
   else none
  match o.guard with
  |none=>(plan E o s).runK fun us=>go us ⟨ug E s o++Ug us,y8 s us⟩
  |some (i,want)=>match zI s (Vk all i),Vk all i with
   |some (some b),some g=>bif b==want then(plan E o s).runK fun us=>go us ⟨.tm g::(ug E s o++Ug us),y8 s us⟩
    else go (sW o) ⟨[.tm g],y8 s (sW o)⟩
   |some none,some g=>go (sW o) ⟨[.tm g],y8 s (sW o)⟩
   |_,_=>none
def EM:List Oper→Nat→Bool
 | [],_=>true
 |o::os,j=>(o.after.toList.all fun e=> !(Region.binds .any e)||Nat.blt e.on j)&&EM os (j+1)
def Eh (E:Env) (ops:List Oper) (draw:Bool) {ρ:Type} (s:St) (k:St→Option ρ):Option ρ:=
 bif !draw||EM ops 0 then FT E draw ops (bif draw then LH ops []else[]) ops 0 [] s k else none
inductive JE where
 |tm (n:Nat) (ag:Bool) (cells:List (Sh×Tg))
 |bx (n:Nat) (cells:List (Sh×Tg))
 |adr (n:Nat) (root:Root) (cell:Nat)
 |rf (n:Nat) (root:Root) (cell:Nat) (ag:Bool) (len:Nat)
 |rs (n:Nat) (root:Root) (cell:Nat) (z:Bool)
 |fn (n:Nat) (f:FuncId)
 |clo (n:Nat) (f:FuncId) (caps:List (Root×Nat))
 |pad (n:Nat) (cells:List (Sh×Tg)) (off:Nat)
 |cpd (n:Nat) (f:FuncId) (cells:List (Sh×Tg))
def JE.cells:JE→List (Sh×Tg)
 | .tm _ _ cs=>cs
 | .bx _ cs=>cs
 | .pad _ cs _=>cs
 | .cpd _ _ cs=>cs
 | .rs _ _ _ _=>[(.int .i64,.pure),(.int .i64,.pure)]
 |_=>[]
abbrev J:=List JE
def J.cells (j:J):List (Sh×Tg):=j.flatMap JE.cells
abbrev J.V (j:J):Type:=ElA (J.cells j |>.map (·.1))
def Root.same:Root→Root→Bool
 | .tmp a,.tmp b=>Nat.beq a b
 | .box a,.box b=>Nat.beq a b
 |_,_=>false
def JE.tgt:JE→Loc
 | .tm n _ _=> .tm n
 | .bx n _=> .bx n
 | .adr n _ _=> .tm n
 | .rf n _ _ _ _=> .tm n
 | .rs n _ _ _=> .tm n
 | .fn n _=> .tm n
 | .clo n _ _=> .tm n
 | .pad n _ _=> .tm n
 | .cpd n _ _=> .tm n
def jOk:J→Bool
 | []=>true
 |e::j=>(j.all fun e'=> !(e.tgt.same e'.tgt))&&jOk j
def jS (s:St):List T→List (Root×Nat)→Bool
 | [],[]=>true
 | .addr p::ts,(root,cell)::cs=>(match aA s root with
   |some (inst,_)=>Root.same p.root root&&Nat.beq p.cell cell&&Nat.beq p.inst inst&&(match p.sub with|none=>true|_=>false)
   |none=>false)&&jS s ts cs
 |_,_=>false
def kH (s:St):JE→Option (List CV)
 | .tm n ag want=>match(s.tm n).1 with
   | .val ag' cs=>bif ag==ag' then weaken cs want else none
   |_=>none
 | .bx n want=>match s.bx n with
   |some b=>weaken (b.cells.map (·.1)) want
   |none=>none
 | .adr n root cell=>match(s.tm n).1,aA s root with
   | .addr p,some (inst,_)=>bif Root.same p.root root&&Nat.beq p.cell cell&&Nat.beq p.inst inst&&(match p.sub with|none=>true|_=>false)then some []else none
   |_,_=>none
 | .rf n root cell ag len=>match(s.tm n).1 with
   | .ref p ag' len'=>match aU s p len with
     |some _=>bif Root.same p.root root&&Nat.beq p.cell cell&&(ag==ag')&&Nat.beq len len'&&Nat.beq p.vers.length len&&(match p.sub with|none=>true|_=>false)then some []else none
     |none=>none
   |_=>none
 | .rs n root cell z=>match(s.tm n).1 with
   | .rsub p z' lo hi=>match aU s p 1 with
     |some _=>bif Root.same p.root root&&Nat.beq p.cell cell&&(z==z')&&Nat.beq p.vers.length 1&&(match p.sub with|none=>true|_=>false)then some [⟨.int .i64,.pure,(lo:Int)⟩,⟨.int .i64,.pure,(hi:Int)⟩]else none
     |none=>none
   |_=>none
 | .fn n f=>match(s.tm n).1 with
   | .fn g=>bif Nat.beq f g then some []else none
   |_=>none
 | .clo n f caps=>match(s.tm n).1 with
   | .clo g ts=>bif Nat.beq f g&&jS s ts caps then some []else none
   |_=>none
 | .pad n want off=>match(s.tm n).1 with
   | .paddr cs off'=>bif Nat.beq off off' then match weaken cs want with
     |some ds=>bif bg ds then some ds else none
     |none=>none else none
   |_=>none
 | .cpd n f want=>match(s.tm n).1 with
   | .clo g [.paddr cs 0]=>bif Nat.beq f g then match weaken cs want with
     |some ds=>bif bg ds then some ds else none
     |none=>none else none
   |_=>none
def packs (s:St):J→Option (List CV)
 | []=>some []
 |e::j=>match kH s e,packs s j with
  |some cs,some ds=>some (cs++ds)
  |_,_=>none
def pack (j:J) (s:St):Option j.V:=match packs s j with|some cs=>fH _ cs|none=>none
def aak (E:Env) (s:St):Bool:=E.kept.all fun x=>match aU s ⟨.box x.1,0,[0],x.2,none⟩ 1 with|some _=>true|none=>false
def Tq (E:Env) (j:J) (s:St):Option j.V:=bif aak E s then pack j s else none
def aaQ (c:CV):Nat:=match c with|⟨.int _,_,x⟩=>Int.toNat x|_=>0
def qw:St:=⟨fun _=>(.dead,0),fun _=>none⟩
def dN (s:St) (cs:List CV):JE→St
 | .tm n ag _=>{s with tm:=put s.tm n (.val ag cs,0)}
 | .bx n _=>{s with bx:=put s.bx n (some ⟨0,cs.map fun c=>(c,0)⟩)}
 | .adr n root cell=>{s with tm:=put s.tm n (.addr ⟨root,0,[],cell,none⟩,0)}
 | .rf n root cell ag len=>{s with tm:=put s.tm n (.ref ⟨root,0,List.replicate len 0,cell,none⟩ ag len,0)}
 | .rs n root cell z=>match cs with
   | [a,b]=>{s with tm:=put s.tm n (.rsub ⟨root,0,[0],cell,none⟩ z (aaQ a) (aaQ b),0)}
   |_=>s
 | .fn n f=>{s with tm:=put s.tm n (.fn f,0)}
 | .clo n f caps=>{s with tm:=put s.tm n (.clo f (caps.map fun x=> .addr ⟨x.1,0,[],x.2,none⟩),0)}
 | .pad n _ off=>{s with tm:=put s.tm n (.paddr cs off,0)}
 | .cpd n f _=>{s with tm:=put s.tm n (.clo f [.paddr cs 0],0)}
def unpacks (s:St):List CV→J→St
 |_,[]=>s
 |cs,e::j=>unpacks (dN s (cs.take e.cells.length) e) (cs.drop e.cells.length) j
def unpack (j:J) (x:j.V):St:=unpacks qw (retag (J.cells j) (cellsOf _ x)) j
inductive H where
 |o
 |s (a b:H)
 |j (j:J) (a:H)
 |jr (j:J) (a:H)
 |st (m:Nat) (a b:H)
inductive Ex where
 |normal|exit (id:Nat)|ret
def W9 (E:Env) {ρ:Type} (j:J) (m:(Ex→St→Option j.V)→Option j.V) (k:Ex→St→Option ρ):Option ρ:=
 bif jOk j then(m fun e s=>match e with| .normal=>Tq E j s|_=>none).bind fun x=>k .normal (unpack j x)else none
def ZB (E:Env) {ρ:Type} (j:J) (m:(Ex→St→Option (Sum j.V ρ))→Option (Sum j.V ρ)) (k:Ex→St→Option ρ):Option ρ:=
 bif jOk j then(m fun e s=>match e with
  | .normal=>(Tq E j s).bind fun x=>some (.inl x)
  |e=>(k e s).bind fun r=>some (.inr r)).bind fun r=>match r with
  | .inl x=>k .normal (unpack j x)
  | .inr r=>some r
 else none
def dD {α ρ:Type} (body:α→(α→Option ρ)→Option ρ):Nat→α→Option ρ
 |0,_=>none
 |n+1,x=>body x (dD body n)
def inBlock {ρ:Type} (id:Nat) (k:Ex→St→Option ρ):Ex→St→Option ρ
 | .exit i,s=>bif Nat.beq i id then k .normal s else k (.exit i) s
 |e,s=>k e s
def aay (s:St) (m:Nat):Dyn (List Upd):=
 match(s.tm m).1 with
 | .val false [⟨.dl es,.own,l⟩]=> .idx (qh l) fun l'=> .ret [.tm m (.val false [⟨.sl es,.own,l'⟩])]
 |_=> .fail
def ev (E:Env) (n:Nat):Code→H→{ρ:Type}→St→(Ex→St→Option ρ)→Option ρ
 | .skip,_,_,s,k=>k .normal s
 | .exit id,_,_,s,k=>k (.exit id) s
 | .ret,_,_,s,k=>k .ret s
 | .label _,_,_,s,k=>k .normal s
 | .scope c,h,_,s,k=>ev E n c h s k
 | .region _ ops draw,h,_,s,k=>match h with
   | .j j _=>W9 E j (fun kk=>Eh E ops.toList draw s (kk .normal)) k
   |_=>Eh E ops.toList draw s (k .normal)
 | .seq a b,h,_,s,k=>match h with
   | .s ha hb=>ev E n a ha s fun e s'=>match e with
     | .normal=>ev E n b hb s' k
     |e=>k e s'
   | .st m ha hb=>ev E n a ha s fun e s'=>match e with
     | .normal=>(aay s' m).runK fun us=>ev E n b hb (s'.dI us) k
     |e=>k e s'
   |_=>none
 | .cond c x y,h,_,s,k=>match uo E s c,h with
   |some b,.s hx hy=>bif b then ev E n x hx s k else ev E n y hy s k
   |some b,.j j (.s hx hy)=>W9 E j (fun kk=>bif b then ev E n x hx s kk else ev E n y hy s kk) k
   |some b,.jr j (.s hx hy)=>ZB E j (fun kk=>bif b then ev E n x hx s kk else ev E n y hy s kk) k
   |_,_=>none
 | .block id c,h,_,s,k=>match h with
   | .s hc _=>ev E n c hc s (inBlock id k)
   | .j j hc=>W9 E j (fun kk=>ev E n c hc s (inBlock id kk)) k
   | .jr j hc=>ZB E j (fun kk=>ev E n c hc s (inBlock id kk)) k
   |_=>none
 | .loop c,h,ρ,s,k=>match h with
   | .j j hc=>bif !(jOk j)then none else(Tq E j s).bind fun x=>dD (ρ:=ρ) (fun x rec=>ev E n c hc (unpack j x) fun e s'=>match e with
     | .normal=>(Tq E j s').bind rec
     |e=>k e s') n x
   |_=>none
 |_,_,_,_,_=>none
def oH:List PK→Nat→List CV→St→St
 | [],_,_,s=>s
 | .val ag want::ps,i,cs,s=>oH ps (i+1) (cs.drop want.length) {s with tm:=put s.tm i (.val ag (cs.take want.length),0)}
 | .ptr want::ps,i,cs,s=>oH ps (i+1) (cs.drop want.length)
  {tm:=put s.tm i (.addr ⟨.box i,0,[],0,none⟩,0),bx:=put s.bx i (some ⟨0,(cs.take want.length).map fun c=>(c,0)⟩)}
 | .rptr want::ps,i,cs,s=>oH ps (i+1) (cs.drop want.length) {s with tm:=put s.tm i (.paddr (cs.take want.length) 0,0)}
 | .fn f::ps,i,cs,s=>oH ps (i+1) cs {s with tm:=put s.tm i (.fn f,0)}
 | .io want::ps,i,cs,s=>oH ps (i+1) (cs.drop want.length) {s with tm:=put s.tm i (.val false (cs.take want.length),0)}
 | .clo f want::ps,i,cs,s=>oH ps (i+1) (cs.drop want.length) {s with tm:=put s.tm i (.clo f [.paddr (cs.take want.length) 0],0)}
def enter (g:Sig) (x:g.In):St:=oH g.params 0 (retag g.ins (cellsOf _ x)) qw
def rP (E:Env) (s:St):List ResultVar→List (Bool×List (Sh×Tg))→Option (List CV×St)
 | [],[]=>some ([],s)
 | .tmp t::vs,(ag,want)::rs=>match(Jr s (s.tm t).1 (.tmp t) ag want).run with
   |some (cs,us)=>match rP E (s.dI us) vs rs with
    |some (ds,s')=>some (cs++ds,s')
    |none=>none
   |none=>none
 | .cell t ty::vs,(ag,want)::rs=>match(s.tm t).1,E.ty ty with
   | .addr p,some i=>match p.sub,aU s p want.length with
     |none,some cs=>bif (i.ag==ag)&&Nat.beq i.cells.length want.length&&(ag||Cc cs)then
      match weaken cs want,iY s p (fV cs want) false with
      |some ds,some us=>match rP E (s.dI us) vs rs with
       |some (ds',s')=>some (ds++ds',s')
       |none=>none
      |_,_=>none
      else none
     |_,_=>none
   |_,_=>none
 |_,_=>none
def asIs:List CV→List (Sh×Tg)→Option (List CV)
 | [],[]=>some []
 |c::cs,(sh,tg)::want=>bif Sh.beq c.sh sh&&Tg.le tg c.tg&&Tg.le c.tg tg then(asIs cs want).map (c:: ·)else none
 |_,_=>none
def qF (s:St):List PK→Nat→Option (List CV)
 | [],_=>some []
 | .val _ _::ps,i=>qF s ps (i+1)
 | .rptr _::ps,i=>qF s ps (i+1)
 | .fn _::ps,i=>qF s ps (i+1)
 | .clo _ _::ps,i=>qF s ps (i+1)
 | .io want::ps,i=>match(s.tm i).1,qF s ps (i+1)with
   | .val false cs,some ds=>(asIs cs want).map (· ++ds)
   |_,_=>none
 | .ptr want::ps,i=>match(s.tm i).1,s.bx i,qF s ps (i+1)with
   | .addr p,some b,some ds=>bif Nat.beq p.inst b.inst&&Root.same p.root (.box i)&&Nat.beq p.cell 0&&(match p.sub with|none=>true|_=>false)then(asIs (b.cells.map (·.1)) want).map (· ++ds)else none
   |_,_,_=>none
def leave (E:Env) (g:Sig) (rs:List ResultVar) (s:St):Option g.Out:=
 bif aak E s then match rP E s rs g.res with
 |some (cs,s')=>match qF s' g.params 0 with
  |some ds=>fH _ (cs++ds)
  |none=>none
 |none=>none else none
def look (l:List (Nat×Nat)) (d:Nat):Nat:=match l with| []=>0|(a,b)::l=>bif Nat.beq a d then b else look l d
structure Spec where
 sig:Sig
 fn:Func
 h:H
 calls:List (Nat×Nat)
 ext:Option (sig.In→Option sig.Out)
structure Prg where
 ty:TypeId→Option TyI
 glob:Nat→Option (List CV)
 spec:Nat→Spec
abbrev Prg.Fs (p:Prg):Type:=(i:Nat)→(p.spec i).sig.In→Option (p.spec i).sig.Out
def Prg.env (p:Prg) (i:Nat) (f:p.Fs):Env:=⟨(p.spec i).fn.ntmps,YX (p.spec i).sig.params,p.ty,p.glob,fun i=>(p.spec i).sig,look (p.spec i).calls,f,RQ (p.spec i).sig.params 0⟩
def Prg.phi (p:Prg) (i:Nat) (n:Nat) (f:p.Fs) (x:(p.spec i).sig.In):Option (p.spec i).sig.Out:=
 match(p.spec i).ext with
 |some e=>e x
 |none=>ev (p.env i f) n ((p.spec i).fn.body.getD (.refuse "")) (p.spec i).h (enter (p.spec i).sig x) fun e s=>match e with
  | .exit _=>none
  |_=>leave (p.env i f) (p.spec i).sig (p.spec i).fn.results.toList s
def Prg.run (p:Prg):Nat→p.Fs
 |0=>fun _ _=>none
 |n+1=>fun i x=>p.phi i n (p.run n) x
end Go.AM
end
section
set_option linter.unusedVariables false
namespace Go.AM
open Go
abbrev Fz:=Nat→Nat→Prop
def NZ (w:World) (F:Fz) (ad:Addr) (cs:List Value):Prop:=
 ∀j,j<cs.length→w.cell? ⟨ad.block,ad.off+j,none⟩=cs[j]? ∧F ad.block (ad.off+j)
def dY {α:Type} (R:α→List Value→Prop):List α→List Value→Prop
 | [],cs=>cs= []
 |x::xs,cs=> ∃c1 c2,cs=c1++c2∧R x c1∧dY R xs c2
def DJ (w:World) (F:Fz) (len:Nat) (el:List Value→Prop) (v:Value):Prop:=
 ∃A c,v= .slice A len c∧len≤c∧(len=0∨ ∃ad cs,A=some ad∧ad.spot=none∧NZ w F ad cs∧el cs)
mutual
def oJ {α:Type} (w:World) (F:Fz) (R:α→List Value→Prop):RT α→List Value→Prop
 | .mk a kids,cs=> ∃c1 v,cs=c1++[v]∧R a c1∧DJ w F kids.length (iH w F R kids) v
def iH {α:Type} (w:World) (F:Fz) (R:α→List Value→Prop):List (RT α)→List Value→Prop
 | [],cs=>cs= []
 |t::ts,cs=> ∃c1 c2,cs=c1++c2∧oJ w F R t c1∧iH w F R ts c2
end
mutual
def iR (w:World) (F:Fz):(sh:Sh)→El sh→Value→Prop
 | .int k,n,v=>v= .int k n
 | .bool,b,v=>v= .bool b
 | .str,b,v=>v= .string b
 | .sl es,l,v=>DJ w F (List.length l) (dY (dK w F es) l) v
 | .rsl ss,l,v=>DJ w F (List.length l) (iH w F (dK w F ss) l) v
 | .dl _,_,_=>False
 | .mp _ _,_,_=>False
def dK (w:World) (F:Fz):(es:List Sh)→ElA es→List Value→Prop
 | [],_,cs=>cs= []
 |s::ss,x,cs=>match ss,x with
  | [],x=> ∃v,cs= [v]∧iR w F s x v
  |t::ts,x=> ∃v cs',cs=v::cs'∧iR w F s x.1 v∧dK w F (t::ts) x.2 cs'
end
structure Keeps (w w':World) (F F':Fz):Prop where
 sub: ∀b o,F b o→F' b o
 cell: ∀b o,F b o→w'.cell? ⟨b,o,none⟩=w.cell? ⟨b,o,none⟩
theorem Keeps.refl (w:World) (F:Fz):Keeps w w F F:=⟨fun _ _ h=>h,fun _ _ _=>rfl⟩
theorem Keeps.trans {a b c:World} {F G H:Fz} (h:Keeps a b F G) (k:Keeps b c G H):Keeps a c F H:=
 ⟨fun x o f=>k.sub x o (h.sub x o f),fun x o f=>(k.cell x o (h.sub x o f)).trans (h.cell x o f)⟩
section
variable {w w':World} {F F':Fz}
theorem NZ.keeps (k:Keeps w w' F F') {ad:Addr} {cs:List Value} (h:NZ w F ad cs):NZ w' F' ad cs:=
 fun j hj=>⟨(k.cell _ _ (h j hj).2).trans (h j hj).1,k.sub _ _ (h j hj).2⟩
theorem dY.imp {α:Type} {R R':α→List Value→Prop} (hr: ∀x cs,R x cs→R' x cs): ∀(l:List α) cs,dY R l cs→dY R' l cs
 | [],_,h=>h
 |x::xs,_,⟨c1,c2,e,h1,h2⟩=>⟨c1,c2,e,hr _ _ h1,dY.imp hr xs c2 h2⟩
theorem DJ.imp (k:Keeps w w' F F') {len:Nat} {el el':List Value→Prop} (he: ∀cs,el cs→el' cs) {v:Value} (h:DJ w F len el v):DJ w' F' len el' v:=by
 obtain⟨A,c,hv,hl,h⟩:=h
 refine⟨A,c,hv,hl,?_⟩
 rcases h with h|⟨ad,cs,ha,hs,hr,h⟩
 ·exact .inl h
 ·exact .inr ⟨ad,cs,ha,hs,hr.keeps k,he _ h⟩
mutual
theorem oJ.imp {α:Type} (k:Keeps w w' F F') {R R':α→List Value→Prop} (hr: ∀x cs,R x cs→R' x cs): ∀(t:RT α) cs,oJ w F R t cs→oJ w' F' R' t cs
 | .mk a kids,cs,h=>by
   unfold oJ at h ⊢
   obtain⟨c1,v,e,h1,h2⟩:=h
   exact⟨c1,v,e,hr _ _ h1,h2.imp k (fun cs h=>iH.imp k hr kids cs h)⟩
theorem iH.imp {α:Type} (k:Keeps w w' F F') {R R':α→List Value→Prop} (hr: ∀x cs,R x cs→R' x cs): ∀(ts:List (RT α)) cs,iH w F R ts cs→iH w' F' R' ts cs
 | [],cs,h=>by unfold iH at h ⊢;exact h
 |t::ts,cs,h=>by
  unfold iH at h ⊢
  obtain⟨c1,c2,e,h1,h2⟩:=h
  exact⟨c1,c2,e,oJ.imp k hr t c1 h1,iH.imp k hr ts c2 h2⟩
end
mutual
theorem iR.keeps (k:Keeps w w' F F'): ∀(sh:Sh) (x:El sh) v,iR w F sh x v→iR w' F' sh x v
 | .int _,_,_,h=>h
 | .bool,_,_,h=>h
 | .str,_,_,h=>h
 | .sl es,l,v,h=>by
   simp only[iR]at h ⊢
   exact h.imp k (fun cs h=>dY.imp (fun x cs h=>dK.keeps k es x cs h) l cs h)
 | .rsl ss,l,v,h=>by
   simp only[iR]at h ⊢
   exact h.imp k (fun cs h=>iH.imp k (fun x cs h=>dK.keeps k ss x cs h) l cs h)
 | .dl es,l,v,h=>by simp only[iR]at h
 | .mp _ _,l,v,h=>by simp only[iR]at h
theorem dK.keeps (k:Keeps w w' F F'): ∀(es:List Sh) (x:ElA es) cs,dK w F es x cs→dK w' F' es x cs
 | [],_,_,h=>h
 | [s],x,cs,h=>by
   simp only[dK]at h ⊢
   obtain⟨v,e,h⟩:=h
   exact⟨v,e,iR.keeps k s x v h⟩
 |s::t::ss,x,cs,h=>by
  simp only[dK]at h ⊢
  obtain⟨v,c,e,h1,h2⟩:=h
  exact⟨v,c,e,iR.keeps k s x.1 v h1,dK.keeps k (t::ss) x.2 c h2⟩
end
end
theorem dK.length {w:World} {F:Fz}: ∀(es:List Sh) (x:ElA es) cs,dK w F es x cs→cs.length=es.length
 | [],_,_,h=>by simp only[dK]at h;simp[h]
 | [s],x,cs,h=>by
   simp only[dK]at h
   obtain⟨v,e,h⟩:=h
   simp[e]
 |s::t::ss,x,cs,h=>by
  simp only[dK]at h
  obtain⟨v,c,e,h1,h2⟩:=h
  have:=dK.length (t::ss) x.2 c h2
  simp[e,this]
theorem oJ.length {α:Type} {w:World} {F:Fz} {R:α→List Value→Prop} {n:Nat} (hr: ∀x cs,R x cs→cs.length=n) (t:RT α) (cs:List Value) (h:oJ w F R t cs):cs.length=n+1:=by
 cases t
 unfold oJ at h
 obtain⟨c1,v,e,h1,h2⟩:=h
 simp[e,hr _ _ h1]
structure I9 {α:Type} (n:Nat) (R:α→List Value→Prop) (L:List α→List Value→Prop):Prop where
 len: ∀x cs,R x cs→cs.length=n
 nil: ∀cs,L [] cs ↔ cs= []
 cons: ∀x xs cs,L (x::xs) cs ↔ ∃c1 c2,cs=c1++c2∧R x c1∧L xs c2
theorem iW {w:World} {F:Fz} (es:List Sh):I9 es.length (dK w F es) (dY (dK w F es)):=
 ⟨dK.length es,fun _=>Iff.rfl,fun _ _ _=>Iff.rfl⟩
theorem jA {w:World} {F:Fz} (ss:List Sh):I9 (ss.length+1) (oJ w F (dK w F ss)) (iH w F (dK w F ss)):=
 ⟨oJ.length (dK.length ss),fun _=>by unfold iH;exact Iff.rfl,fun _ _ _=>by conv=>lhs;unfold iH⟩
namespace I9
variable {α:Type} {n:Nat} {R:α→List Value→Prop} {L:List α→List Value→Prop}
theorem length (h:I9 n R L): ∀(l:List α) cs,L l cs→cs.length=l.length*n
 | [],cs,hl=>by rw[(h.nil cs).1 hl];simp
 |x::xs,cs,hl=>by
  obtain⟨c1,c2,e,h1,h2⟩:=(h.cons x xs cs).1 hl
  have:=h.length xs c2 h2
  have:=h.len x c1 h1
  simp[*,Nat.add_mul,Nat.add_comm]
theorem append (h:I9 n R L): ∀(l m:List α) cs ds,L l cs→L m ds→L (l++m) (cs++ds)
 | [],m,cs,ds,hl,hm=>by rw[(h.nil cs).1 hl];exact hm
 |x::xs,m,cs,ds,hl,hm=>by
  obtain⟨c1,c2,e,h1,h2⟩:=(h.cons x xs cs).1 hl
  exact(h.cons x (xs++m) _).2 ⟨c1,c2++ds,by simp[e],h1,h.append xs m c2 ds h2 hm⟩
theorem split (h:I9 n R L): ∀(l m:List α) cs,L (l++m) cs→L l (cs.take (l.length*n))∧L m (cs.drop (l.length*n))
 | [],m,cs,hl=>by simp only[List.length_nil,Nat.zero_mul,List.take_zero,List.drop_zero];exact⟨(h.nil _).2 rfl,hl⟩
 |x::xs,m,cs,hl=>by
  obtain⟨c1,c2,e,h1,h2⟩:=(h.cons x (xs++m) cs).1 hl
  have hn:=h.len x c1 h1
  obtain⟨k1,k2⟩:=h.split xs m c2 h2
  have e1:(x::xs).length*n=c1.length+xs.length*n:=by simp[hn,Nat.add_mul,Nat.add_comm]
  refine⟨(h.cons x xs _).2 ⟨c1,c2.take (xs.length*n),?_,h1,k1⟩,?_⟩
  ·rw[e1,e,List.take_append];simp[List.take_of_length_le]
  ·rw[e1,e,List.drop_append,List.drop_of_length_le (by omega)];simpa using k2
theorem take (h:I9 n R L) (l:List α) (cs:List Value) (k:Nat) (hl:L l cs):L (l.take k) (cs.take (k*n)):=by
 have:=(h.split (l.take k) (l.drop k) cs (by simpa using hl)).1
 by_cases hk:k≤l.length
 ·simpa [Nat.min_eq_left hk]using this
 ·have h2:=h.length l cs hl
  have hk':l.length≤k:=by omega
  rw[List.take_of_length_le (l:=cs) (by rw[h2];exact Nat.mul_le_mul_right _ hk')]
  rw[List.take_of_length_le hk'];exact hl
theorem drop (h:I9 n R L) (l:List α) (cs:List Value) (k:Nat) (hl:L l cs):L (l.drop k) (cs.drop (k*n)):=by
 by_cases hk:k≤l.length
 ·have:=(h.split (l.take k) (l.drop k) cs (by simpa using hl)).2
  simpa [Nat.min_eq_left hk]using this
 ·have h2:=h.length l cs hl
  have hk':l.length≤k:=by omega
  rw[List.drop_of_length_le hk',List.drop_of_length_le (by rw[h2];exact Nat.mul_le_mul_right _ hk')]
  exact(h.nil _).2 rfl
theorem get (h:I9 n R L) (l:List α) (cs:List Value) (hl:L l cs) (i:Nat) (x:α) (hx:l[i]? =some x):R x ((cs.drop (i*n)).take n):=by
 have hd:=h.drop l cs i hl
 have hi:i<l.length:=by
  rcases Nat.lt_or_ge i l.length with h|h
  ·exact h
  ·simp[List.getElem?_eq_none h]at hx
 have e:l.drop i=x::l.drop (i+1):=by
  rw[List.drop_eq_getElem_cons hi]
  simp[List.getElem?_eq_getElem hi]at hx
  rw[hx]
 rw[e]at hd
 obtain⟨c1,c2,e,h1,h2⟩:=(h.cons _ _ _).1 hd
 rw[e,←h.len x c1 h1];simpa using h1
theorem set (h:I9 n R L) (l:List α) (cs:List Value) (hl:L l cs) (i:Nat) (hi:i<l.length) (x:α) (ds:List Value) (hx:R x ds):L (l.set i x) (cs.take (i*n)++ds++cs.drop ((i+1)*n)):=by
 have h1:=h.take l cs i hl
 have h2:=h.drop l cs (i+1) hl
 rw[List.set_eq_take_append_cons_drop,if_pos hi]
 have:=h.append _ _ _ _ h1 ((h.cons x (l.drop (i+1)) _).2 ⟨ds,_,rfl,hx,h2⟩)
 simpa using this
theorem imp {R':α→List Value→Prop} {L':List α→List Value→Prop} (h:I9 n R L) (h':I9 n R' L') (hr: ∀x cs,R x cs→R' x cs): ∀(l:List α) cs,L l cs→L' l cs
 | [],cs,hl=>(h'.nil cs).2 ((h.nil cs).1 hl)
 |x::xs,cs,hl=>by
  obtain⟨c1,c2,e,h1,h2⟩:=(h.cons x xs cs).1 hl
  exact(h'.cons x xs cs).2 ⟨c1,c2,e,hr _ _ h1,h.imp h' hr xs c2 h2⟩
end I9
inductive aF where
 |tm (n i:Nat)|box (n:Nat)|cell (n i:Nat)|hand (i:Nat)
 deriving DecidableEq
structure Gh where
 at_:Nat→Nat
 own:Nat→Option aF
 F:Fz
def Sh.n:Sh→Nat
 | .sl es=>es.length
 | .rsl ss=>ss.length+1
 | .dl es=>es.length
 |_=>0
def aP:(sh:Sh)→El sh→Nat
 | .sl _,l=>List.length l
 | .rsl _,l=>List.length l
 | .dl _,l=>List.length l
 |_,_=>0
def uq (w:World) (F:Fz):(sh:Sh)→El sh→List Value→Prop
 | .sl es,l,cs=>dY (dK w F es) l cs
 | .rsl ss,l,cs=>iH w F (dK w F ss) l cs
 |_,_,_=>False
theorem vW {w:World} {F:Fz} {sh:Sh} (h:sh.oG=true) (x:El sh) (v:Value):iR w F sh x v ↔ DJ w F (aP sh x) (uq w F sh x) v:=by
 cases sh<;>simp[Sh.oG]at h<;>simp only[iR,aP]<;>exact Iff.rfl
theorem eH {sh:Sh} (h:sh.oG=true):sh.oN=true:=by cases sh<;>simp_all [Sh.oG,Sh.oN]
theorem SN {sh:Sh} (h:sh.oN=true):sh.oG=true∨ ∃es,sh= .dl es:=by cases sh<;>simp_all [Sh.oG,Sh.oN]
theorem uq.keeps {w w':World} {F F':Fz} (k:Keeps w w' F F') {sh:Sh} {x:El sh} {cs:List Value} (h:uq w F sh x cs):uq w' F' sh x cs:=by
 cases sh with
 |sl es=>exact dY.imp (fun x cs h=>dK.keeps k es x cs h) x cs h
 |rsl ss=>exact iH.imp k (fun x cs h=>dK.keeps k ss x cs h) x cs h
 |_=>exact h
theorem uq.length {w:World} {F:Fz} {sh:Sh} {x:El sh} {cs:List Value} (h:uq w F sh x cs):cs.length=aP sh x*sh.n:=by
 cases sh with
 |sl es=>exact(iW (w:=w) (F:=F) es).length x cs h
 |rsl ss=>exact(jA (w:=w) (F:=F) ss).length x cs h
 |_=>exact h.elim
def uy (w:World) (g:Gh) (ow:aF) (tip:Bool) (sh:Sh) (x:El sh) (v:Value):Prop:=
 (v= .slice none 0 0∧aP sh x=0)∨
 ∃b c cur et,v= .slice (some ⟨b,0,none⟩) (aP sh x) c∧aP sh x≤c∧c≤maxLen∧g.own b=some ow∧w.heap[b]? =some (.cells cur et (0,0))∧
  cur.size=c*sh.n∧uq w g.F sh x (cur.toList.take (aP sh x*sh.n))∧(∀o,g.F b o ↔ (tip=true∧o<aP sh x*sh.n))
def blk:Value→Option Nat
 | .slice (some ad) _ _=>some ad.block
 |_=>none
def qo (w:World) (g:Gh) (ow:aF) (B:Option Nat) (sh:Sh) (x:El sh) (v:Value):Prop:=
 if sh.oN then sh.oG=true∧uy w g ow false sh x v∧blk v=B else iR w g.F sh x v
def Wy (w:World) (g:Gh) (ow:aF) (B:Nat→Option Nat) (es:List Sh) (x:ElA es) (cs:List Value):Prop:=
 cs.length=es.length∧ ∀(k:Nat) (c:CV) (v:Value),(cellsOf es x)[k]? =some c→cs[k]? =some v→qo w g ow (B k) c.sh c.x v
def iF (w:World) (g:Gh) (ow:aF) (b:Nat) (es:List Sh) (l:List (Option (ElA es))) (cs:List Value):Prop:=
 cs.length=l.length*es.length∧ ∃B:Nat→Option Nat,(∀k,B k≠some b)∧(∀i j x,B i=some x→B j=some x→i=j)∧
  ∀i x,l[i]? =some (some x)→Wy w g ow (fun j=>B (i*es.length+j)) es x ((cs.drop (i*es.length)).take es.length)
def VG (w:World) (g:Gh) (ow:aF) (b:Nat) (tip:Bool):(sh:Sh)→El sh→List Value→Prop
 | .dl es,l,cs=>(tip=false∧ ∀u,u∈cs→u.oneCell'=true)∧iF w g ow b es l cs
 |sh,x,cs=>uq w g.F sh x cs
def yA (w:World) (g:Gh) (ow:aF) (tip:Bool) (sh:Sh) (x:El sh) (v:Value):Prop:=
 (v= .slice none 0 0∧aP sh x=0)∨
 ∃b c cur et,v= .slice (some ⟨b,0,none⟩) (aP sh x) c∧aP sh x≤c∧c≤maxLen∧g.own b=some ow∧w.heap[b]? =some (.cells cur et (0,0))∧
  cur.size=c*sh.n∧VG w g ow b tip sh x (cur.toList.take (aP sh x*sh.n))∧(∀o,g.F b o ↔ (tip=true∧o<aP sh x*sh.n))
theorem o9 {w:World} {g:Gh} {ow:aF} {b:Nat} {tip:Bool} {sh:Sh} (h:sh.oG=true) {x:El sh} {cs:List Value}:VG w g ow b tip sh x cs ↔ uq w g.F sh x cs:=by
 cases sh<;>first|exact Iff.rfl|simp[Sh.oG]at h
theorem nO {w:World} {g:Gh} {ow:aF} {tip:Bool} {sh:Sh} (h:sh.oG=true) {x:El sh} {v:Value}:yA w g ow tip sh x v ↔ uy w g ow tip sh x v:=by
 cases sh<;>first|exact Iff.rfl|simp[Sh.oG]at h
theorem VG.length {w:World} {g:Gh} {ow:aF} {b:Nat} {tip:Bool} {sh:Sh} {x:El sh} {cs:List Value} (h:VG w g ow b tip sh x cs):cs.length=aP sh x*sh.n:=by
 cases sh with
 |dl es=>exact h.2.1
 |sl es=>exact uq.length (sh:= .sl es) h
 |rsl es=>exact uq.length (sh:= .rsl es) h
 |_=>exact h.elim
structure Fr (K:aF→Prop) (w w':World) (g g':Gh):Prop where
 keeps:Keeps w w' g.F g'.F
 own: ∀b ow,K ow→g.own b=some ow→g'.own b=some ow∧w'.heap[b]? =w.heap[b]? ∧ ∀o,g'.F b o→g.F b o
theorem Fr.refl (K:aF→Prop) (w:World) (g:Gh):Fr K w w g g:=⟨Keeps.refl _ _,fun _ _ _ h=>⟨h,rfl,fun _ h=>h⟩⟩
theorem Fr.trans {K:aF→Prop} {a b c:World} {g h i:Gh} (x:Fr K a b g h) (y:Fr K b c h i):Fr K a c g i:=
 ⟨x.keeps.trans y.keeps,fun bl ow k e=>by
  obtain⟨e1,h1,f1⟩:=x.own bl ow k e
  obtain⟨e2,h2,f2⟩:=y.own bl ow k e1
  exact⟨e2,h2.trans h1,fun o h=>f1 o (f2 o h)⟩⟩
theorem Fr.mono {K K':aF→Prop} {w w':World} {g g':Gh} (h:Fr K w w' g g') (hk: ∀o,K' o→K o):Fr K' w w' g g':=
 ⟨h.keeps,fun b ow k e=>h.own b ow (hk ow k) e⟩
def scV:(s:Sh)→El s→Value
 | .int k,n=> .int k n
 | .bool,b=> .bool b
 | .str,b=> .string b
 |_,_=> .bool false
def abD (w:World) (b:Nat) (k e:Sh) (l:List (El k×El e)):Prop:=
 ∃es clock,w.heap[b]? =some (.map es clock)∧es.toList.map (fun q=>(q.key,q.val))=l.map fun p=>(scV k p.1,scV e p.2)
def Rz (w:World) (g:Gh) (ow:aF):(sh:Sh)→El sh→Value→Prop
 | .mp k e,x,v=>(v= .map none∧x=none)∨ ∃b l,x=some l∧v= .map (some b)∧g.own b=some ow∧abD w b k e l∧ ∀o,¬g.F b o
 |_,_,_=>False
theorem Rz.fr {K:aF→Prop} {w w':World} {g g':Gh} (f:Fr K w w' g g') {ow:aF} (hk:K ow) {sh:Sh} {x:El sh} {v:Value} (h:Rz w g ow sh x v):Rz w' g' ow sh x v:=by
 cases sh with
 |mp k e=>
  rcases h with h|⟨b,l,hx,hv,ho,⟨es,c,hb,he⟩,hf⟩
  ·exact .inl h
  ·obtain⟨o1,o2,o3⟩:=f.own b ow hk ho
   exact .inr ⟨b,l,hx,hv,o1,⟨es,c,o2.trans hb,he⟩,fun o h=>hf o (o3 o h)⟩
 |_=>exact h.elim
theorem Rz.mp {w:World} {g:Gh} {ow:aF} {sh:Sh} {x:El sh} {v:Value} (h:Rz w g ow sh x v):sh.Hr=true∧sh.oN=false∧(match v with| .agg _=>true|_=>false)=false∧v.oneCell'=true:=by
 cases sh with
 |mp k e=>rcases h with⟨rfl,_⟩|⟨b,l,hx,rfl,_⟩<;>exact⟨rfl,rfl,rfl,rfl⟩
 |_=>exact h.elim
def jl (w:World) (g:Gh) (ow:aF) (c:CV) (v:Value):Prop:=
 match c.tg with
 | .dead=>True
 | .pure=>iR w g.F c.sh c.x v
 | .own=>if c.sh.oN then yA w g ow false c.sh c.x v else if c.sh.Hr then Rz w g ow c.sh c.x v else iR w g.F c.sh c.x v
 | .tip=>if c.sh.oN then yA w g ow true c.sh c.x v else iR w g.F c.sh c.x v
theorem uy.fr {K:aF→Prop} {w w':World} {g g':Gh} (f:Fr K w w' g g') {ow:aF} (hk:K ow) {tip:Bool} {sh:Sh} {x:El sh} {v:Value} (h:uy w g ow tip sh x v):uy w' g' ow tip sh x v:=by
 rcases h with h|⟨b,c,cur,et,hv,hl,hc,ho,hb,hs,he,hf⟩
 ·exact .inl h
 ·obtain⟨o1,o2,o3⟩:=f.own b ow hk ho
  refine .inr ⟨b,c,cur,et,hv,hl,hc,o1,o2.trans hb,hs,he.keeps f.keeps,fun o=>⟨fun h=>(hf o).1 (o3 o h),fun h=>f.keeps.sub _ _ ((hf o).2 h)⟩⟩
theorem qo.imp {w w':World} {g g':Gh} {ow ow':aF} (hk:Keeps w w' g.F g'.F) {B:Option Nat} {sh:Sh} {x:El sh} {v:Value} (hb:B=blk v→ ∀x,uy w g ow false sh x v→uy w' g' ow' false sh x v) (h:qo w g ow B sh x v):qo w' g' ow' B sh x v:=by
 unfold qo at h ⊢
 split
 ·rename_i hs;rw[if_pos hs]at h
  exact⟨h.1,hb h.2.2.symm x h.2.1,h.2.2⟩
 ·rename_i hs;rw[if_neg hs]at h;exact iR.keeps hk _ _ _ h
theorem Wy.imp {w w':World} {g g':Gh} {ow ow':aF} (hk:Keeps w w' g.F g'.F) {B:Nat→Option Nat} {es:List Sh} {x:ElA es} {cs:List Value}
 (hb: ∀k sh v,k<es.length→B k=blk v→ ∀x,uy w g ow false sh x v→uy w' g' ow' false sh x v) (h:Wy w g ow B es x cs):Wy w' g' ow' B es x cs:=
 ⟨h.1,fun k c v hc hv=>(h.2 k c v hc hv).imp hk (hb k c.sh v (by
  rw[←h.1]
  rcases Nat.lt_or_ge k cs.length with h|h
  ·exact h
  ·simp[List.getElem?_eq_none h]at hv))⟩
theorem iF.imp {w w':World} {g g':Gh} {ow ow':aF} (hk:Keeps w w' g.F g'.F) {b:Nat} {es:List Sh} {l:List (Option (ElA es))} {cs:List Value} (hb: ∀sh x v,blk v≠some b→uy w g ow false sh x v→uy w' g' ow' false sh x v) (h:iF w g ow b es l cs):iF w' g' ow' b es l cs:=by
 obtain⟨h1,B,h2,h3,h4⟩:=h
 exact⟨h1,B,h2,h3,fun i x hx=>Wy.imp hk (fun k sh v _ e=>fun x=>hb sh x v (by rw[←e];exact h2 _)) (h4 i x hx)⟩
theorem uy.owner {w:World} {g g':Gh} {ow ow':aF} {tip:Bool} {sh:Sh} {x:El sh} {v:Value} (hF:g'.F=g.F) (hb: ∀b,blk v=some b→g'.own b=some ow') (h:uy w g ow tip sh x v):uy w g' ow' tip sh x v:=by
 rcases h with h|⟨b,c,cur,et,hv,hl,hc,ho,hh,hs,he,hf⟩
 ·exact .inl h
 ·exact .inr ⟨b,c,cur,et,hv,hl,hc,hb b (by rw[hv];rfl),hh,hs,by rw[hF];exact he,by rw[hF];exact hf⟩
theorem uy.one {w:World} {g:Gh} {ow:aF} {tip:Bool} {sh:Sh} {x:El sh} {v:Value} (h:uy w g ow tip sh x v):v.oneCell'=true:=by
 rcases h with⟨rfl,_⟩|⟨_,_,_,_,rfl,_⟩<;>rfl
theorem uy.l9 {w:World} {g:Gh} {ow:aF} {tip:Bool} {sh:Sh} {x:El sh} {v:Value} (h:uy w g ow tip sh x v) {b:Nat} (hb:blk v=some b):g.own b=some ow:=by
 rcases h with⟨rfl,_⟩|⟨b',c,cur,et,rfl,hl,hc,ho,_⟩
 ·cases hb
 ·cases hb;exact ho
theorem VG.fr {K:aF→Prop} {w w':World} {g g':Gh} (f:Fr K w w' g g') {ow:aF} (hk:K ow) {b:Nat} {tip:Bool} {sh:Sh} {x:El sh} {cs:List Value} (h:VG w g ow b tip sh x cs):VG w' g' ow b tip sh x cs:=by
 cases sh with
 |dl es=>exact⟨h.1,h.2.imp f.keeps fun sh x v _=>uy.fr f hk⟩
 |sl es=>exact uq.keeps (sh:= .sl es) f.keeps h
 |rsl es=>exact uq.keeps (sh:= .rsl es) f.keeps h
 |_=>exact h.elim
theorem yA.fr {K:aF→Prop} {w w':World} {g g':Gh} (f:Fr K w w' g g') {ow:aF} (hk:K ow) {tip:Bool} {sh:Sh} {x:El sh} {v:Value} (h:yA w g ow tip sh x v):yA w' g' ow tip sh x v:=by
 rcases h with h|⟨b,c,cur,et,hv,hl,hc,ho,hb,hs,he,hf⟩
 ·exact .inl h
 ·obtain⟨o1,o2,o3⟩:=f.own b ow hk ho
  refine .inr ⟨b,c,cur,et,hv,hl,hc,o1,o2.trans hb,hs,he.fr f hk,fun o=>⟨fun h=>(hf o).1 (o3 o h),fun h=>f.keeps.sub _ _ ((hf o).2 h)⟩⟩
theorem jl.fr {K:aF→Prop} {w w':World} {g g':Gh} (f:Fr K w w' g g') {ow:aF} (hk:K ow) {c:CV} {v:Value} (h:jl w g ow c v):jl w' g' ow c v:=by
 unfold jl at h ⊢
 split
 ·trivial
 ·rename_i e;rw[e]at h;exact iR.keeps f.keeps _ _ _ h
 ·rename_i e;rw[e]at h;simp only at h ⊢
  split
  ·rename_i hs;rw[if_pos hs]at h;exact h.fr f hk
  ·rename_i hs;rw[if_neg hs]at h
   split
   ·rename_i hm;rw[if_pos hm]at h;exact h.fr f hk
   ·rename_i hm;rw[if_neg hm]at h;exact iR.keeps f.keeps _ _ _ h
 ·rename_i e;rw[e]at h;simp only at h ⊢
  split
  ·rename_i hs;rw[if_pos hs]at h;exact h.fr f hk
  ·rename_i hs;rw[if_neg hs]at h;exact iR.keeps f.keeps _ _ _ h
theorem jl.pure {w w':World} {g g':Gh} (k:Keeps w w' g.F g'.F) {ow ow':aF} {c:CV} {v:Value} (hp:c.isPure=true) (h:jl w g ow c v):jl w' g' ow' c v:=by
 have e:c.tg= .pure:=by unfold CV.isPure Tg.isPure at hp;split at hp<;>simp_all
 unfold jl at h ⊢
 rw[e]at h ⊢
 exact iR.keeps k _ _ _ h
def aC (w:World) (g:Gh) (mk:Nat→aF):Nat→List CV→List Value→Prop
 |_,[],vs=>vs= []
 |i,c::cs,vs=> ∃v ws,vs=v::ws∧jl w g (mk i) c v∧aC w g mk (i+1) cs ws
theorem aC.length {w:World} {g:Gh} {mk:Nat→aF}: ∀(cs:List CV) (i:Nat) (vs:List Value),aC w g mk i cs vs→vs.length=cs.length
 | [],_,_,h=>by simp only[aC]at h;simp[h]
 |c::cs,i,_,⟨v,ws,e,_,h⟩=>by simp[e,aC.length cs (i+1) ws h]
theorem aC.fr {K:aF→Prop} {w w':World} {g g':Gh} (f:Fr K w w' g g') {mk:Nat→aF}: ∀(cs:List CV) (i:Nat) (vs:List Value),(∀j,K (mk j))→aC w g mk i cs vs→aC w' g' mk i cs vs
 | [],_,_,_,h=>h
 |c::cs,i,_,hk,⟨v,ws,e,h1,h⟩=>⟨v,ws,e,h1.fr f (hk i),aC.fr f cs (i+1) ws hk h⟩
theorem aC.get {w:World} {g:Gh} {mk:Nat→aF}: ∀(cs:List CV) (i:Nat) (vs:List Value),aC w g mk i cs vs→ ∀j c,cs[j]? =some c→ ∃v,vs[j]? =some v∧jl w g (mk (i+j)) c v
 | [],_,_,_,j,c,hc=>by simp at hc
 |c::cs,i,_,⟨v,ws,e,h1,h⟩,0,d,hd=>by
  simp at hd;subst hd;exact⟨v,by simp[e],h1⟩
 |c::cs,i,_,⟨v,ws,e,h1,h⟩,j+1,d,hd=>by
  obtain⟨u,hu,hr⟩:=aC.get cs (i+1) ws h j d (by simpa using hd)
  exact⟨u,by simpa [e]using hu,by rw[show i+(j+1)=i+1+j by omega];exact hr⟩
theorem aC.of {w:World} {g:Gh} {mk:Nat→aF}: ∀(cs:List CV) (i:Nat) (vs:List Value),vs.length=cs.length→(∀j c v,cs[j]? =some c→vs[j]? =some v→jl w g (mk (i+j)) c v)→aC w g mk i cs vs
 | [],_,vs,hl,_=>by simpa [aC]using hl
 |c::cs,i,[],hl,_=>by simp at hl
 |c::cs,i,v::vs,hl,h=>⟨v,vs,rfl,by simpa using h 0 c v rfl rfl,aC.of cs (i+1) vs (by simpa using hl) fun j d u hd hu=>by
  have:=h (j+1) d u (by simpa using hd) (by simpa using hu)
  rwa [show i+(j+1)=i+1+j by omega]at this⟩
theorem aC.append {w:World} {g:Gh} {mk:Nat→aF}: ∀(cs:List CV) (i:Nat) (vs:List Value) (ds:List CV) (us:List Value),aC w g mk i cs vs→aC w g mk (i+cs.length) ds us→aC w g mk i (cs++ds) (vs++us)
 | [],_,_,_,_,h,k=>by simp only[aC]at h;subst h;simpa using k
 |c::cs,i,_,ds,us,⟨v,ws,e,h1,h⟩,k=>⟨v,ws++us,by simp[e],h1,aC.append cs (i+1) ws ds us h (by rw[show i+1+cs.length=i+(c::cs).length by simp;omega];exact k)⟩
end Go.AM
end
section
set_option linter.unusedVariables false
namespace Go.AM
open Go
def isAgg:Value→Bool| .agg _=>true|_=>false
def aB (a:Act) (w:World) (g:Gh):Root→List Value
 | .tmp n=>(a.eval (.tmp n)).cells.toList
 | .box n=>match w.heap[g.at_ n]? with
   |some (.cells cur _ _)=>cur.toList
   |_=>[]
def pF (s:St):Root→Nat
 | .tmp n=>(s.tm n).2
 | .box n=>match s.bx n with|some b=>b.inst|none=>0
structure Old (s:St) (p:Pl):Prop where
 inst:p.inst≤pF s p.root
 vers: ∀n b,p.root= .box n→s.bx n=some b→p.inst=b.inst→ ∀(i x:Nat) (c:CV) (v:Nat),p.vers[i]? =some x→b.cells[p.cell+i]? =some (c,v)→x≤v
def BH (w:World) (g:Gh) (mk:Nat→aF) (i:Nat) (ag:Bool) (cs:List CV) (v:Value):Prop:=
 isAgg v=ag∧aC w g mk i cs v.cells.toList
def lg (w:World) (g:Gh) (mk:Nat→aF):Nat→List (Bool×List CV)→List Value→Prop
 |_,[],vs=>vs= []
 |i,(ag,cs)::ts,vs=> ∃v ws,vs=v::ws∧BH w g mk i ag cs v∧lg w g mk (i+cs.length) ts ws
def y9 (A:Option Addr) (c lo hi n:Nat):Value:= .slice (if c=lo then A else A.map (·.add (lo*n))) (hi-lo) (c-lo)
def Qn (s:St) (a:Act) (w:World) (g:Gh) (p:Pl) (Φ:List Sh→Nat→Nat→List Value→Prop):Prop:=
 ∃i j,p.sub=some (i,j)∧ ∀es l,aU s p 1=some [⟨.dl es,.own,l⟩]→
  ∃b len k cur et f,(aB a w g p.root)[p.cell]? =some (.slice (some ⟨b,0,none⟩) len k)∧i<len∧w.heap[b]? =some (.cells cur et f)∧Φ es i j cur.toList
def Row1 (v:Value) (ag:Bool) (m:Nat) (es:List Sh) (i j:Nat) (cs:List Value):Prop:=isAgg v=ag∧v.cells.toList=(cs.drop (i*es.length+j)).take m
def afy (v:Value) (k q:Nat) (es:List Sh) (i j:Nat) (cs:List Value):Prop:=
 ∃b' l' k' sh,es[j]? =some sh∧cs[i*es.length+j]? =some (.slice (some ⟨b',0,none⟩) l' k')∧k<l'∧v= .pointer (some ⟨b',k*sh.n+q,none⟩)
def acF (w:World) (g:Gh) (ow:aF) (q:CV) (v u:Value):Prop:=
 (∃b k l,u= .slice (some ⟨b,0,none⟩) (aP q.sh q.x) k∧v= .slice (some ⟨b,0,none⟩) l k)∨uy w g ow false q.sh q.x u
theorem acF.fr {K:aF→Prop} {w w':World} {g g':Gh} (f:Fr K w w' g g') {ow:aF} (hk:K ow) {q:CV} {v u:Value} (h:acF w g ow q v u):acF w' g' ow q v u:=
 h.imp id fun h=>h.fr f hk
def TV0 (s:St) (a:Act) (w:World) (g:Gh) (mk:Nat→aF):T→Value→Prop
 | .dead,_=>True
 | .undef,v=>v=undef
 | .nilc,_=>False
 | .val ag cs,v=>BH w g mk 0 ag cs v
 | .ref p ag m,v=>Old s p∧p.vers.length=m∧p.sub=none∧ ∀cs,aU s p m=some cs→isAgg v=ag∧v.cells.toList=((aB a w g p.root).drop p.cell).take m
 | .rsub p z lo hi,v=>Old s p∧p.vers.length=1∧p.sub=none∧(z=true→lo=0)∧ ∀c,aU s p 1=some [c]→
  ∃A l k,(aB a w g p.root)[p.cell]? =some (.slice A l k)∧lo≤hi∧hi≤l∧l≤k∧v=y9 A k lo hi c.sh.n
 | .addr p,v=>Old s p∧match p.sub with
  |none=> ∃n,p.root= .box n∧ ∀b,s.bx n=some b→b.inst=p.inst→v= .pointer (some ⟨g.at_ n,p.cell,none⟩)
  |some (i,j)=>p.vers.length=1∧ ∀c,aU s p 1=some [c]→
   ∃b l k,(aB a w g p.root)[p.cell]? =some (.slice (some ⟨b,0,none⟩) l k)∧i<l∧v= .pointer (some ⟨b,i*c.sh.n+j,none⟩)
 | .rowr p ag m,v=>Old s p∧p.vers.length=1∧Qn s a w g p (Row1 v ag m)
 | .addr2 p k q,v=>Old s p∧p.vers.length=1∧Qn s a w g p (afy v k q)
 | .paddr cs off,v=> ∃(ad:Addr) (vs:List Value),v= .pointer (some ⟨ad.block,ad.off+off,none⟩)∧NZ w g.F ad vs∧bg cs=true∧aC w g mk 0 cs vs
 | .tup ts,v=> ∃vs,v= .tuple vs.toArray∧lg w g mk 0 ts vs
 | .fn f,v=>v= .func (.func f) #[] #[]
 | .clo _ _,_=>False
 | .ext p q c,v=>Old s p∧p.vers.length=1∧p.sub=none∧isAgg v=false∧jl w g (mk 0) c v∧X4 q.sh=true∧q.tg= .own∧c.sh=q.sh∧
  ∀e,aU s p 1=some [e]→ ∃u,(aB a w g p.root)[p.cell]? =some u∧acF w g (mk 1) q v u
def ny (s:St) (a:Act) (w:World) (g:Gh) (mk:Nat→aF):List T→List Value→Prop
 | [],vs=>vs= []
 |t::ts,vs=> ∃v ws,vs=v::ws∧(match t with| .addr _=>True| .paddr _ _=>True|_=>False)∧TV0 s a w g mk t v∧ny s a w g mk ts ws
def TV (s:St) (a:Act) (w:World) (g:Gh) (mk:Nat→aF) (t:T) (v:Value):Prop:=
 match t with
 | .clo f ts=> ∃vs,v= .func (.func f) #[] vs.toArray∧ny s a w g mk ts vs
 |t=>TV0 s a w g mk t v
def BD (w:World) (g:Gh) (n:Nat) (b:Bx):Prop:=
 ∃cur et,w.heap[g.at_ n]? =some (.cells cur et (0,0))∧g.own (g.at_ n)=some (.box n)∧(∀o,¬g.F (g.at_ n) o)∧aC w g (.cell n) 0 (b.cells.map (·.1)) cur.toList
structure Base (w0:World) (F0:Fz) (X:Nat→Prop) (w:World) (g:Gh):Prop where
 os:w.os=w0.os
 tape:w.tape=w0.tape
 output:w.output=w0.output
 size:w0.heap.size≤w.heap.size
 blk: ∀b,b<w0.heap.size→ ¬X b→w.heap[b]? =w0.heap[b]?
 own: ∀b ow,g.own b=some ow→(X b∨w0.heap.size≤b)∧b<w.heap.size
 keeps:Keeps w0 w F0 g.F
 fz: ∀b o,g.F b o→(F0 b o∨X b∨w0.heap.size≤b)∧b<w.heap.size
 frz: ∀b ow cs t f,g.own b=some ow→w.heap[b]? =some (.cells cs t f)→f=(0,0)
structure Ctx where
 w0:World
 F0:Fz
 X:Nat→Prop
 par:Nat→Option Value
 kept:Nat→Nat→Option Value
def KeptAt (s:St) (a:Act) (w:World) (g:Gh) (n j:Nat) (v:Value):Prop:= ∀cs,aU s ⟨.box n,0,[0],j,none⟩ 1=some cs→(aB a w g (.box n))[j]? =some v
def DOk (E:Env) (d:Nat):Prop:=E.fix d=false∧d<E.nt
structure Rel (E:Env) (C:Ctx) (s:St) (a:Act) (w:World) (g:Gh):Prop where
 tm: ∀n,TV s a w g (.tm n) (s.tm n).1 (a.eval (.tmp n))
 bx: ∀n b,s.bx n=some b→BD w g n b
 size:a.tmps.size=E.nt
 defers:a.defers= []
 glob: ∀gl cs,E.glob gl=some cs→bg cs=true∧ ∃vs,NZ w g.F ⟨gl,0,none⟩ vs∧aC w g .hand 0 cs vs
 base:Base C.w0 C.F0 C.X w g
 par: ∀n v,C.par n=some v→E.fix n=true→a.eval (.tmp n)=v
 aux: ∀n j v,C.kept n j=some v→(n,j)∈E.kept∧KeptAt s a w g n j v
theorem aX {α:Type} (f:Nat→α) (n:Nat) (v:α):put f n v n=v:=by simp[put]
theorem bC {α:Type} (f:Nat→α) (n:Nat) (v:α) {m:Nat} (h:m≠n):put f n v m=f m:=by
 have:Nat.beq m n=false:=by
  rw[←Bool.not_eq_true];intro hb;exact h (Nat.eq_of_beq_eq_true hb)
 simp[put,this]
theorem eval_put_same (a:Act) (d:Nat) (v:Value) (h:d<a.tmps.size):(a.put (some d) v).eval (.tmp d)=v:=by
 simp[Act.put,Act.eval,h]
theorem wO (a:Act) (d:Nat) (v:Value) {n:Nat} (h:n≠d):(a.put (some d) v).eval (.tmp n)=a.eval (.tmp n):=by
 simp only[Act.put,Act.eval,Array.getD_eq_getD_getElem?,Array.getElem?_setIfInBounds]
 rw[if_neg (fun e=>h e.symm)]
theorem size_put (a:Act) (d:Option Tmp) (v:Value):(a.put d v).tmps.size=a.tmps.size:=by cases d<;>simp[Act.put]
theorem Vs (a:Act) (d:Option Tmp) (v:Value):(a.put d v).defers=a.defers:=by cases d<;>rfl
theorem EW {c':CV} {cs:List CV} (h: [c'].map CV.sh=cs.map CV.sh): ∃c,cs= [c]∧c'.sh=c.sh:=by
 match cs,h with
 | [],h=>simp at h
 | [c],h=>exact⟨c,rfl,by simpa using h⟩
 |_::_::_,h=>simp at h
structure Bl (s s':St) (a a':Act) (w w':World) (g g':Gh) (r:Root):Prop where
 old: ∀p,p.root=r→Old s p→Old s' p
 cells: ∀p m cs',p.root=r→Old s p→p.vers.length=m→aU s' p m=some cs'→
  ∃cs,aU s p m=some cs∧cs'.map CV.sh=cs.map CV.sh∧((aB a' w' g' r).drop p.cell).take m=((aB a w g r).drop p.cell).take m
 at_: ∀n b' p,r= .box n→s'.bx n=some b'→p.root=r→Old s p→b'.inst=p.inst→ ∃b,s.bx n=some b∧b.inst=p.inst∧g'.at_ n=g.at_ n
 rows: ∀p es l',p.root=r→Old s p→p.vers.length=1→aU s' p 1=some [⟨.dl es,.own,l'⟩]→ ∃l,aU s p 1=some [⟨.dl es,.own,l⟩]∧
  ∀b len k,(aB a w g r)[p.cell]? =some (.slice (some ⟨b,0,none⟩) len k)→w'.heap[b]? =w.heap[b]?
theorem mP {α:Type} {l l':List α} {c:Nat} (h:(l.drop c).take 1=(l'.drop c).take 1):l[c]? =l'[c]? :=by
 have:=congrArg (fun x=>x[0]?) h
 simpa [List.getElem?_take,List.getElem?_drop]using this
section
variable {s s':St} {a a':Act} {w w':World} {g g':Gh} {K:aF→Prop} {mk:Nat→aF}
theorem KeptAt.step {n j:Nat} {v:Value} (hr:Bl s s' a a' w w' g g' (.box n)) (h:KeptAt s a w g n j v):KeptAt s' a' w' g' n j v:=fun cs hc=>by
 obtain⟨cs0,h0,_,hv⟩:=hr.cells ⟨.box n,0,[0],j,none⟩ 1 cs rfl ⟨Nat.zero_le _,fun _ _ _ _ _ i x c u hx _=>by
  cases i with
  |zero=>simp at hx;omega
  |succ i=>simp at hx⟩ rfl hc
 exact(mP hv).trans (h cs0 h0)
theorem lg.fr (f:Fr K w w' g g') (hk: ∀i,K (mk i)): ∀(ts:List (Bool×List CV)) (i:Nat) (vs:List Value),lg w g mk i ts vs→lg w' g' mk i ts vs
 | [],_,_,h=>h
 |(ag,cs)::ts,i,_,⟨v,ws,e,⟨h1,h2⟩,h⟩=>⟨v,ws,e,⟨h1,aC.fr f cs i _ hk h2⟩,lg.fr f hk ts _ ws h⟩
theorem Qn.step {p:Pl} (hr:Bl s s' a a' w w' g g' p.root) (ho:Old s p) (hv:p.vers.length=1) {Φ:List Sh→Nat→Nat→List Value→Prop} (h:Qn s a w g p Φ):Qn s' a' w' g' p Φ:=by
 obtain⟨i,j,hs,h⟩:=h
 refine⟨i,j,hs,fun es l' hc=> ?_⟩
 obtain⟨l,h1,h2⟩:=hr.rows p es l' rfl ho hv hc
 obtain⟨_,_,_,hval⟩:=hr.cells p 1 _ rfl ho hv hc
 obtain⟨b,len,k,cur,et,f,e1,e2,e3,e4⟩:=h es l h1
 exact⟨b,len,k,cur,et,f,(mP hval).trans e1,e2,(h2 b len k e1).trans e3,e4⟩
theorem TV0.step (f:Fr K w w' g g') (hk: ∀i,K (mk i)) (hr: ∀r,Bl s s' a a' w w' g g' r) {t:T} {v:Value} (h:TV0 s a w g mk t v):TV0 s' a' w' g' mk t v:=by
 cases t with
 |dead=>trivial
 |undef=>exact h
 |nilc=>exact h
 |val ag cs=>exact⟨h.1,aC.fr f cs 0 _ hk h.2⟩
 |ref p ag m=>
  obtain⟨ho,hv,hs,h⟩:=h
  refine⟨(hr p.root).old p rfl ho,hv,hs,fun cs' hc'=> ?_⟩
  obtain⟨cs,hc,_,hval⟩:=(hr p.root).cells p m cs' rfl ho hv hc'
  obtain⟨h1,h2⟩:=h cs hc
  exact⟨h1,h2.trans hval.symm⟩
 |rsub p z lo hi=>
  obtain⟨ho,hv,hs,hz,h⟩:=h
  refine⟨(hr p.root).old p rfl ho,hv,hs,hz,fun c' hc'=> ?_⟩
  obtain⟨cs,hc,hsh,hval⟩:=(hr p.root).cells p 1 [c'] rfl ho hv hc'
  obtain⟨c,rfl,hsc⟩:=EW hsh
  obtain⟨A,l,k,e,h1,h2,h3,h4⟩:=h c hc
  exact⟨A,l,k,(mP hval).trans e,h1,h2,h3,by rw[hsc];exact h4⟩
 |addr p=>
  obtain⟨ho,h⟩:=h
  refine⟨(hr p.root).old p rfl ho,?_⟩
  cases hsub:p.sub with
  |none=>
   rw[hsub]at h
   obtain⟨n,hn,h⟩:=h
   refine⟨n,hn,fun b' hb' hi=> ?_⟩
   obtain⟨b,hb,hbi,hat⟩:=(hr p.root).at_ n b' p hn hb' rfl ho hi
   rw[hat];exact h b hb hbi
  |some ij=>
   obtain⟨i,j⟩:=ij
   rw[hsub]at h
   obtain⟨hv,h⟩:=h
   refine⟨hv,fun c' hc'=> ?_⟩
   obtain⟨cs,hc,hsh,hval⟩:=(hr p.root).cells p 1 [c'] rfl ho hv hc'
   obtain⟨c,rfl,hsc⟩:=EW hsh
   obtain⟨b,l,k,e,h1,h2⟩:=h c hc
   exact⟨b,l,k,(mP hval).trans e,h1,by rw[hsc];exact h2⟩
 |rowr p ag m=>
  obtain⟨ho,hv,h⟩:=h
  exact⟨(hr p.root).old p rfl ho,hv,h.step (hr p.root) ho hv⟩
 |addr2 p k q=>
  obtain⟨ho,hv,h⟩:=h
  exact⟨(hr p.root).old p rfl ho,hv,h.step (hr p.root) ho hv⟩
 |paddr cs off=>
  obtain⟨ad,vs,e,h1,h2,h3⟩:=h
  exact⟨ad,vs,e,h1.keeps f.keeps,h2,aC.fr f cs 0 vs hk h3⟩
 |tup ts=>
  obtain⟨vs,e,h⟩:=h
  exact⟨vs,e,lg.fr f hk ts 0 vs h⟩
 |fn f=>exact h
 |clo f ts=>exact h.elim
 |ext p q c=>
  obtain⟨ho,hv,hs,h1,h2,h3,h4,h5,h6⟩:=h
  refine⟨(hr p.root).old p rfl ho,hv,hs,h1,h2.fr f (hk 0),h3,h4,h5,fun e' he=> ?_⟩
  obtain⟨cs,hc,hsh,hval⟩:=(hr p.root).cells p 1 [e'] rfl ho hv he
  obtain⟨e,rfl,_⟩:=EW hsh
  obtain⟨u,hu,hx⟩:=h6 e hc
  exact⟨u,(mP hval).trans hu,hx.fr f (hk 1)⟩
theorem ny.step (f:Fr K w w' g g') (hk: ∀i,K (mk i)) (hr: ∀r,Bl s s' a a' w w' g g' r): ∀(ts:List T) (vs:List Value),ny s a w g mk ts vs→ny s' a' w' g' mk ts vs
 | [],_,h=>h
 |t::ts,_,⟨v,ws,e,h0,h1,h⟩=>⟨v,ws,e,h0,TV0.step f hk hr h1,ny.step f hk hr ts ws h⟩
theorem TV.step (f:Fr K w w' g g') (hk: ∀i,K (mk i)) (hr: ∀r,Bl s s' a a' w w' g g' r) {t:T} {v:Value} (h:TV s a w g mk t v):TV s' a' w' g' mk t v:=by
 cases t with
 |clo fn ts=>obtain⟨vs,e,h⟩:=h;exact⟨vs,e,ny.step f hk hr ts vs h⟩
 |dead=>exact TV0.step f hk hr (t:= .dead) (v:=v) h
 |undef=>exact TV0.step f hk hr (t:= .undef) h
 |nilc=>exact TV0.step f hk hr (t:= .nilc) (v:=v) h
 |val ag cs=>exact TV0.step f hk hr (t:= .val ag cs) h
 |ref p ag m=>exact TV0.step f hk hr (t:= .ref p ag m) h
 |rsub p z lo hi=>exact TV0.step f hk hr (t:= .rsub p z lo hi) h
 |addr p=>exact TV0.step f hk hr (t:= .addr p) h
 |rowr p ag m=>exact TV0.step f hk hr (t:= .rowr p ag m) h
 |addr2 p k q=>exact TV0.step f hk hr (t:= .addr2 p k q) h
 |paddr cs off=>exact TV0.step f hk hr (t:= .paddr cs off) h
 |tup ts=>exact TV0.step f hk hr (t:= .tup ts) h
 |fn f'=>exact TV0.step f hk hr (t:= .fn f') h
 |ext p q c=>exact TV0.step f hk hr (t:= .ext p q c) h
theorem BD.step {n:Nat} {b:Bx} (f:Fr K w w' g g') (hk: ∀i,K (.cell n i)) (hb:K (.box n)) (hat:g'.at_ n=g.at_ n) (h:BD w g n b):BD w' g' n b:=by
 obtain⟨cur,et,h1,h2,h3,h4⟩:=h
 obtain⟨o1,o2,o3⟩:=f.own _ _ hb h2
 exact⟨cur,et,by rw[hat];exact o2.trans h1,by rw[hat];exact o1,fun o ho=>h3 o (o3 o (by rw[hat]at ho;exact ho)),aC.fr f _ 0 _ hk h4⟩
end
theorem aC.sZ {w w':World} {g g':Gh} (k:Keeps w w' g.F g'.F) {mk mk':Nat→aF}: ∀(cs:List CV) (i j:Nat) (vs:List Value),bg cs=true→aC w g mk i cs vs→aC w' g' mk' j cs vs
 | [],_,_,_,_,h=>h
 |c::cs,i,j,_,hp,⟨v,ws,e,h1,h⟩=>by
  simp only[bg,List.all_cons,Bool.and_eq_true]at hp
  exact⟨v,ws,e,h1.pure k hp.1,aC.sZ k cs (i+1) (j+1) ws hp.2 h⟩
theorem ou {α β:Type} (f:α→β) (l:List α) (a b:Nat):((l.map f).drop a).take b=((l.drop a).take b).map f:=by
 simp[List.map_take,List.map_drop]
theorem lU (cs:List CV) (v:Nat):(cs.map fun c=>(c,v)).map (·.1)=cs:=by
 rw[List.map_map];exact List.map_id cs
theorem AP: ∀(vs ws:List Nat),Cm vs ws=true ↔ ∀(i x:Nat),vs[i]? =some x→ws[i]? =some x
 | [],ws=>by simp[Cm]
 |v::vs,[]=>by
  simp only[Cm,Bool.false_eq_true,false_iff]
  intro h;have:=h 0 v rfl;simp at this
 |v::vs,w::ws=>by
  simp only[Cm,Bool.and_eq_true,AP vs ws]
  constructor
  ·rintro⟨h1,h2⟩ i x hx
   cases i with
   |zero=>simp at hx ⊢;rw[←hx];exact(Nat.eq_of_beq_eq_true h1).symm
   |succ i=>simpa using h2 i x (by simpa using hx)
  ·intro h
   refine⟨?_,fun i x hx=> ?_⟩
   ·have:=h 0 v rfl;simp at this;rw[this];exact Nat.beq_refl v
   ·have:=h (i+1) x (by simpa using hx);simpa using this
theorem bG {s:St} {p:Pl} {n:Nat} {cs:List CV}:aU s p n=some cs ↔ ∃cells,aA s p.root=some (p.inst,cells)∧p.cell+n≤cells.length∧
 (∀(i x:Nat),p.vers[i]? =some x→(cells[p.cell+i]?).map (·.2)=some x)∧cs=((cells.drop p.cell).take n).map (·.1):=by
 unfold aU
 cases h:aA s p.root with
 |none=>simp
 |some ic=>
  obtain⟨inst,cells⟩:=ic
  have hand:(Nat.beq inst p.inst&&Nat.ble (p.cell+n) cells.length&&Cm p.vers ((cells.drop p.cell).map (·.2)))=true ↔
   inst=p.inst∧p.cell+n≤cells.length∧ ∀(i x:Nat),p.vers[i]? =some x→(cells[p.cell+i]?).map (·.2)=some x:=by
   rw[Bool.and_eq_true,Bool.and_eq_true,AP]
   constructor
   ·rintro⟨⟨h1,h2⟩,h3⟩
    exact⟨Nat.eq_of_beq_eq_true h1,Nat.le_of_ble_eq_true h2,fun i x hx=>by have:=h3 i x hx;simpa [List.getElem?_drop]using this⟩
   ·rintro⟨h1,h2,h3⟩
    exact⟨⟨by rw[h1];exact Nat.beq_refl _,Nat.ble_eq_true_of_le h2⟩,fun i x hx=>by simpa [List.getElem?_drop]using h3 i x hx⟩
  simp only[]
  cases hb:(Nat.beq inst p.inst&&Nat.ble (p.cell+n) cells.length&&Cm p.vers ((cells.drop p.cell).map (·.2)))with
  |false=>
   simp only[cond_false]
   constructor
   ·intro h;cases h
   ·rintro⟨cs',e,h2,h3,h4⟩
    cases e
    have:=hand.2 ⟨rfl,h2,h3⟩
    rw[hb]at this;cases this
  |true=>
   obtain⟨h1,h2,h3⟩:=hand.1 hb
   simp only[cond_true,Option.some.injEq]
   constructor
   ·intro h;exact⟨cells,by rw[h1],h2,h3,h.symm⟩
   ·rintro⟨cs',e,_,_,h4⟩
    cases e;exact h4.symm
def dF:Root→Nat→aF
 | .tmp n=> .tm n
 | .box n=> .cell n
theorem uD (r:Root): ∀i j,dF r i=dF r j→i=j:=by cases r<;>simp[dF]
section
variable {E:Env} {C:Ctx} {s s':St} {a a':Act} {w w':World} {g g':Gh} {K:aF→Prop}
theorem aC.sub {mk:Nat→aF} {cs:List CV} {i:Nat} {vs:List Value} (h:aC w g mk i cs vs) (k m:Nat):aC w g mk (i+k) ((cs.drop k).take m) ((vs.drop k).take m):=by
 refine aC.of _ _ _ (by simp[h.length]) fun j c v hc hv=> ?_
 simp only[List.getElem?_take,List.getElem?_drop]at hc hv
 split at hc
 ·rename_i hj
  rw[if_pos hj]at hv
  obtain⟨u,hu,hr⟩:=h.get cs i vs (k+j) c hc
  rw[hu]at hv;cases hv
  rwa [show i+k+j=i+(k+j) by omega]
 ·cases hc
theorem Rel.root (h:Rel E C s a w g) {r:Root} {inst:Nat} {cells:List (CV×Nat)} (hc:aA s r=some (inst,cells)):aC w g (dF r) 0 (cells.map (·.1)) (aB a w g r):=by
 cases r with
 |tmp n=>
  simp only[aA]at hc
  split at hc
  ·rename_i ag cs v heq
   cases hc
   have:=h.tm n
   rw[heq]at this
   simp only[aB,dF,lU]
   exact this.2
  ·cases hc
 |box n=>
  simp only[aA]at hc
  split at hc
  ·rename_i b heq
   cases hc
   obtain⟨cur,et,h1,_,_,h4⟩:=h.bx n b heq
   simp only[aB,h1,dF]
   exact h4
  ·cases hc
theorem Rel.pl (h:Rel E C s a w g) {p:Pl} {m:Nat} {cs:List CV} (hc:aU s p m=some cs):aC w g (dF p.root) p.cell cs (((aB a w g p.root).drop p.cell).take m)∧cs.length=m:=by
 rw[bG]at hc
 obtain⟨cells,e,hl,_,rfl⟩:=hc
 have:=(h.root e).sub p.cell m
 rw[Nat.zero_add]at this
 rw[←ou]
 exact⟨this,by simp;omega⟩
theorem iK (r:Root) (i j:Nat):dF r i≠ .hand j:=by cases r<;>simp[dF]
theorem Rel.aag (h:Rel E C s a w g) {p:Pl} {es:List Sh} {l:List (Option (ElA es))} (hc:aU s p 1=some [⟨.dl es,.own,l⟩]) {b len k:Nat}
 (hv:(aB a w g p.root)[p.cell]? =some (.slice (some ⟨b,0,none⟩) len k)):g.own b=some (dF p.root p.cell):=by
 obtain⟨hr,_⟩:=h.pl hc
 obtain⟨v,ws,e,h1,_⟩:=hr
 have e1:v= .slice (some ⟨b,0,none⟩) len k:=by
  have:=congrArg (fun l=>l[0]?) e
  simp only[List.getElem?_take,List.getElem?_drop,Nat.add_zero]at this
  simp at this
  rw[hv]at this;exact(Option.some.inj this).symm
 subst e1
 simp only[jl,Sh.oN,if_true]at h1
 rcases h1 with⟨h1,_⟩|⟨b',c,cur,et,h1,_,_,ho,_⟩
 ·cases h1
 ·cases h1;exact ho
theorem Rel.uX (h:Rel E C s a w g) (f:Fr K w w' g g') {p:Pl} (hk:K (dF p.root p.cell)) {es:List Sh} {l:List (Option (ElA es))} (hc:aU s p 1=some [⟨.dl es,.own,l⟩]) {b len k:Nat}
 (hv:(aB a w g p.root)[p.cell]? =some (.slice (some ⟨b,0,none⟩) len k)):w'.heap[b]? =w.heap[b]? :=(f.own _ _ hk (h.aag hc hv)).2.1
theorem Rel.gen (h:Rel E C s a w g) (f:Fr K w w' g g') (hb:Base C.w0 C.F0 C.X w' g') (hr: ∀r,Bl s s' a a' w w' g g' r)
 (hsz:a'.tmps.size=a.tmps.size) (hdf:a'.defers=a.defers)
 (htm: ∀n,((∀i,K (.tm n i))∧(s'.tm n).1=(s.tm n).1∧a'.eval (.tmp n)=a.eval (.tmp n))∨TV s' a' w' g' (.tm n) (s'.tm n).1 (a'.eval (.tmp n)))
 (hbx: ∀n b,s'.bx n=some b→(s.bx n=some b∧(∀i,K (.cell n i))∧K (.box n)∧g'.at_ n=g.at_ n)∨BD w' g' n b) (hpar: ∀n,E.fix n=true→a'.eval (.tmp n)=a.eval (.tmp n):=by intro n _;rfl):Rel E C s' a' w' g':=by
 refine⟨fun n=> ?_,fun n b hn=> ?_,hsz.trans h.size,hdf.trans h.defers,fun gl cs hg=> ?_,hb,fun n v hv hf=>(hpar n hf).trans (h.par n v hv hf),fun n j v hv=>⟨(h.aux n j v hv).1,(h.aux n j v hv).2.step (hr _)⟩⟩
 ·rcases htm n with⟨hk,ht,hv⟩|ht
  ·rw[ht,hv];exact TV.step f hk hr (h.tm n)
  ·exact ht
 ·rcases hbx n b hn with⟨h1,hk,hk',hat⟩|h1
  ·exact BD.step f hk hk' hat (h.bx n b h1)
  ·exact h1
 ·obtain⟨h1,vs,h2,h3⟩:=h.glob gl cs hg
  exact⟨h1,vs,h2.keeps f.keeps,aC.sZ f.keeps cs 0 0 vs h1 h3⟩
theorem Bl.same {r:Root} (hi:pF s' r=pF s r) (hc:aA s' r=aA s r) (hbx: ∀n,r= .box n→s'.bx n=s.bx n∧((s.bx n).isSome=true→g'.at_ n=g.at_ n))
 (hv:(aA s r).isSome=true→aB a' w' g' r=aB a w g r)
 (hd: ∀p es l,p.root=r→aU s p 1=some [⟨.dl es,.own,l⟩]→ ∀b len k,(aB a w g r)[p.cell]? =some (.slice (some ⟨b,0,none⟩) len k)→w'.heap[b]? =w.heap[b]?):Bl s s' a a' w w' g g' r:=by
 have hpl: ∀p m cs',p.root=r→aU s' p m=some cs'→aU s p m=some cs':=by
  intro p m cs' hp h
  rw[bG]at h ⊢
  rw[hp,hc]at h;rw[hp];exact h
 refine⟨fun p hp ho=>⟨by have:=ho.inst;rw[hp]at this ⊢;omega,fun n b e hb hi=> ?_⟩,fun p m cs' hp ho _ h=>⟨cs',?_,rfl,?_⟩,fun n b' p hr hb hp ho hi=> ?_,fun p es l hp ho _ h=>⟨l,hpl p 1 _ hp h,hd p es l hp (hpl p 1 _ hp h)⟩⟩
 ·have:=hbx n (hp▸e);rw[this.1]at hb;exact ho.vers n b e hb hi
 ·rw[bG]at h ⊢
  rw[hp,hc]at h;rw[hp];exact h
 ·rw[hv]
  rw[bG]at h
  obtain⟨cells,e,_⟩:=h
  rw[hp,hc]at e;rw[e];rfl
 ·have:=hbx n hr;rw[this.1]at hb
  exact⟨b',hb,hi,this.2 (by rw[hb];rfl)⟩
theorem Rel.G7 (h:Rel E C s a w g) (f:Fr K w w' g g') {n:Nat} (hk:K (.box n)) (hat:g'.at_ n=g.at_ n) (hs:(aA s (.box n)).isSome=true):aB a' w' g' (.box n)=aB a w g (.box n):=by
 simp only[aA]at hs
 cases hb:s.bx n with
 |none=>rw[hb]at hs;simp at hs
 |some b=>
  obtain⟨cur,et,_,h2,_,_⟩:=h.bx n b hb
  obtain⟨_,o2,_⟩:=f.own _ _ hk h2
  simp only[aB,hat,o2]
theorem Rel.world (h:Rel E C s a w g) (f:Fr (fun o=> ∀i,o≠ .hand i) w w' g g') (hb:Base C.w0 C.F0 C.X w' g') (hat:g'.at_=g.at_):Rel E C s a w' g':=
 h.gen f hb (fun r=>Bl.same rfl rfl (fun n _=>⟨rfl,fun _=>by rw[hat]⟩) (fun hs=>by
  cases r with
  |tmp n=>rfl
  |box n=>exact h.G7 f (fun i=>by simp) (by rw[hat]) hs) (fun p es l hp hc b len k hv=>h.uX f (fun i=>iK _ _ _) hc (by rw[hp];exact hv))) rfl rfl
  (fun n=> .inl ⟨fun i j=>by simp,rfl,rfl⟩) (fun n b hn=> .inl ⟨hn,fun i j=>by simp,fun j=>by simp,by rw[hat]⟩)
theorem Rel.IJ (h:Rel E C s a w g) {d:Nat} {t:T} (f:Fr (fun o=>(∀i,o≠ .tm d i)∧ ∀i,o≠ .hand i) w w' g g') (hb:Base C.w0 C.F0 C.X w' g') (hat:g'.at_=g.at_)
 (hsh: ∀ag' cs',t= .val ag' cs'→ ∃ag cs,(s.tm d).1= .val ag cs∧cs'.map CV.sh=cs.map CV.sh∧
  ∀(i:Nat) es l',cs'[i]? =some ⟨.dl es,.own,l'⟩→ ∃l,cs[i]? =some ⟨.dl es,.own,l⟩∧ ∀b len k,(a.eval (.tmp d)).cells.toList[i]? =some (.slice (some ⟨b,0,none⟩) len k)→w'.heap[b]? =w.heap[b]?)
 (ht:TV (s.dI [.keep d t]) a w' g' (.tm d) t (a.eval (.tmp d))):Rel E C (s.dI [.keep d t]) a w' g':=by
 have hs:s.dI [.keep d t]= {s with tm:=put s.tm d (t,(s.tm d).2)}:=rfl
 refine h.gen f hb (fun r=> ?_) rfl rfl (fun n=> ?_) (fun n b hn=> .inl ⟨hn,fun i=>⟨fun j=>by simp,fun j=>by simp⟩,⟨fun j=>by simp,fun j=>by simp⟩,by rw[hat]⟩)
 ·rw[hs]
  cases r with
  |tmp n=>
   by_cases hn:n=d
   ·subst hn
    have key: ∀(p:Pl) m cs',p.root= .tmp n→aU {s with tm:=put s.tm n (t,(s.tm n).2)} p m=some cs'→ ∃ag' cs1 ag cs,t= .val ag' cs1∧(s.tm n).1= .val ag cs∧cs'=(cs1.drop p.cell).take m∧p.cell+m≤cs1.length∧
     aU s p m=some ((cs.drop p.cell).take m)∧cs1.map CV.sh=cs.map CV.sh∧ ∀(i:Nat) es l',cs1[i]? =some ⟨.dl es,.own,l'⟩→ ∃l,cs[i]? =some ⟨.dl es,.own,l⟩∧ ∀b len k,(a.eval (.tmp n)).cells.toList[i]? =some (.slice (some ⟨b,0,none⟩) len k)→w'.heap[b]? =w.heap[b]? :=by
     intro p m cs' hp hc
     rw[bG]at hc
     obtain⟨cells,e,h1,h2,h3⟩:=hc
     rw[hp]at e
     simp only[aA,aX]at e
     split at e
     ·rename_i ag' cs1 v heq
      simp only[Prod.mk.injEq]at heq
      obtain⟨e1,e2⟩:=heq
      obtain⟨ag,cs,h4,h5,h6⟩:=hsh ag' cs1 e1
      have hl:cs1.length=cs.length:=by have:=congrArg List.length h5;simpa using this
      cases e
      have hcs:aU s p m=some ((cs.drop p.cell).take m):=by
       rw[bG]
       refine⟨cs.map fun c=>(c,p.inst),?_,by simpa [←hl]using h1,fun i x hx=> ?_,by rw[←ou,lU]⟩
       ·rw[hp];simp only[aA]
        have:s.tm n=(.val ag cs,p.inst):=by rw[←h4,←e2]
        rw[this]
       ·have:=h2 i x hx
        simp only[List.getElem?_map,Option.map_map]at this ⊢
        cases hc1:cs1[p.cell+i]? with
        |none=>rw[hc1]at this;simp at this
        |some c=>
         have hlt:p.cell+i<cs.length:=by
          rw[←hl];rcases Nat.lt_or_ge (p.cell+i) cs1.length with h|h
          ·exact h
          ·simp[List.getElem?_eq_none h]at hc1
         rw[List.getElem?_eq_getElem hlt]
         rw[hc1]at this;simpa using this
      refine⟨ag',cs1,ag,cs,e1,h4,?_,by simpa using h1,hcs,h5,h6⟩
      rw[h3,←ou,lU]
     ·cases e
    refine⟨fun p hp ho=>⟨?_,fun k b e=>by rw[hp]at e;cases e⟩,fun p m cs' hp ho _ hc=> ?_,fun k b p e=>(by cases e),fun p es l' hp ho hv hc=> ?_⟩
    ·have:=ho.inst;rw[hp]at this ⊢;simp only[pF,aX]at this ⊢;exact this
    ·obtain⟨ag',cs1,ag,cs,e1,e2,rfl,_,hcs,h5,_⟩:=key p m cs' hp hc
     refine⟨_,hcs,?_,rfl⟩
     simp only[List.map_take,List.map_drop,h5]
    ·obtain⟨ag',cs1,ag,cs,e1,e2,e3,hle,hcs,h5,h6⟩:=key p 1 _ hp hc
     have e4:cs1[p.cell]? =some ⟨.dl es,.own,l'⟩:=by
      have:=congrArg (fun l=>l[0]?) e3
      simp only[List.getElem?_take,List.getElem?_drop,Nat.add_zero]at this
      simpa using this.symm
     obtain⟨l,e5,e6⟩:=h6 p.cell es l' e4
     refine⟨l,?_,fun b len k hv=>e6 b len k hv⟩
     rw[hcs]
     have hlt:p.cell<cs.length:=by
      rcases Nat.lt_or_ge p.cell cs.length with h|h
      ·exact h
      ·simp[List.getElem?_eq_none h]at e5
     rw[List.drop_eq_getElem_cons hlt]
     rw[List.getElem?_eq_getElem hlt]at e5
     rw[List.take_succ_cons,List.take_zero,Option.some.inj e5]
   ·exact Bl.same (by simp only[pF,bC _ _ _ hn]) (by simp only[aA,bC _ _ _ hn]) (fun k e=>by cases e) (fun _=>rfl) (fun p es l hp hc b len k hv=>h.uX f ⟨fun i e=>(by rw[hp]at e;cases e;exact hn rfl),fun i=>iK _ _ _⟩ hc (by rw[hp];exact hv))
  |box n=>exact Bl.same rfl rfl (fun k e=>⟨rfl,fun _=>by rw[hat]⟩) (h.G7 f ⟨fun i=>by simp,fun i=>by simp⟩ (by rw[hat])) (fun p es l hp hc b len k hv=>h.uX f ⟨fun i e=>(by rw[hp]at e;cases e),fun i=>iK _ _ _⟩ hc (by rw[hp];exact hv))
 ·by_cases hn:n=d
  ·subst hn
   right
   have:((s.dI [.keep n t]).tm n).1=t:=by rw[hs];simp[aX]
   rw[this];exact ht
  ·left
   exact⟨fun i=>⟨fun j e=>by cases e;exact hn rfl,fun j=>by simp⟩,by rw[hs];simp[bC _ _ _ hn],rfl⟩
end
theorem Rel.Np {E:Env} {C:Ctx} {s:St} {a:Act} {w w':World} {g g':Gh} (h:Rel E C s a w g) (d:Nat) (t:T) (v:Value)
 (f:Fr (fun o=>(∀i,o≠ .tm d i)∧ ∀i,o≠ .hand i) w w' g g') (hat:g'.at_=g.at_): ∀r,Bl s (s.dI [.tm d t]) a (a.put (some d) v) w w' g g' r:=by
 have hs:s.dI [.tm d t]= {s with tm:=put s.tm d (t,(s.tm d).2+1)}:=rfl
 rw[hs]
 intro r
 cases r with
 |tmp n=>
  by_cases hn:n=d
  ·subst hn
   have key: ∀p m cs',p.root= .tmp n→Old s p→aU {s with tm:=put s.tm n (t,(s.tm n).2+1)} p m=some cs'→False:=by
    intro p m cs' hp ho hc
    have hi:=ho.inst;rw[hp]at hi;simp only[pF]at hi
    unfold aU at hc;rw[hp]at hc;simp only[aA,aX]at hc
    split at hc
    ·rename_i inst cs heq
     split at heq
     ·cases heq
      simp only[cond_eq_ite,Bool.and_eq_true]at hc
      split at hc
      ·rename_i hh;have:=Nat.eq_of_beq_eq_true hh.1.1;simp_all;omega
      ·cases hc
     ·cases heq
    ·cases hc
   refine⟨fun p hp ho=>⟨?_,fun k b e=>by rw[hp]at e;cases e⟩,fun p m cs' hp ho _ hc=>(key p m cs' hp ho hc).elim,fun k b p e=>(by cases e),fun p es l' hp ho _ hc=>(key p _ _ hp ho hc).elim⟩
   have:=ho.inst;rw[hp]at this ⊢;simp only[pF,aX]at this ⊢;omega
  ·have hpl: ∀p m,p.root= .tmp n→aU {s with tm:=put s.tm d (t,(s.tm d).2+1)} p m=aU s p m:=by
    intro p m hp;unfold aU;rw[hp];simp only[aA,bC _ _ _ hn]
   refine⟨fun p hp ho=>⟨?_,fun k b e=>by rw[hp]at e;cases e⟩,fun p m cs' hp ho _ hc=>⟨cs',?_,rfl,?_⟩,fun k b p e=>(by cases e),fun p es l hp ho _ hc=>⟨l,(hpl p 1 hp).symm.trans hc,fun b len k hv=>h.uX f ⟨fun i e=>(by rw[hp]at e;cases e;exact hn rfl),fun i=>iK _ _ _⟩ ((hpl p 1 hp).symm.trans hc) (by rw[hp];exact hv)⟩⟩
   ·have:=ho.inst;rw[hp]at this ⊢;simp only[pF,bC _ _ _ hn]at this ⊢;exact this
   ·unfold aU at hc ⊢;rw[hp]at hc ⊢;simp only[aA,bC _ _ _ hn]at hc ⊢;exact hc
   ·simp only[aB,wO _ _ _ hn]
 |box n=>
  have hpl: ∀p m,p.root= .box n→aU {s with tm:=put s.tm d (t,(s.tm d).2+1)} p m=aU s p m:=by
   intro p m hp;unfold aU;rw[hp];rfl
  refine⟨fun p hp ho=>⟨?_,fun k b e hb hi=>ho.vers k b e hb hi⟩,fun p m cs' hp ho _ hc=>⟨cs',?_,rfl,?_⟩,fun k b p e hb hp ho hi=>⟨b,hb,hi,(by rw[hat])⟩,fun p es l hp ho _ hc=>⟨l,(hpl p 1 hp).symm.trans hc,fun b len k hv=>h.uX f ⟨fun i e=>(by rw[hp]at e;cases e),fun i=>iK _ _ _⟩ ((hpl p 1 hp).symm.trans hc) (by rw[hp];exact hv)⟩⟩
  ·have:=ho.inst;rw[hp]at this ⊢;exact this
  ·unfold aU at hc ⊢;rw[hp]at hc ⊢;exact hc
  ·have: ∃b,s.bx n=some b:=by
    unfold aU at hc;rw[hp]at hc;simp only[aA]at hc
    cases hbx:s.bx n with
    |none=>rw[hbx]at hc;simp at hc
    |some b=>exact⟨b,rfl⟩
   obtain⟨b,hbx⟩:=this
   obtain⟨cur,et,h1,h2,_,_⟩:=h.bx n b hbx
   obtain⟨_,o2,_⟩:=f.own _ _ ⟨fun i=>by simp,fun i=>by simp⟩ h2
   simp only[aB,hat,o2]
theorem Zg (a:Act) (d:Nat):a.put (some d) (a.eval (.tmp d))=a:=by
 have:a.tmps.setIfInBounds d (a.eval (.tmp d))=a.tmps:=by
  apply Array.ext_getElem?
  intro i
  simp only[Array.getElem?_setIfInBounds,Act.eval,Array.getD_eq_getD_getElem?]
  split
  ·rename_i e;subst e
   by_cases h:d<a.tmps.size
   ·simp[h]
   ·simp[h]
  ·rfl
 show{a with tmps:=a.tmps.setIfInBounds d _}=a
 rw[this]
theorem Rel.aai {E:Env} {C:Ctx} {s:St} {a:Act} {w w':World} {g g':Gh} (h:Rel E C s a w g) {d:Nat} {t:T} (f:Fr (fun o=>(∀i,o≠ .tm d i)∧ ∀i,o≠ .hand i) w w' g g') (hb:Base C.w0 C.F0 C.X w' g') (hat:g'.at_=g.at_)
 (ht:TV (s.dI [.tm d t]) a w' g' (.tm d) t (a.eval (.tmp d))):Rel E C (s.dI [.tm d t]) a w' g':=by
 have hr:=h.Np d t (a.eval (.tmp d)) f hat
 rw[Zg]at hr
 refine h.gen f hb hr rfl rfl (fun n=> ?_) (fun n b hn=> .inl ⟨hn,fun i=>⟨fun j=>by simp,fun j=>by simp⟩,⟨fun j=>by simp,fun j=>by simp⟩,by rw[hat]⟩)
 have hs:s.dI [.tm d t]= {s with tm:=put s.tm d (t,(s.tm d).2+1)}:=rfl
 by_cases hn:n=d
 ·subst hn
  right
  have:((s.dI [.tm n t]).tm n).1=t:=by rw[hs];simp[aX]
  rw[this];exact ht
 ·left
  exact⟨fun i=>⟨fun j e=>by cases e;exact hn rfl,fun j=>by simp⟩,by rw[hs];simp[bC _ _ _ hn],rfl⟩
theorem Rel.SC {E:Env} {C:Ctx} {s:St} {a:Act} {w w':World} {g g':Gh} (h:Rel E C s a w g) {d:Nat} (hd:DOk E d) {t:T} {v:Value}
 (f:Fr (fun o=>(∀i,o≠ .tm d i)∧ ∀i,o≠ .hand i) w w' g g') (hb:Base C.w0 C.F0 C.X w' g') (hat:g'.at_=g.at_)
 (ht:TV (s.dI [.tm d t]) (a.put (some d) v) w' g' (.tm d) t v):Rel E C (s.dI [.tm d t]) (a.put (some d) v) w' g':=by
 have hs:s.dI [.tm d t]= {s with tm:=put s.tm d (t,(s.tm d).2+1)}:=rfl
 have hds:d<a.tmps.size:=by rw[h.size];exact hd.2
 have hr:=h.Np d t v f hat
 refine⟨fun n=> ?_,fun n b hbx=> ?_,by rw[size_put];exact h.size,by rw[Vs];exact h.defers,fun gl cs hg=> ?_,hb,fun n u hu hf=>by
  rw[wO _ _ _ (fun e=>by rw[e,hd.1]at hf;cases hf)];exact h.par n u hu hf,fun n j u hu=>⟨(h.aux n j u hu).1,(h.aux n j u hu).2.step (hr _)⟩⟩
 ·by_cases hn:n=d
  ·subst hn
   rw[eval_put_same _ _ _ hds]
   have:((s.dI [.tm n t]).tm n).1=t:=by rw[hs];simp[aX]
   rw[this];exact ht
  ·rw[wO _ _ _ hn]
   have:((s.dI [.tm d t]).tm n).1=(s.tm n).1:=by rw[hs];simp[bC _ _ _ hn]
   rw[this]
   exact TV.step f (fun i=>⟨fun j e=>by cases e;exact hn rfl,fun j=>by simp⟩) hr (h.tm n)
 ·exact BD.step f (fun i=>⟨fun j=>by simp,fun j=>by simp⟩) ⟨fun j=>by simp,fun j=>by simp⟩ (by rw[hat]) (h.bx n b hbx)
 ·obtain⟨h1,vs,h2,h3⟩:=h.glob gl cs hg
  exact⟨h1,vs,h2.keeps f.keeps,aC.sZ f.keeps cs 0 0 vs h1 h3⟩
end Go.AM
end
section
set_option linter.unusedVariables false
namespace Go.AM
open Go
section
variable {E:Env} {C:Ctx} {s s':St} {a a':Act} {w w':World} {g g':Gh}
theorem Oo {α:Type} {l l':List α} {c m:Nat} (h: ∀i,i<m→l[c+i]? =l'[c+i]?):(l.drop c).take m=(l'.drop c).take m:=by
 apply List.ext_getElem?
 intro i
 simp only[List.getElem?_take,List.getElem?_drop]
 split
 ·rename_i hi;exact h i hi
 ·rfl
theorem Rel.abl (h:Rel E C s a w g) {n:Nat} {b':Bx} (f:Fr (fun o=>(∀i,o≠ .cell n i)∧o≠ .box n∧ ∀i,o≠ .hand i) w w' g g') (hb:Base C.w0 C.F0 C.X w' g') (hat: ∀m,m≠n→g'.at_ m=g.at_ m)
 (hk:pF s (.box n)<b'.inst∨ ∃b,s.bx n=some b∧b'.inst=b.inst∧b'.cells.length=b.cells.length∧g'.at_ n=g.at_ n∧
  ∀(i:Nat) (c:CV) (v:Nat),b.cells[i]? =some (c,v)→ ∃(c':CV) (v':Nat),b'.cells[i]? =some (c',v')∧c'.sh=c.sh∧v≤v'∧(v'=v→(aB a w' g' (.box n))[i]? =(aB a w g (.box n))[i]? ∧
   ∀es l',c'=⟨.dl es,.own,l'⟩→ ∃l,c=⟨.dl es,.own,l⟩∧ ∀bl len k,(aB a w g (.box n))[i]? =some (.slice (some ⟨bl,0,none⟩) len k)→w'.heap[bl]? =w.heap[bl]?))
 (hr:BD w' g' n b'):Rel E C (s.dI [.bx n b']) a w' g':=by
 have hs:s.dI [.bx n b']= {s with bx:=put s.bx n (some b')}:=rfl
 refine h.gen f hb (fun r=> ?_) rfl rfl (fun m=> .inl ⟨fun i=>⟨fun j=>by simp,by simp,fun j=>by simp⟩,by rw[hs],rfl⟩) (fun m b hm=> ?_)
 ·rw[hs]
  cases r with
  |tmp m=>exact Bl.same rfl rfl (fun k e=>by cases e) (fun _=>rfl) (fun p es l hp hc b len k hv=>h.uX f ⟨fun i=>by rw[hp];simp[dF],by rw[hp];simp[dF],fun i=>iK _ _ _⟩ hc (by rw[hp];exact hv))
  |box m=>
   by_cases hm:m=n
   ·subst hm
    rcases hk with hk|⟨b,hbs,hi,hl,hat',hc⟩
    ·refine⟨fun p hp ho=>⟨?_,fun k b1 e h1 h2=> ?_⟩,fun p k cs' hp ho _ hc=> ?_,fun k b1 p e h1 hp ho h2=> ?_,fun p es l' hp ho _ hc=> ?_⟩
     ·have:=ho.inst;rw[hp]at this ⊢;simp only[pF,aX]at hk this ⊢;omega
     ·exfalso
      rw[hp]at e;cases e
      simp only[aX,Option.some.injEq]at h1;subst h1
      have:=ho.inst;rw[hp]at this;omega
     ·exfalso
      rw[bG]at hc
      obtain⟨cells,e,_⟩:=hc
      rw[hp]at e;simp only[aA,aX,Option.some.injEq,Prod.mk.injEq]at e
      have:=ho.inst;rw[hp]at this;omega
     ·exfalso
      cases e
      simp only[aX,Option.some.injEq]at h1;subst h1
      have:=ho.inst;rw[hp]at this;omega
     ·exfalso
      rw[bG]at hc
      obtain⟨cells,e,_⟩:=hc
      rw[hp]at e;simp only[aA,aX,Option.some.injEq,Prod.mk.injEq]at e
      have:=ho.inst;rw[hp]at this;omega
    ·have keyA: ∀(p:Pl) (k:Nat) cs',p.root= .box m→Old s p→p.vers.length=k→aU {s with bx:=put s.bx m (some b')} p k=some cs'→
      ((∀i,i<k→ ∃c c' v,b.cells[p.cell+i]? =some (c,v)∧b'.cells[p.cell+i]? =some (c',v)∧c'.sh=c.sh∧p.vers[i]? =some v∧(aB a w' g' (.box m))[p.cell+i]? =(aB a w g (.box m))[p.cell+i]? ∧
        ∀es l',c'=⟨.dl es,.own,l'⟩→ ∃l,c=⟨.dl es,.own,l⟩∧ ∀bl len k,(aB a w g (.box m))[p.cell+i]? =some (.slice (some ⟨bl,0,none⟩) len k)→w'.heap[bl]? =w.heap[bl]?)∧
      aU s p k=some (((b.cells.drop p.cell).take k).map (·.1))∧cs'=((b'.cells.drop p.cell).take k).map (·.1)):=by
      intro p k cs' hp ho hv hcc
      rw[bG]at hcc
      obtain⟨cells,e,h1,h2,h3⟩:=hcc
      rw[hp]at e;simp only[aA,aX]at e
      simp only[Option.some.injEq,Prod.mk.injEq]at e
      obtain⟨e1,e2⟩:=e
      subst e2
      have key: ∀i,i<k→ ∃c c' v,b.cells[p.cell+i]? =some (c,v)∧b'.cells[p.cell+i]? =some (c',v)∧c'.sh=c.sh∧p.vers[i]? =some v∧(aB a w' g' (.box m))[p.cell+i]? =(aB a w g (.box m))[p.cell+i]? ∧
       ∀es l',c'=⟨.dl es,.own,l'⟩→ ∃l,c=⟨.dl es,.own,l⟩∧ ∀bl len k,(aB a w g (.box m))[p.cell+i]? =some (.slice (some ⟨bl,0,none⟩) len k)→w'.heap[bl]? =w.heap[bl]? :=by
       intro i hik
       have hlt:p.cell+i<b.cells.length:=by omega
       obtain⟨c',v',h4,h5,h6,h7⟩:=hc (p.cell+i) (b.cells[p.cell+i].1) (b.cells[p.cell+i].2) (by rw[List.getElem?_eq_getElem hlt])
       have hx:p.vers[i]? =some (p.vers[i]'(by omega)):=List.getElem?_eq_getElem _
       have h8:=h2 i _ hx
       rw[h4]at h8
       simp only[Option.map_some,Option.some.injEq]at h8
       have h9:=ho.vers m b hp hbs (by rw[←e1,hi]) i _ _ _ hx (by rw[List.getElem?_eq_getElem hlt])
       have h10:v'=b.cells[p.cell+i].2:=by omega
       subst h10
       exact⟨_,c',_,by rw[List.getElem?_eq_getElem hlt],h4,h5,by rw[hx,←h8],(h7 rfl).1,(h7 rfl).2⟩
      refine⟨key,?_,h3⟩
      rw[bG]
      refine⟨b.cells,by rw[hp];simp only[aA,hbs];rw[←hi,e1],by omega,fun i x hx=> ?_,rfl⟩
      have hik:i<k:=by
       rw[←hv];rcases Nat.lt_or_ge i p.vers.length with h|h
       ·exact h
       ·simp[List.getElem?_eq_none h]at hx
      obtain⟨c,c',v,k1,_,_,k2,_⟩:=key i hik
      rw[k1];rw[hx]at k2;simpa using k2.symm
     refine⟨fun p hp ho=>⟨?_,fun k b1 e h1 h2 i x c v hx hv=> ?_⟩,fun p k cs' hp ho hv hcc=> ?_,fun k b1 p e h1 hp ho h2=> ?_,fun p es l' hp ho hv hcc=> ?_⟩
     ·have:=ho.inst;rw[hp]at this ⊢;simp only[pF,aX,hbs]at this ⊢;omega
     ·rw[hp]at e;cases e
      simp only[aX,Option.some.injEq]at h1;subst h1
      have hlt:p.cell+i<b.cells.length:=by
       rw[←hl];rcases Nat.lt_or_ge (p.cell+i) b'.cells.length with h|h
       ·exact h
       ·simp[List.getElem?_eq_none h]at hv
      obtain⟨c',v',h4,_,h5,_⟩:=hc (p.cell+i) (b.cells[p.cell+i].1) (b.cells[p.cell+i].2) (by rw[List.getElem?_eq_getElem hlt])
      rw[hv]at h4;cases h4
      have:=ho.vers m b hp hbs (by rw[h2,hi]) i x _ _ hx (by rw[List.getElem?_eq_getElem hlt])
      omega
     ·obtain⟨key,hpl,h3⟩:=keyA p k cs' hp ho hv hcc
      have hvals:=Oo (m:=k) (fun i hik=>by obtain⟨_,_,_,_,_,_,_,h,_⟩:=key i hik;exact h)
      refine⟨((b.cells.drop p.cell).take k).map (·.1),hpl,?_,hvals⟩
      ·rw[h3]
       simp only[List.map_map]
       apply List.ext_getElem?
       intro i
       simp only[List.getElem?_map,List.getElem?_take,List.getElem?_drop]
       by_cases hik:i<k
       ·rw[if_pos hik,if_pos hik]
        obtain⟨c,c',v,k1,k2,k3,_⟩:=key i hik
        rw[k1,k2];simp[k3]
       ·rw[if_neg hik,if_neg hik]
     ·cases e
      simp only[aX,Option.some.injEq]at h1;subst h1
      exact⟨b,hbs,by rw[←hi,h2],hat'⟩
     ·obtain⟨key,hpl,h3⟩:=keyA p 1 _ hp ho hv hcc
      obtain⟨c,c',v,k1,k2,_,_,_,k3⟩:=key 0 (by omega)
      rw[Nat.add_zero]at k1 k2 k3
      have e4:c'=⟨.dl es,.own,l'⟩:=by
       have:=congrArg (fun l=>l[0]?) h3
       simp only[List.getElem?_map,List.getElem?_take,List.getElem?_drop,Nat.add_zero,k2]at this
       simpa using this.symm
      obtain⟨l,e5,e6⟩:=k3 es l' e4
      refine⟨l,?_,e6⟩
      rw[hpl]
      have hlt:p.cell<b.cells.length:=by
       rcases Nat.lt_or_ge p.cell b.cells.length with h|h
       ·exact h
       ·simp[List.getElem?_eq_none h]at k1
      rw[List.drop_eq_getElem_cons hlt]
      rw[List.getElem?_eq_getElem hlt]at k1
      rw[List.take_succ_cons,List.take_zero,Option.some.inj k1,List.map_cons,e5];rfl
   ·refine Bl.same (by simp only[pF,bC _ _ _ hm]) (by simp only[aA,bC _ _ _ hm]) (fun k e=> ?_) ?_ ?_
    ·cases e;exact⟨bC _ _ _ hm,fun _=>hat m hm⟩
    ·exact h.G7 f ⟨fun i=>by simp,fun e=>by cases e;exact hm rfl,fun i=>by simp⟩ (hat m hm)
    ·exact fun p es l hp hc b len k hv=>h.uX f ⟨fun i e=>(by rw[hp]at e;cases e;exact hm rfl),by rw[hp];simp[dF],fun i=>iK _ _ _⟩ hc (by rw[hp];exact hv)
 ·rw[hs]at hm
  by_cases hmn:m=n
  ·subst hmn
   simp only[aX,Option.some.injEq]at hm;subst hm;exact .inr hr
  ·simp only[bC _ _ _ hmn]at hm
   exact .inl ⟨hm,fun i=>⟨fun j e=>by cases e;exact hmn rfl,by simp,fun j=>by simp⟩,⟨fun j=>by simp,fun e=>by cases e;exact hmn rfl,fun j=>by simp⟩,hat m hmn⟩
def Gh.ren (g:Gh) (ρ:aF→aF):Gh:={g with own:=fun b=>(g.own b).map ρ}
theorem Fr.ren {K:aF→Prop} (w:World) (g:Gh) {ρ:aF→aF} (h: ∀o,K o→ρ o=o):Fr K w w g (g.ren ρ):=
 ⟨Keeps.refl _ _,fun b ow k e=>⟨by simp[Gh.ren,e,h ow k],rfl,fun _ h=>h⟩⟩
theorem Base.ren {w0:World} {F0:Fz} {X:Nat→Prop} (h:Base w0 F0 X w g) (ρ:aF→aF):Base w0 F0 X w (g.ren ρ):=
 ⟨h.os,h.tape,h.output,h.size,h.blk,fun b ow e=>by
  simp only[Gh.ren,Option.map_eq_some_iff]at e
  obtain⟨o,e,_⟩:=e
  exact h.own b o e,h.keeps,h.fz,fun b ow cs t f e hc=>by
  simp only[Gh.ren,Option.map_eq_some_iff]at e
  obtain⟨o,e,_⟩:=e
  exact h.frz b o cs t f e hc⟩
theorem uy.ren {ρ:aF→aF} {ow:aF} {tip:Bool} {sh:Sh} {x:El sh} {v:Value} (h:uy w g ow tip sh x v):uy w (g.ren ρ) (ρ ow) tip sh x v:=by
 rcases h with h|⟨b,c,cur,et,hv,hl,hc,ho,hb,hs,he,hf⟩
 ·exact .inl h
 ·exact .inr ⟨b,c,cur,et,hv,hl,hc,by simp[Gh.ren,ho],hb,hs,he,hf⟩
theorem VG.ren {ρ:aF→aF} {ow:aF} {b:Nat} {tip:Bool} {sh:Sh} {x:El sh} {cs:List Value} (h:VG w g ow b tip sh x cs):VG w (g.ren ρ) (ρ ow) b tip sh x cs:=by
 cases sh with
 |dl es=>exact⟨h.1,iF.imp (g:=g) (g':=g.ren ρ) (ow':=ρ ow) (show Keeps w w g.F g.F from Keeps.refl _ _) (fun sh x v _=>uy.ren) h.2⟩
 |_=>exact h
theorem yA.ren {ρ:aF→aF} {ow:aF} {tip:Bool} {sh:Sh} {x:El sh} {v:Value} (h:yA w g ow tip sh x v):yA w (g.ren ρ) (ρ ow) tip sh x v:=by
 rcases h with h|⟨b,c,cur,et,hv,hl,hc,ho,hb,hs,he,hf⟩
 ·exact .inl h
 ·exact .inr ⟨b,c,cur,et,hv,hl,hc,by simp[Gh.ren,ho],hb,hs,he.ren,hf⟩
theorem Rz.ren {ρ:aF→aF} {ow:aF} {sh:Sh} {x:El sh} {v:Value} (h:Rz w g ow sh x v):Rz w (g.ren ρ) (ρ ow) sh x v:=by
 cases sh with
 |mp k e=>
  rcases h with h|⟨b,l,hx,hv,ho,hm,hf⟩
  ·exact .inl h
  ·exact .inr ⟨b,l,hx,hv,by simp[Gh.ren,ho],hm,hf⟩
 |_=>exact h.elim
theorem jl.ren {ρ:aF→aF} {ow:aF} {c:CV} {v:Value} (h:jl w g ow c v):jl w (g.ren ρ) (ρ ow) c v:=by
 unfold jl at h ⊢
 split
 ·trivial
 ·rename_i e;rw[e]at h;exact h
 ·rename_i e;rw[e]at h;simp only at h ⊢
  split
  ·rename_i hs;rw[if_pos hs]at h;exact h.ren
  ·rename_i hs;rw[if_neg hs]at h
   split
   ·rename_i hm;rw[if_pos hm]at h;exact h.ren
   ·rename_i hm;rw[if_neg hm]at h;exact h
 ·rename_i e;rw[e]at h;simp only at h ⊢
  split
  ·rename_i hs;rw[if_pos hs]at h;exact h.ren
  ·rename_i hs;rw[if_neg hs]at h;exact h
theorem aC.ren {ρ:aF→aF} {mk mk':Nat→aF}: ∀(cs:List CV) (i j:Nat) (vs:List Value),(∀k,k<cs.length→ρ (mk (i+k))=mk' (j+k))→aC w g mk i cs vs→aC w (g.ren ρ) mk' j cs vs
 | [],_,_,_,_,h=>h
 |c::cs,i,j,_,hr,⟨v,ws,e,h1,h⟩=>⟨v,ws,e,by have:=h1.ren (ρ:=ρ);rw[show ρ (mk i)=mk' j from hr 0 (by simp)]at this;exact this,
  aC.ren cs (i+1) (j+1) ws (fun k hk=>by have:=hr (k+1) (by simp;omega);rw[show i+(k+1)=i+1+k by omega,show j+(k+1)=j+1+k by omega]at this;exact this) h⟩
theorem aC.left {mk:Nat→aF} (k:Keeps w w' g.F g'.F): ∀(cs:List CV) (i:Nat) (vs:List Value),aC w g mk i cs vs→aC w' g' mk i (cs.map CV.left) vs
 | [],_,_,h=>h
 |c::cs,i,_,⟨v,ws,e,h1,h⟩=>⟨v,ws,e,by
  unfold CV.left
  cases hp:c.isPure with
  |true=>simp only[cond_true];exact h1.pure k hp
  |false=>simp only[cond_false];trivial,aC.left k cs (i+1) ws h⟩
end
end Go.AM
end
section
set_option linter.unusedVariables false
namespace Go.AM
open Go
section
variable {E:Env} {C:Ctx} {s s':St} {a a':Act} {w w':World} {g g':Gh}
def Gh.freeze (g:Gh) (b m:Nat):Gh:={g with F:=fun b' o=>g.F b' o∨(b'=b∧o<m)}
theorem cell_of_heap {b:Nat} {cur:Array Value} {et:TypeId} {f:Nat×Nat} (h:w.heap[b]? =some (.cells cur et f)) (o:Nat):w.cell? ⟨b,o,none⟩=cur[o]? :=by
 simp[World.cell?,h]
theorem lt_of_heap {b:Nat} {o:Obj} (h:w.heap[b]? =some o):b<w.heap.size:=(Array.getElem?_eq_some_iff.1 h).1
theorem Base.freeze {w0:World} {F0:Fz} {X:Nat→Prop} (h:Base w0 F0 X w g) {b:Nat} {ow:aF} (ho:g.own b=some ow) (m:Nat):Base w0 F0 X w (g.freeze b m):=
 ⟨h.os,h.tape,h.output,h.size,h.blk,h.own,h.keeps.trans ⟨fun _ _ hf=> .inl hf,fun _ _ _=>rfl⟩,fun b' o hf=>by
  rcases hf with hf|⟨rfl,_⟩
  ·exact h.fz b' o hf
  ·obtain⟨h1,h2⟩:=h.own _ _ ho
   exact⟨.inr h1,h2⟩,h.frz⟩
theorem yA.freeze {w0:World} {F0:Fz} {X:Nat→Prop} (hb:Base w0 F0 X w g) {ow:aF} {tip:Bool} {sh:Sh} (hsl:sh.oG=true) {x:El sh} {v:Value} (h:yA w g ow tip sh x v):
 ∃g',Fr (fun o=>o≠ow) w w g g'∧Base w0 F0 X w g'∧g'.own=g.own∧g'.at_=g.at_∧iR w g'.F sh x v∧yA w g' ow true sh x v:=by
 rcases h with⟨hv,hl⟩|⟨b,c,cur,et,hv,hl,hc,ho,hh,hs,he,hf⟩
 ·refine⟨g,Fr.refl _ _ _,hb,rfl,rfl,?_,.inl ⟨hv,hl⟩⟩
  rw[vW hsl]
  exact⟨none,0,by rw[hv,hl],by omega,.inl hl⟩
 ·have he:=(o9 hsl).1 he
  have k:Keeps w w g.F (g.freeze b (aP sh x*sh.n)).F:=⟨fun _ _ hf=> .inl hf,fun _ _ _=>rfl⟩
  have hlen:=he.length
  have hrow:NZ w (g.freeze b (aP sh x*sh.n)).F ⟨b,0,none⟩ (cur.toList.take (aP sh x*sh.n)):=by
   intro j hj
   rw[hlen]at hj
   refine⟨?_,.inr ⟨rfl,by simpa using hj⟩⟩
   rw[cell_of_heap hh,List.getElem?_take,if_pos hj];simp
  refine⟨g.freeze b (aP sh x*sh.n),⟨k,fun b' ow' hne e=>⟨e,rfl,fun o hf'=> ?_⟩⟩,hb.freeze ho _,rfl,rfl,?_,?_⟩
  ·rcases hf' with hf'|⟨rfl,_⟩
   ·exact hf'
   ·rw[ho]at e;cases e;exact absurd rfl hne
  ·rw[vW hsl]
   exact⟨_,c,hv,hl,.inr ⟨_,_,rfl,rfl,hrow,he.keeps k⟩⟩
  ·refine .inr ⟨b,c,cur,et,hv,hl,hc,ho,hh,hs,(o9 hsl).2 (he.keeps k),fun o=> ?_⟩
   simp only[Gh.freeze,hf o,true_and]
   constructor
   ·rintro(⟨_,h⟩|h)
    ·exact h
    ·exact h
   ·intro h;exact .inr h
theorem yx {ow:aF} {c:CV} {v:Value} (hs:c.sh.oN=false) (hm:c.sh.Hr=false) (hd:c.tg≠ .dead) (h:jl w g ow c v):iR w g.F c.sh c.x v:=by
 unfold jl at h
 split at h
 ·rename_i e;exact absurd e hd
 ·exact h
 ·simpa [hs,hm]using h
 ·simpa [hs]using h
theorem jl.weak {w0:World} {F0:Fz} {X:Nat→Prop} (hb:Base w0 F0 X w g) {ow:aF} {c:CV} {v:Value} {tg:Tg} (hle:Tg.le tg c.tg=true) (hdl:c.sh.YM tg=true) (h:jl w g ow c v):
 ∃g',Fr (fun o=>o≠ow) w w g g'∧Base w0 F0 X w g'∧g'.own=g.own∧g'.at_=g.at_∧jl w g' ow (c.to tg) v∧jl w g' ow (leftAs c tg) v:=by
 obtain⟨sh,ct,x⟩:=c
 have hpure:tg= .pure→ct≠ .dead:=by rintro rfl;cases ct<;>simp[Tg.le]at hle ⊢
 have notSl:sh.oN=false→sh.Hr=false→ct≠ .dead→iR w g.F sh x v:=fun hs hm hd=>yx (c:=⟨sh,ct,x⟩) hs hm hd h
 by_cases hpl:sh.oG=true
 ·have hsl:=eH hpl
  cases tg with
  |dead=>exact⟨g,Fr.refl _ _ _,hb,rfl,rfl,trivial,h⟩
  |pure=>
   cases ct with
   |dead=>simp[Tg.le]at hle
   |pure=>exact⟨g,Fr.refl _ _ _,hb,rfl,rfl,h,h⟩
   |own=>
    simp only[jl,hsl,if_true]at h
    obtain⟨g',f,b',o',a',p,t⟩:=h.freeze hb hpl
    exact⟨g',f,b',o',a',p,by simp only[leftAs,CV.to,jl,hsl,if_true];exact t⟩
   |tip=>
    simp only[jl,hsl,if_true]at h
    obtain⟨g',f,b',o',a',p,t⟩:=h.freeze hb hpl
    exact⟨g',f,b',o',a',p,by simp only[leftAs,jl,hsl,if_true];exact t⟩
  |tip=>
   cases ct with
   |dead=>simp[Tg.le]at hle
   |pure=>simp[Tg.le]at hle
   |tip=>exact⟨g,Fr.refl _ _ _,hb,rfl,rfl,h,trivial⟩
   |own=>
    simp only[jl,hsl,if_true]at h
    obtain⟨g',f,b',o',a',p,t⟩:=h.freeze hb hpl
    exact⟨g',f,b',o',a',by simp only[CV.to,jl,hsl,if_true];exact t,trivial⟩
  |own=>
   cases ct with
   |own=>exact⟨g,Fr.refl _ _ _,hb,rfl,rfl,h,trivial⟩
   |dead=>simp[Tg.le]at hle
   |pure=>simp[Tg.le]at hle
   |tip=>simp[Tg.le]at hle
 by_cases hsl:sh.oN=true
 ·rcases SN hsl with e|⟨es,rfl⟩
  ·exact absurd e hpl
  ·cases tg with
   |dead=>exact⟨g,Fr.refl _ _ _,hb,rfl,rfl,trivial,h⟩
   |own=>
    cases ct with
    |own=>exact⟨g,Fr.refl _ _ _,hb,rfl,rfl,h,trivial⟩
    |dead=>simp[Tg.le]at hle
    |pure=>simp[Tg.le]at hle
    |tip=>simp[Tg.le]at hle
   |pure=>simp[Sh.YM]at hdl
   |tip=>simp[Sh.YM]at hdl
 by_cases hmp:sh.Hr=true
 ·cases sh with
  |mp k e=>
   cases tg with
   |dead=>exact⟨g,Fr.refl _ _ _,hb,rfl,rfl,trivial,h⟩
   |own=>
    cases ct with
    |own=>exact⟨g,Fr.refl _ _ _,hb,rfl,rfl,h,trivial⟩
    |dead=>simp[Tg.le]at hle
    |pure=>simp[Tg.le]at hle
    |tip=>simp[Tg.le]at hle
   |pure=>simp[Sh.YM]at hdl
   |tip=>simp[Sh.YM]at hdl
  |_=>simp[Sh.Hr]at hmp
 ·have hmp':sh.Hr=false:=by simpa using hmp
  have hsl':sh.oN=false:=by simpa using hsl
  refine⟨g,Fr.refl _ _ _,hb,rfl,rfl,?_,?_⟩
  ·cases tg with
   |dead=>trivial
   |pure=>exact notSl hsl' hmp' (hpure rfl)
   |own=>cases ct<;>simp[Tg.le]at hle;simp only[CV.to,jl,hsl',hmp',Bool.false_eq_true,if_false];exact notSl hsl' hmp' (by simp)
   |tip=>cases ct<;>simp[Tg.le]at hle<;>(simp only[CV.to,jl,hsl',Bool.false_eq_true,if_false];exact notSl hsl' hmp' (by simp))
  ·cases tg with
   |dead=>trivial
   |own=>trivial
   |tip=>trivial
   |pure=>
    have hp:=notSl hsl' hmp' (hpure rfl)
    cases ct with
    |dead=>exact absurd rfl (hpure rfl)
    |pure=>exact hp
    |own=>simp only[leftAs,CV.to,jl,hsl',Bool.false_eq_true,if_false];exact hp
    |tip=>simp only[leftAs,jl,hsl',Bool.false_eq_true,if_false];exact hp
theorem Au {w0:World} {F0:Fz} {X:Nat→Prop} {mk:Nat→aF} (hinj: ∀i j,mk i=mk j→i=j): ∀(cs:List CV) (want:List (Sh×Tg)) (ds:List CV) (i:Nat) (vs:List Value) (g:Gh),
 Base w0 F0 X w g→weaken cs want=some ds→aC w g mk i cs vs→
 ∃g',Fr (fun o=> ∀j,i≤j→j<i+cs.length→o≠mk j) w w g g'∧Base w0 F0 X w g'∧g'.own=g.own∧g'.at_=g.at_∧aC w g' mk i ds vs∧aC w g' mk i (fV cs want) vs∧ds.length=cs.length∧
  ds.map CV.sh=cs.map CV.sh∧(fV cs want).map CV.sh=cs.map CV.sh
 | [],[],ds,i,vs,g,hb,hw,h=>by
   simp only[weaken,Option.some.injEq]at hw;subst hw
   exact⟨g,Fr.refl _ _ _,hb,rfl,rfl,h,h,rfl,rfl,rfl⟩
 | [],_::_,ds,i,vs,g,hb,hw,h=>by simp[weaken]at hw
 |_::_,[],ds,i,vs,g,hb,hw,h=>by simp[weaken]at hw
 |c::cs,(sh,tg)::want,ds,i,vs,g,hb,hw,⟨v,ws,e,h1,h⟩=>by
  simp only[weaken,cond_eq_ite,Bool.and_eq_true]at hw
  split at hw
  ·rename_i hc
   obtain⟨d',hd',rfl⟩:=Option.map_eq_some_iff.1 hw
   have hdl:c.sh.YM tg=true:=by rw[Sh.eq_of_beq hc.1.1];exact hc.2
   obtain⟨g1,f1,b1,o1,a1,p1,q1⟩:=h1.weak hb hc.1.2 hdl
   have hne: ∀j,mk (i+1+j)≠mk i:=fun j e=>by have:=hinj _ _ e;omega
   have h2:aC w g1 mk (i+1) cs ws:=by
    refine aC.of cs (i+1) ws h.length fun j c v hc hv=> ?_
    obtain⟨u,hu,hr⟩:=h.get cs (i+1) ws j c hc
    rw[hu]at hv;cases hv
    exact hr.fr f1 (hne j)
   obtain⟨g2,f2,b2,o2,a2,p2,q2,l2,m2,n2⟩:=Au hinj cs want d' (i+1) ws g1 b1 hd' h2
   have k2: ∀j,i+1≤j→j<i+1+cs.length→mk i≠mk j:=fun j hj _ e=>by have:=hinj _ _ e;omega
   refine⟨g2,(f1.mono fun o ho=>by simpa using ho i (Nat.le_refl _) (by simp)).trans (f2.mono fun o ho j hj hj'=>ho j (by omega) (by simp;omega)),b2,o2.trans o1,a2.trans a1,⟨v,ws,e,p1.fr f2 k2,p2⟩,?_,by simp[l2],by simp[CV.to,m2],?_⟩
   ·refine⟨v,ws,e,?_,q2⟩
    cases hp:c.isPure with
    |true=>simp only[cond_true];exact h1.pure (f1.keeps.trans f2.keeps) hp
    |false=>simp only[cond_false];exact q1.fr f2 k2
   ·simp only[fV,List.map_cons,n2,List.cons.injEq,and_true]
    cases c.isPure with
    |true=>rfl
    |false=>
     simp only[cond_false]
     cases tg<;>simp only[leftAs,CV.kill]
     cases c.tg<;>simp[CV.to]
  ·cases hw
end
end Go.AM
end
section
set_option linter.unusedVariables false
namespace Go.AM
open Go
section
variable {E:Env} {C:Ctx} {s s':St} {a a':Act} {w w':World} {g g':Gh}
theorem qE {cs ds:List CV} {j:Nat} (h:j+ds.length≤cs.length):(setCells cs j ds).length=cs.length:=by
 simp[setCells];omega
theorem jM {cs ds:List CV} {j:Nat} (h:j+ds.length≤cs.length) (i:Nat):(setCells cs j ds)[i]? =if j≤i∧i<j+ds.length then ds[i-j]? else cs[i]? :=by
 unfold setCells
 have hj:min j cs.length=j:=by omega
 by_cases h1:i<j
 ·rw[if_neg (by omega),List.append_assoc,List.getElem?_append_left (by simp;omega),List.getElem?_take,if_pos h1]
 ·by_cases h2:i<j+ds.length
  ·rw[if_pos ⟨by omega,h2⟩,List.getElem?_append_left (by simp;omega),List.getElem?_append_right (by simp;omega)]
   simp[hj]
  ·rw[if_neg (by omega),List.getElem?_append_right (by simp;omega)]
   simp only[List.length_append,List.length_take,hj,List.getElem?_drop]
   congr 1;omega
theorem aC.setCells {mk:Nat→aF} {cs ds:List CV} {vs us:List Value} {i j:Nat} (hl:j+ds.length≤cs.length) (hlu:us.length=ds.length) (h:aC w g mk i cs vs)
 (K:aF→Prop) (f:Fr K w w' g g') (hk: ∀k,k<cs.length→ ¬(j≤k∧k<j+ds.length)→K (mk (i+k))) (hd:aC w' g' mk (i+j) ds us):
 aC w' g' mk i (setCells cs j ds) (vs.take j++us++vs.drop (j+us.length)):=by
 have hvl:=h.length
 refine aC.of _ _ _ (by rw[qE hl];simp;omega) fun k c v hc hv=> ?_
 rw[jM hl]at hc
 split at hc
 ·rename_i hjk
  obtain⟨u,hu,hr⟩:=hd.get ds (i+j) us (k-j) c hc
  have:(vs.take j++us++vs.drop (j+us.length))[k]? =us[k-j]? :=by
   rw[List.getElem?_append_left (by simp;omega),List.getElem?_append_right (by simp;omega)]
   congr 1;simp;omega
  rw[this,hu]at hv;cases hv
  rwa [show i+j+(k-j)=i+k by omega]at hr
 ·rename_i hjk
  have hkl:k<cs.length:=by
   rcases Nat.lt_or_ge k cs.length with h|h
   ·exact h
   ·simp[List.getElem?_eq_none h]at hc
  obtain⟨u,hu,hr⟩:=h.get cs i vs k c hc
  have:(vs.take j++us++vs.drop (j+us.length))[k]? =vs[k]? :=by
   by_cases h1:k<j
   ·rw[List.append_assoc,List.getElem?_append_left (by simp;omega),List.getElem?_take,if_pos h1]
   ·rw[List.getElem?_append_right (by simp;omega)]
    simp only[List.length_append,List.length_take,List.getElem?_drop]
    congr 1;omega
  rw[this,hu]at hv;cases hv
  exact hr.fr f (hk k hkl hjk)
theorem Cj {α:Type} (vs:List α) (j m:Nat):vs.take j++(vs.drop j).take m++vs.drop (j+((vs.drop j).take m).length)=vs:=by
 rw[List.append_assoc]
 have:(vs.drop j).take m++vs.drop (j+((vs.drop j).take m).length)=vs.drop j:=by
  have e:vs.drop (j+((vs.drop j).take m).length)=(vs.drop j).drop ((vs.drop j).take m).length:=by rw[List.drop_drop]
  rw[e]
  conv=>rhs;rw[←List.take_append_drop m (vs.drop j)]
  congr 1
  by_cases hm:m≤(vs.drop j).length
  ·rw[List.length_take,Nat.min_eq_left hm]
  ·rw[List.length_take,Nat.min_eq_right (by omega),List.drop_length,List.drop_of_length_le (by omega)]
 rw[this,List.take_append_drop]
def yQ (a:Act) (w w':World) (g:Gh) (r:Root) (c:Nat) (cs ds:List CV):Prop:=
 ∀(i:Nat) es l',ds[i]? =some ⟨.dl es,.own,l'⟩→ ∃l,cs[i]? =some ⟨.dl es,.own,l⟩∧ ∀b len k,(aB a w g r)[c+i]? =some (.slice (some ⟨b,0,none⟩) len k)→w'.heap[b]? =w.heap[b]?
theorem yQ.of {a:Act} {w w':World} {g:Gh} {r:Root} {c:Nat} {cs ds:List CV} (h: ∀d,d∈ds→d.tg= .own→d.sh.oG=true∨d.sh.oN=false):yQ a w w' g r c cs ds:=by
 intro i es l' hi
 rcases h _ (List.mem_of_getElem? hi) rfl with h|h<;>simp[Sh.oG,Sh.oN]at h
theorem jD (h:Rel E C s a w g) {p:Pl} {cs ds:List CV} {us:List Upd} (hc:aU s p ds.length=some cs) (hu:iY s p ds false=some us) (hsh:ds.map CV.sh=cs.map CV.sh)
 (f:Fr (fun o=>(∀j,p.cell≤j→j<p.cell+ds.length→o≠dF p.root j)∧ ∀j,o≠ .hand j) w w' g g') (hb:Base C.w0 C.F0 C.X w' g') (hat:g'.at_=g.at_)
 (hds:aC w' g' (dF p.root) p.cell ds (((aB a w g p.root).drop p.cell).take ds.length)) (hdl:yQ a w w' g p.root p.cell cs ds):Rel E C (s.dI us) a w' g':=by
 rw[bG]at hc
 obtain⟨cells,e,hl,_,rfl⟩:=hc
 have other: ∀(i:Nat) es l v,cells[i]? =some (⟨.dl es,.own,l⟩,v)→ ¬(p.cell≤i∧i<p.cell+ds.length)→ ∀b len k,(aB a w g p.root)[i]? =some (.slice (some ⟨b,0,none⟩) len k)→w'.heap[b]? =w.heap[b]? :=by
  intro i es l v hi hn b len k hv
  have hlt:i<cells.length:=by
   rcases Nat.lt_or_ge i cells.length with h|h
   ·exact h
   ·simp[List.getElem?_eq_none h]at hi
  have hpl:aU s ⟨p.root,p.inst,[],i,none⟩ 1=some [⟨.dl es,.own,l⟩]:=by
   rw[bG]
   refine⟨cells,e,hlt,fun j x hx=>by simp at hx,?_⟩
   rw[List.drop_eq_getElem_cons hlt]
   rw[List.getElem?_eq_getElem hlt]at hi
   simp[Option.some.inj hi]
  refine h.uX f ⟨fun j h1 h2 e=> ?_,fun j=>iK _ _ _⟩ hpl hv
  have:=uD _ _ _ e
  simp only at this;subst this;exact hn ⟨h1,h2⟩
 unfold iY at hu
 cases hr:p.root with
 |tmp n=>
  rw[hr]at e hu f hds
  simp only[aA]at e
  simp only[]at hu
  split at e
  ·rename_i ag cs1 v heq
   rw[heq]at hu
   simp only[cond_eq_ite,Bool.false_eq_true,if_false]at hu
   split at hu
   ·cases hu;cases e
    have hcl:p.cell+ds.length≤cs1.length:=by simpa using hl
    have ht:=h.tm n
    rw[heq]at ht
    refine h.IJ (f.mono fun o ho=>⟨fun j _ _=>ho.1 j,ho.2⟩) hb hat (fun ag' cs' e=> ?_) ?_
    ·cases e
     refine⟨ag,cs1,by rw[heq],?_,fun i es l' hi=> ?_⟩
     ·apply List.ext_getElem?
      intro i
      simp only[List.getElem?_map,jM hcl]
      split
      ·rename_i hi
       have:=congrArg (fun l=>l[i-p.cell]?) hsh
       simp only[←ou,lU,List.getElem?_map,List.getElem?_take,List.getElem?_drop]at this
       rw[if_pos (by omega),show p.cell+(i-p.cell)=i by omega]at this
       exact this
      ·rfl
     ·rw[jM hcl]at hi
      split at hi
      ·rename_i hj
       obtain⟨l,e1,e2⟩:=hdl _ es l' hi
       refine⟨l,?_,fun b len k hv=>e2 b len k (by rw[hr,show p.cell+(i-p.cell)=i by omega];exact hv)⟩
       simp only[List.getElem?_map,List.getElem?_take,List.getElem?_drop]at e1
       rw[if_pos (by omega),show p.cell+(i-p.cell)=i by omega]at e1
       simpa using e1
      ·rename_i hj
       exact⟨l',hi,fun b len k hv=>other i es l' _ (by rw[List.getElem?_map,hi];rfl) hj b len k (by rw[hr];exact hv)⟩
    ·refine⟨ht.1,?_⟩
     have hvl:=ht.2.length
     have:=aC.setCells (w':=w') (g':=g') (us:=(((a.eval (.tmp n)).cells.toList.drop p.cell).take ds.length)) hcl (by simp[hvl];omega) ht.2 _ f (fun k hk hn=>⟨fun j h1 h2 e=>by simp[dF]at e;omega,fun j=>by simp⟩) (by rw[Nat.zero_add];exact hds)
     rwa [Cj]at this
   ·cases hu
  ·cases e
 |box n=>
  rw[hr]at e hu f hds
  simp only[aA]at e
  simp only[]at hu
  split at e
  ·rename_i b heq
   rw[heq]at hu
   simp only[cond_eq_ite,Bool.false_eq_true,if_false]at hu
   split at hu
   ·cases hu
    simp only[Option.some.injEq,Prod.mk.injEq]at e
    obtain⟨e1,e2⟩:=e
    subst e2
    obtain⟨cur,et,h1,h2,h3,h4⟩:=h.bx n b heq
    obtain⟨o1,o2,o3⟩:=f.own _ _ ⟨fun j _ _=>by simp[dF],fun j=>by simp⟩ h2
    have hvals:aB a w g (.box n)=cur.toList:=by simp only[aB,h1]
    have hcl:p.cell+ds.length≤(b.cells.map (·.1)).length:=by simpa using hl
    have hzip:((ds.zip (b.cells.drop p.cell)).map fun x=>((x.1,x.2.2):CV×Nat)).length=ds.length:=by simp;omega
    have hget: ∀(i:Nat) (c:CV) (v:Nat),b.cells[i]? =some (c,v)→
     ∃c',(b.cells.take p.cell++(ds.zip (b.cells.drop p.cell)).map (fun x=>((x.1,x.2.2):CV×Nat))++b.cells.drop (p.cell+ds.length))[i]? =some (c',v)∧
      (setCells (b.cells.map (·.1)) p.cell ds)[i]? =some c'∧c'.sh=c.sh:=by
     intro i c v hi
     have hil:i<b.cells.length:=by
      rcases Nat.lt_or_ge i b.cells.length with h|h
      ·exact h
      ·simp[List.getElem?_eq_none h]at hi
     rw[jM hcl]
     by_cases h5:i<p.cell
     ·refine⟨c,?_,by rw[if_neg (by omega)];simp[hi],rfl⟩
      rw[List.append_assoc,List.getElem?_append_left (by simp;omega),List.getElem?_take,if_pos h5,hi]
     ·by_cases h6:i<p.cell+ds.length
      ·have hdl:i-p.cell<ds.length:=by omega
       refine⟨ds[i-p.cell],?_,by rw[if_pos (by omega)];exact List.getElem?_eq_getElem hdl,?_⟩
       ·rw[List.getElem?_append_left (by simp;omega),List.getElem?_append_right (by simp;omega)]
        have e1:i-(b.cells.take p.cell).length=i-p.cell:=by simp;omega
        have hz:(ds.zip (b.cells.drop p.cell))[i-p.cell]? =some (ds[i-p.cell],(c,v)):=
         List.getElem?_zip_eq_some.2 ⟨List.getElem?_eq_getElem hdl,(by rw[List.getElem?_drop,show p.cell+(i-p.cell)=i by omega];exact hi)⟩
        rw[e1,List.getElem?_map,hz]
        rfl
       ·have:=congrArg (fun l=>l[i-p.cell]?) hsh
        simp only[List.map_map,List.getElem?_map,List.getElem?_take,List.getElem?_drop]at this
        rw[if_pos hdl,show p.cell+(i-p.cell)=i by omega,hi,List.getElem?_eq_getElem hdl]at this
        simpa using this
      ·refine⟨c,?_,by rw[if_neg (by omega)];simp[hi],rfl⟩
       rw[List.getElem?_append_right (by simp;omega),List.getElem?_drop]
       have e1:p.cell+ds.length+(i-(b.cells.take p.cell++(ds.zip (b.cells.drop p.cell)).map (fun x=>((x.1,x.2.2):CV×Nat))).length)=i:=by simp;omega
       rw[e1,hi]
    have hlen:(b.cells.take p.cell++(ds.zip (b.cells.drop p.cell)).map (fun x=>((x.1,x.2.2):CV×Nat))++b.cells.drop (p.cell+ds.length)).length=b.cells.length:=by simp;omega
    have hmap:(b.cells.take p.cell++(ds.zip (b.cells.drop p.cell)).map (fun x=>((x.1,x.2.2):CV×Nat))++b.cells.drop (p.cell+ds.length)).map (·.1)=setCells (b.cells.map (·.1)) p.cell ds:=by
     apply List.ext_getElem?
     intro i
     rw[List.getElem?_map]
     rcases Nat.lt_or_ge i b.cells.length with hi|hi
     ·obtain⟨c',k1,k2,_⟩:=hget i b.cells[i].1 b.cells[i].2 (List.getElem?_eq_getElem hi)
      rw[k1,k2];rfl
     ·rw[List.getElem?_eq_none (by rw[hlen];exact hi),List.getElem?_eq_none (by rw[qE hcl];simpa using hi)];rfl
    refine h.abl (f.mono fun o ho=>⟨fun j _ _ e=> ?_,ho.2.2⟩) hb (fun m _=>by rw[hat]) (.inr ⟨b,heq,rfl,hlen,by rw[hat],fun i c v hi=> ?_⟩) ?_
    ·exact ho.1 j (by simpa [dF]using e)
    ·obtain⟨c',k1,k2,k3⟩:=hget i c v hi
     refine⟨c',v,k1,k3,Nat.le_refl _,fun _=>⟨by simp only[aB,hat,o2],fun es l' e=> ?_⟩⟩
     rw[jM hcl]at k2
     split at k2
     ·rename_i hj
      rw[e]at k2
      obtain⟨l,e1,e2⟩:=hdl _ es l' k2
      refine⟨l,?_,fun b len k hv=>e2 b len k (by rw[hr,show p.cell+(i-p.cell)=i by omega];exact hv)⟩
      simp only[List.getElem?_map,List.getElem?_take,List.getElem?_drop]at e1
      rw[if_pos (by omega),show p.cell+(i-p.cell)=i by omega,hi]at e1
      simpa using e1
     ·rename_i hj
      rw[List.getElem?_map,hi]at k2
      have k2:c=c':=by simpa using k2
      subst k2
      exact⟨l',e,fun b len k hv=>other i es l' v (by rw[hi,e]) hj b len k (by rw[hr];exact hv)⟩
    ·refine⟨cur,et,by rw[hat];exact o2.trans h1,by rw[hat];exact o1,fun o ho=>h3 o (o3 o (by rw[hat]at ho;exact ho)),?_⟩
     simp only[hmap]
     rw[hvals]at hds
     have hvl:=h4.length
     have:=aC.setCells (w':=w') (g':=g') (us:=((cur.toList.drop p.cell).take ds.length)) hcl (by simp at hvl ⊢;omega) h4 _ f (fun k hk hn=>⟨fun j h1 h2 e=>by simp[dF]at e;omega,fun j=>by simp⟩) (by rw[Nat.zero_add];exact hds)
     rwa [Cj]at this
   ·cases hu
  ·cases e
end
end Go.AM
end
section
set_option linter.unusedVariables false
namespace Go.AM
open Go
section
variable {E:Env} {C:Ctx} {s s':St} {a a':Act} {w w':World} {g g':Gh}
def UC:Operand→Nat→aF
 | .tmp n=> .tm n
 |_=> .hand
theorem D6 {α:Type} {o:Option α} {x:α} (h:(Dyn.of o).run=some x):o=some x:=by
 cases o with
 |none=>simp[Dyn.of,Dyn.run]at h
 |some y=>simpa [Dyn.of,Dyn.run]using h
theorem aS {α β:Type} {d:Dyn α} {q:α→Dyn β} {x:β} (h:(d.bind q).run=some x): ∃y,d.run=some y∧(q y).run=some x:=by
 rw[Dyn.run_bind]at h
 exact Option.bind_eq_some_iff.1 h
theorem yL (w:World) (g:Gh) (mk:Nat→aF) {c:CV} {v:Value} (hc:c.tg= .pure) (hv:isAgg v=false) (h:iR w g.F c.sh c.x v) (hcell:v.cells= #[v]):BH w g mk 0 false [c] v:=
 ⟨hv,v,[],by rw[hcell],by unfold jl;rw[hc];exact h,rfl⟩
theorem ZP (w:World) (g:Gh) (s:St) (a:Act) (mk:Nat→aF) (v:Value):(MF v= .nilc∧v= .slice none 0 0)∨TV s a w g mk (MF v) v:=by
 cases v with
 |int k n=>exact .inr (yL w g mk rfl rfl rfl rfl)
 |bool b=>exact .inr (yL w g mk rfl rfl rfl rfl)
 |string b=>exact .inr (yL w g mk rfl rfl rfl rfl)
 |slice A l c=>
  unfold MF
  split
  ·rename_i h;cases h
  ·rename_i h;cases h
  ·rename_i h;cases h
  ·rename_i h;cases h;exact .inl ⟨rfl,rfl⟩
  ·exact .inr trivial
 |_=>exact .inr trivial
theorem Rel.at_ (h:Rel E C s a w g) (x:Operand):(at_ E s x= .nilc∧a.eval x= .slice none 0 0)∨TV s a w g (UC x) (at_ E s x) (a.eval x):=by
 cases x with
 |tmp n=>exact .inr (h.tm n)
 |const v=>exact ZP w g s a _ v
 |global gl=>
  right
  simp only[Go.AM.at_]
  cases hg:E.glob gl with
  |none=>trivial
  |some cs=>
   obtain⟨h1,vs,h2,h3⟩:=h.glob gl cs hg
   exact⟨⟨gl,0,none⟩,vs,rfl,h2,h1,h3⟩
 |func f=>exact .inr rfl
theorem abx (cs:List CV):(cs.map CV.left).map CV.sh=cs.map CV.sh:=by
 induction cs with
 |nil=>rfl
 |cons c cs ih=>
  simp only[List.map_cons,ih,List.cons.injEq,and_true]
  unfold CV.left;cases c.isPure<;>rfl
theorem QL (h:Rel E C s a w g) {hs:List CV} {hv:List Value} (hh:aC w g .hand 0 hs hv) {p:Pl} {m:Nat} {cs:List CV} {us:List Upd} (hc:aU s p m=some cs)
 (hu:iY s p (cs.map CV.left) false=some us):
 ∃g',Rel E C (s.dI us) a w g'∧aC w g' .hand 0 (hs++cs) (hv++((aB a w g p.root).drop p.cell).take m)∧g'.at_=g.at_∧Keeps w w g.F g'.F:=by
 obtain⟨hp,hl⟩:=h.pl hc
 let ρ:aF→aF:=fun o=>match p.root,o with
  | .tmp n,.tm k j=>if k=n∧p.cell≤j∧j<p.cell+m then .hand (hs.length+(j-p.cell))else o
  | .box n,.cell k j=>if k=n∧p.cell≤j∧j<p.cell+m then .hand (hs.length+(j-p.cell))else o
  |_,o=>o
 have hfix: ∀o,(∀j,p.cell≤j→j<p.cell+(cs.map CV.left).length→o≠dF p.root j)→ρ o=o:=by
  intro o ho
  simp only[List.length_map,hl]at ho
  simp only[ρ]
  cases hr:p.root with
  |tmp n=>
   cases o<;>simp only
   rename_i k j
   split
   ·rename_i hk;exact absurd (by rw[hr,hk.1];rfl) (ho j hk.2.1 hk.2.2)
   ·rfl
  |box n=>
   cases o<;>simp only
   rename_i k j
   split
   ·rename_i hk;exact absurd (by rw[hr,hk.1];rfl) (ho j hk.2.1 hk.2.2)
   ·rfl
 have hhand: ∀i,ρ (.hand i)= .hand i:=fun i=>hfix _ (fun j _ _=>by cases p.root<;>simp[dF])
 have hmove: ∀k,k<m→ρ (dF p.root (p.cell+k))= .hand (hs.length+k):=by
  intro k hk
  simp only[ρ]
  cases hr:p.root with
  |tmp n=>simp only[dF];rw[if_pos ⟨trivial,by omega,by omega⟩];congr 1;omega
  |box n=>simp only[dF];rw[if_pos ⟨trivial,by omega,by omega⟩];congr 1;omega
 refine⟨g.ren ρ,?_,?_,rfl,Keeps.refl _ _⟩
 ·refine jD h (ds:=cs.map CV.left) (by simpa [hl]using hc) hu (abx cs) (Fr.ren w g fun o ho=>hfix o ho.1) (h.base.ren ρ) rfl ?_ ?_
  have:=aC.left (w':=w) (g':=g.ren ρ) (mk:=dF p.root) (Keeps.refl w g.F) cs p.cell _ hp
  simpa [hl]using this
  refine yQ.of fun d hd=> ?_
  obtain⟨c,_,rfl⟩:=List.mem_map.1 hd
  intro e
  unfold CV.left at e
  cases hp:c.isPure with
  |true=>
   rw[hp]at e
   have e:c.tg= .own:=e
   simp[CV.isPure,Tg.isPure,e]at hp
  |false=>rw[hp]at e;cases e
 ·refine aC.append hs 0 hv cs _ (aC.ren hs 0 0 hv (fun k _=>by simpa using hhand (0+k)) hh) ?_
  rw[Nat.zero_add]
  exact aC.ren cs p.cell hs.length _ (fun k hk=>hmove k (by omega)) hp
theorem La (fresh:Bool): ∀(ds:List CV) (cs:List (CV×Nat)) (j:Nat),j+ds.length≤cs.length→
 setMany cs (Jy fresh j ds (cs.drop j))=cs.take j++((ds.zip (cs.drop j)).map fun x=>(x.1,bif fresh then x.2.2+1 else x.2.2))++cs.drop (j+ds.length)
 | [],cs,j,_=>by simp[Jy,setMany]
 |d::ds,cs,j,h=>by
  have hj:j<cs.length:=by simp at h;omega
  rw[List.drop_eq_getElem_cons hj]
  simp only[Jy,setMany,List.zip_cons_cons,List.map_cons]
  have e1:cs.drop (j+1)=(cs.set j (d,bif fresh then cs[j].2+1 else cs[j].2)).drop (j+1):=by rw[List.drop_set_of_lt (by omega)]
  have:=La fresh ds (cs.set j (d,bif fresh then cs[j].2+1 else cs[j].2)) (j+1) (by simp at h ⊢;omega)
  rw[←e1]at this
  rw[this]
  have e2:(cs.set j (d,bif fresh then cs[j].2+1 else cs[j].2)).take (j+1)=cs.take j++[(d,bif fresh then cs[j].2+1 else cs[j].2)]:=by
   rw[List.take_add_one,List.take_set_of_le (Nat.le_refl _)]
   simp[hj]
  have e3:(cs.set j (d,bif fresh then cs[j].2+1 else cs[j].2)).drop (j+1+ds.length)=cs.drop (j+(d::ds).length):=by
   rw[List.drop_set_of_lt (by omega)];congr 1;simp;omega
  rw[e2,e3]
  simp
theorem OD {p:Pl} {ds:List CV} {fresh:Bool} {us:List Upd} (h:iY s p ds fresh=some us):s.dI (JW s p ds fresh us)=s.dI us:=by
 unfold iY at h
 unfold JW
 cases hr:p.root with
 |tmp n=>rfl
 |box n=>
  rw[hr]at h
  simp only[]at h ⊢
  cases hb:s.bx n with
  |none=>rw[hb]at h;cases h
  |some b=>
   rw[hb]at h
   simp only[cond_eq_ite,Bool.and_eq_true]at h
   split at h
   ·rename_i hc
    cases h
    have hl:=Nat.le_of_ble_eq_true hc.2
    simp only[yO,hb,St.dI,List.foldl_cons,List.foldl_nil,Upd.on,Option.map_some]
    rw[La fresh ds b.cells p.cell hl]
    cases fresh<;>rfl
   ·cases h
theorem vV (cs ds:List CV) (h:ds.length=cs.length):setCells cs 0 ds=ds:=by
 simp[setCells,h]
theorem UH (h:Rel E C s a w g) {hs:List CV} {hv:List Value} (hh:aC w g .hand 0 hs hv) {p:Pl} {m:Nat} {cs:List CV} {us:List Upd} (hp:p.sub=none)
 (hc:aU s p m=some cs) (hu:Ae s p cs=some us):
 ∃g',Rel E C (s.dI us) a w g'∧aC w g' .hand 0 (hs++cs) (hv++((aB a w g p.root).drop p.cell).take m)∧g'.at_=g.at_∧Keeps w w g.F g'.F:=by
 unfold Ae at hu
 cases hpu:bg cs with
 |true=>
  rw[hpu]at hu;simp only[cond_true,Option.some.injEq]at hu;subst hu
  obtain⟨h1,h2⟩:=h.pl hc
  exact⟨g,h,aC.append hs 0 hv cs _ hh (aC.sZ (Keeps.refl _ _) cs p.cell _ _ hpu h1),rfl,Keeps.refl _ _⟩
 |false=>
  rw[hpu]at hu;simp only[cond_false,hp,Option.map_eq_some_iff]at hu
  obtain⟨us0,hu,rfl⟩:=hu
  rw[OD hu]
  exact QL h hh hc hu
end
end Go.AM
end
section
set_option linter.unusedVariables false
namespace Go.AM
open Go
section
variable {E:Env} {C:Ctx} {s s':St} {a a':Act} {w w':World} {g g':Gh}
theorem jZ {c:CV} {sh:Sh} {y:El sh} (h:jd c sh=some y): ∃e:c.sh=sh,y=cast (congrArg El e) c.x:=by
 unfold jd at h
 split at h
 ·rename_i hb;exact⟨Sh.eq_of_beq hb,(Option.some.inj h).symm⟩
 ·cases h
theorem yu {c:CV} {sh:Sh} {y:El sh} (h:jd c sh=some y) {v:Value} (hp:iR w g.F c.sh c.x v):iR w g.F sh y v:=by
 obtain⟨e,rfl⟩:=jZ h
 obtain⟨csh,ct,cx⟩:=c
 cases e
 exact hp
theorem pY {ow:aF} {c:CV} {v:Value} (hc:c.tg= .pure):jl w g ow c v ↔ iR w g.F c.sh c.x v:=by
 unfold jl;rw[hc]
theorem cells_ok (mk:Nat→aF): ∀(es:List Sh) (x:ElA es) (i:Nat) (vs:List Value),dK w g.F es x vs→aC w g mk i (cellsOf es x) vs
 | [],_,_,_,h=>h
 | [s],x,i,vs,h=>by
   simp only[dK]at h
   obtain⟨v,e,h⟩:=h
   exact⟨v,[],e,h,rfl⟩
 |s::t::ss,x,i,vs,h=>by
  simp only[dK]at h
  obtain⟨v,ws,e,h1,h2⟩:=h
  exact⟨v,ws,e,h1,cells_ok mk (t::ss) x.2 (i+1) ws h2⟩
theorem rD: ∀(es:List Sh) (x:ElA es),bg (cellsOf es x)=true
 | [],_=>rfl
 | [s],x=>rfl
 |s::t::ss,x=>by
  have:=rD (t::ss) x.2
  simp only[bg,cellsOf,List.all_cons,Bool.and_eq_true]at this ⊢
  exact⟨rfl,this⟩
theorem rV: ∀(es:List Sh) (x:ElA es),(cellsOf es x).map CV.sh=es
 | [],_=>rfl
 | [s],x=>rfl
 |s::t::ss,x=>by simp[cellsOf,rV (t::ss) x.2]
theorem qQ {cs:List CV} (h:bg cs=true): ∀c,c∈cs→c.tg= .pure:=by
 intro c hc
 have:=List.all_eq_true.1 h c hc
 unfold CV.isPure Tg.isPure at this
 split at this<;>simp_all
theorem Ag (sh t:Sh) (ss:List Sh) (c:CV) (cs:List CV):fH (sh::t::ss) (c::cs)=(match jd c sh,fH (t::ss) cs with
 |some y,some z=>some (y,z)
 |_,_=>none):=rfl
theorem aO {α:Type} {o:Option α} {x:α} (h:o=some x) (e:o=none):False:=by rw[e]at h;cases h
theorem nU {sh t:Sh} {ss:List Sh} {c:CV} {cs:List CV} {x:ElA (sh::t::ss)} (h:fH (sh::t::ss) (c::cs)=some x):
 ∃y z,jd c sh=some y∧fH (t::ss) cs=some z∧x=(y,z):=by
 rw[Ag]at h
 cases hy:jd c sh with
 |none=>rw[hy]at h;cases h
 |some y=>
  cases hz:fH (t::ss) cs with
  |none=>rw[hy,hz]at h;cases h
  |some z=>rw[hy,hz]at h;exact⟨y,z,rfl,rfl,(Option.some.inj h).symm⟩
theorem Bc (mk:Nat→aF): ∀(es:List Sh) (cs:List CV) (x:ElA es) (i:Nat) (vs:List Value),fH es cs=some x→(∀c,c∈cs→c.tg= .pure)→aC w g mk i cs vs→dK w g.F es x vs
 | [],[],_,_,_,_,_,h=>h
 | [],_::_,_,_,_,ho,_,_=>(aO ho rfl).elim
 | [s],[],_,_,_,ho,_,_=>(aO ho rfl).elim
 | [s],[c],x,i,vs,ho,hp,h=>by
   obtain⟨v,ws,e,h1,h2⟩:=h
   have h2:ws= []:=h2
   subst h2
   exact⟨v,e,yu ho ((pY (hp c (by simp))).1 h1)⟩
 | [s],_::_::_,_,_,_,ho,_,_=>(aO ho rfl).elim
 |s::t::ss,[],_,_,_,ho,_,_=>(aO ho rfl).elim
 |s::t::ss,c::cs,x,i,vs,ho,hp,h=>by
  obtain⟨v,ws,e,h1,h2⟩:=h
  obtain⟨y,z,hy,hz,rfl⟩:=nU ho
  exact⟨v,ws,e,yu hy ((pY (hp c (by simp))).1 h1),Bc mk (t::ss) cs z (i+1) ws hz (fun c hc=>hp c (by simp[hc])) h2⟩
theorem ER: ∀(es:List Sh) (cs:List CV) (x:ElA es),fH es cs=some x→cs.map CV.sh=es
 | [],[],_,_=>rfl
 | [],_::_,_,ho=>(aO ho rfl).elim
 | [s],[],_,ho=>(aO ho rfl).elim
 | [s],[c],x,ho=>by
   obtain⟨e,_⟩:=jZ ho
   simp[e]
 | [s],_::_::_,_,ho=>(aO ho rfl).elim
 |s::t::ss,[],_,ho=>(aO ho rfl).elim
 |s::t::ss,c::cs,x,ho=>by
  obtain⟨y,z,hy,hz,_⟩:=nU ho
  obtain⟨e,_⟩:=jZ hy
  have:=ER (t::ss) cs z hz
  simp[e,this]
theorem Ba: ∀(es:List Sh) (cs:List CV),fH es (cs.map (·.to .pure))=fH es cs
 | [],[]=>rfl
 | [],_::_=>rfl
 | [s],[]=>rfl
 | [s],[c]=>rfl
 | [s],_::_::_=>rfl
 |s::t::ss,[]=>rfl
 |s::t::ss,c::cs=>by
  have ih:=Ba (t::ss) cs
  have:jd (c.to .pure) s=jd c s:=rfl
  rw[List.map_cons,Ag,Ag,this,ih]
theorem yH (mk:Nat→aF) (ss:List Sh) (t:RT (ElA ss)) (i:Nat) (vs:List Value) (h:oJ w g.F (dK w g.F ss) t vs):aC w g mk i (qI ss t) vs:=by
 cases t with
 |mk x kids=>
  unfold oJ at h
  obtain⟨c1,v,e,h1,h2⟩:=h
  rw[e]
  exact aC.append _ i c1 _ _ (cells_ok mk ss x i c1 h1) ⟨v,[],rfl,by simp only[jl,iR];exact h2,rfl⟩
theorem uG (ss:List Sh) (t:RT (ElA ss)):bg (qI ss t)=true:=by
 have:=rD ss t.a
 simp only[bg,qI,List.all_append,Bool.and_eq_true]at this ⊢
 exact⟨this,rfl⟩
theorem RI (mk:Nat→aF) (ss:List Sh) (cs:List CV) (t:RT (ElA ss)) (i:Nat) (vs:List Value) (ho:vG ss cs=some t) (hp: ∀c,c∈cs→c.tg= .pure) (h:aC w g mk i cs vs):oJ w g.F (dK w g.F ss) t vs:=by
 unfold vG at ho
 cases hx:fH ss (cs.take ss.length)with
 |none=>rw[hx]at ho;cases ho
 |some x=>
  rw[hx]at ho
  match hk:cs.drop ss.length with
  | []=>rw[hk]at ho;cases ho
  |_::_::_=>rw[hk]at ho;cases ho
  | [k]=>
    rw[hk]at ho
    simp only[]at ho
    cases hks:jd k (.rsl ss)with
    |none=>rw[hks]at ho;cases ho
    |some ks=>
     rw[hks]at ho
     cases ho
     have hl:cs.length=ss.length+1:=by
      have:=congrArg List.length hk
      simp at this;omega
     have hvl:=h.length
     unfold oJ
     have h1:=h.sub 0 ss.length
     have h2:=h.sub ss.length 1
     simp only[List.drop_zero,Nat.add_zero]at h1
     rw[hk]at h2
     obtain⟨v,ws,e,h3,h4⟩:=h2
     simp only[List.take_nil,aC]at h4;subst h4
     refine⟨vs.take ss.length,v,?_,Bc mk ss _ x i _ hx (fun c hc=>hp c (List.mem_of_mem_take hc)) h1,?_⟩
     ·rw[←e]
      have:(vs.drop ss.length).take 1=vs.drop ss.length:=List.take_of_length_le (by simp;omega)
      rw[this,List.take_append_drop]
     ·have hkp:k.tg= .pure:=hp k (List.mem_of_mem_drop (by rw[hk];simp))
      exact yu hks ((pY hkp).1 h3)
theorem PV (ss:List Sh) (cs:List CV):vG ss (cs.map (·.to .pure))=vG ss cs:=by
 unfold vG
 rw[←List.map_take,Ba,←List.map_drop]
 cases fH ss (cs.take ss.length)with
 |none=>rfl
 |some x=>
  match cs.drop ss.length with
  | []=>rfl
  | [k]=>rfl
  |_::_::_=>rfl
theorem LJ {w0:World} {F0:Fz} {X:Nat→Prop} {mk:Nat→aF} (hinj: ∀i j,mk i=mk j→i=j) {cs:List CV} {i:Nat} {vs:List Value} (hb:Base w0 F0 X w g) (hd:BG cs=true) (h:aC w g mk i cs vs):
 ∃g',Fr (fun o=> ∀j,i≤j→j<i+cs.length→o≠mk j) w w g g'∧Base w0 F0 X w g'∧g'.own=g.own∧g'.at_=g.at_∧aC w g' mk i (cs.map (·.to .pure)) vs:=by
 have hw: ∀cs:List CV,BG cs=true→weaken cs (cs.map fun c=>(c.sh,.pure))=some (cs.map (·.to .pure)):=by
  intro cs hd
  induction cs with
  |nil=>rfl
  |cons c cs ih=>
   simp only[BG,List.all_cons,Bool.and_eq_true]at hd
   have hsh: ∀sh:Sh,Sh.beq sh sh=true:=by
    intro sh
    induction sh using Sh.rec (motive_2:=fun aZ=>Sh.Hq aZ aZ=true)with
    |int k=>simp[Sh.beq]
    |bool=>rfl
    |str=>rfl
    |sl es ih=>simpa [Sh.beq]using ih
    |rsl es ih=>simpa [Sh.beq]using ih
    |dl es ih=>simpa [Sh.beq]using ih
    |mp k e ih1 ih2=>simp[Sh.beq,ih1,ih2]
    |nil=>rfl
    |cons s ss ih1 ih2=>simp[Sh.Hq,ih1,ih2]
   have hle:Tg.le .pure c.tg=true:=by
    obtain⟨sh,ct,x⟩:=c
    cases ct<;>simp_all [Tg.le]
   have hdl:c.sh.YM .pure=true:=by
    have h1:=hd.1.2
    have h2:=hd.1.1.2
    cases hs:c.sh<;>first|rfl|(rw[hs]at h1 h2;cases h1<;>cases h2)
   simp only[List.map_cons,weaken,hsh,hle,hdl,Bool.and_self,cond_true,ih hd.2,Option.map_some]
 obtain⟨g',f,b,o,at',r,_⟩:=Au hinj cs _ _ i vs g hb (hw cs hd) h
 exact⟨g',f,b,o,at',r⟩
theorem oz {ow:aF} {c:CV} {v:Value} (hs:c.sh.oN=true) (hd:c.tg≠ .dead) (h:jl w g ow c v):
 (∃A k,v= .slice A 0 k∧aP c.sh c.x=0)∨
 ∃(ad:Addr) (k:Nat) (cs:List Value),v= .slice (some ad) (aP c.sh c.x) k∧aP c.sh c.x≤k∧ad.spot=none∧(c.sh.oG=true→uq w g.F c.sh c.x cs)∧(∀j,j<cs.length→w.cell? ⟨ad.block,ad.off+j,none⟩=cs[j]?)∧
  (c.tg≠ .own→NZ w g.F ad cs)∧(c.tg≠ .pure→ad.off=0):=by
 have own: ∀tip,yA w g ow tip c.sh c.x v→(c.tg≠ .own→tip=true)→c.tg≠ .pure→
  (∃A k,v= .slice A 0 k∧aP c.sh c.x=0)∨
  ∃(ad:Addr) (k:Nat) (cs:List Value),v= .slice (some ad) (aP c.sh c.x) k∧aP c.sh c.x≤k∧ad.spot=none∧(c.sh.oG=true→uq w g.F c.sh c.x cs)∧(∀j,j<cs.length→w.cell? ⟨ad.block,ad.off+j,none⟩=cs[j]?)∧
   (c.tg≠ .own→NZ w g.F ad cs)∧(c.tg≠ .pure→ad.off=0):=by
  intro tip h ht hnp
  rcases h with⟨hv,hl⟩|⟨b,k,cur,et,hv,hl,hc,ho,hh,hsz,he,hf⟩
  ·exact .inl ⟨none,0,hv,hl⟩
  ·have hlen:=he.length
   have hcell: ∀j,j<(cur.toList.take (aP c.sh c.x*c.sh.n)).length→w.cell? ⟨b,j,none⟩=(cur.toList.take (aP c.sh c.x*c.sh.n))[j]? :=by
    intro j hj
    rw[hlen]at hj
    rw[cell_of_heap hh,List.getElem?_take,if_pos hj];simp
   refine .inr ⟨⟨b,0,none⟩,k,_,hv,hl,rfl,fun hpl=>(o9 hpl).1 he,fun j hj=>by simpa using hcell j hj,fun hno j hj=> ?_,fun _=>rfl⟩
   refine⟨by simpa using hcell j hj,(hf _).2 ⟨ht hno,by rw[hlen]at hj;simpa using hj⟩⟩
 unfold jl at h
 split at h
 ·rename_i e;exact absurd e hd
 ·rename_i e
  have hpl:c.sh.oG=true:=by
   rcases SN hs with e|⟨es,e⟩
   ·exact e
   ·obtain⟨csh,ct,cx⟩:=c
    simp only at e;subst e;exact h.elim
  rw[vW hpl]at h
  obtain⟨A,k,hv,hl,h⟩:=h
  rcases h with h|⟨ad,cs,ha,hsp,hr,he⟩
  ·exact .inl ⟨A,k,by rw[hv,h],h⟩
  ·exact .inr ⟨ad,k,cs,by rw[hv,ha],hl,hsp,fun _=>he,fun j hj=>(hr j hj).1,fun _=>hr,fun hn=>absurd e hn⟩
 ·rename_i e;rw[if_pos hs]at h
  exact own false h (fun hn=>absurd e hn) (by rw[e];simp)
 ·rename_i e;rw[if_pos hs]at h
  exact own true h (fun _=>rfl) (by rw[e];simp)
theorem Ee {ow:aF} {c:CV} {v:Value} (h:jl w g ow c v) {i:Nat} {ds:List CV} (he:(xA c i).run=some ds):
 c.sh.oN=true∧c.tg≠ .dead∧bg ds=true∧ds.length=c.sh.n∧i<aP c.sh c.x∧ ∃(ad:Addr) (k:Nat) (vs:List Value),v= .slice (some ad) (aP c.sh c.x) k∧ad.spot=none∧vs.length=c.sh.n∧
  (∀mk j,aC w g mk j ds vs)∧(∀j,j<c.sh.n→w.cell? ⟨ad.block,ad.off+(i*c.sh.n+j),none⟩=vs[j]?)∧
  (c.tg≠ .own→NZ w g.F ⟨ad.block,ad.off+i*c.sh.n,none⟩ vs)∧(c.tg≠ .pure→ad.off=0):=by
 obtain⟨sh,ct,x⟩:=c
 have hd:ct≠ .dead:=by
  rintro rfl
  cases sh<;>exact aO he rfl
 have go: ∀{α:Type} {n:Nat} {R:α→List Value→Prop} {L:List α→List Value→Prop} (hr:I9 n R L) (l:List α) (e:α) (cs:List Value),L l cs→at? l i=some e→sh.n=n→
  i<l.length∧((cs.drop (i*n)).take n).length=n∧R e ((cs.drop (i*n)).take n)∧(∀j,j<n→((cs.drop (i*n)).take n)[j]? =cs[i*n+j]? ∧i*n+j<cs.length):=by
  intro α n R L hr l e cs hl ha hn
  have hi:i<l.length:=by
   rcases Nat.lt_or_ge i l.length with h|h
   ·exact h
   ·simp[at?,List.getElem?_eq_none h]at ha
  have hg:=hr.get l cs hl i e ha
  have hlen:=hr.length l cs hl
  have hm:i*n+n≤cs.length:=by rw[hlen,←Nat.succ_mul];exact Nat.mul_le_mul_right _ hi
  refine⟨hi,hr.len _ _ hg,hg,fun j hj=>⟨?_,by omega⟩⟩
  rw[List.getElem?_take,if_pos hj,List.getElem?_drop]
 cases sh with
 |sl es=>
  have he': ∃e,at? x i=some e∧ds=cellsOf es e:=by
   have hr:(at? (α:=ElA es) x i).bind (fun e=>some (cellsOf es e))=some ds:=by
    cases ct
    ·exact he
    ·exact he
    ·exact he
    ·exact absurd rfl hd
   obtain⟨e,h1,h2⟩:=Option.bind_eq_some_iff.1 hr
   exact⟨e,h1,(Option.some.inj h2).symm⟩
  obtain⟨e,ha,rfl⟩:=he'
  have hp:=rD es e
  have hdl:(cellsOf es e).length=es.length:=by have:=congrArg List.length (rV es e);simpa using this
  rcases oz rfl hd h with⟨A,k,_,h0⟩|⟨ad,k,cs,hv,_,hsp,hels,hcell,hrow,hoff⟩
  ·exfalso
   have h0':List.length x=0:=h0
   simp[at?,List.eq_nil_of_length_eq_zero h0']at ha
  ·obtain⟨hi,hl,hg,hj⟩:=go (iW (w:=w) (F:=g.F) es) x e cs (hels rfl) ha rfl
   refine⟨rfl,hd,hp,hdl,hi,ad,k,_,hv,hsp,hl,fun mk j=>cells_ok mk es e j _ hg,fun j hjn=> ?_,fun hno j hjn=> ?_,hoff⟩
   ·obtain⟨e1,e2⟩:=hj j hjn
    rw[e1];exact hcell _ e2
   ·rw[hl]at hjn
    obtain⟨e1,e2⟩:=hj j hjn
    rw[e1]
    have:=hrow hno _ e2
    rw[Nat.add_assoc];exact this
 |rsl ss=>
  have he': ∃e,at? x i=some e∧ds=qI ss e:=by
   have hr:(at? (α:=RT (ElA ss)) x i).bind (fun e=>some (qI ss e))=some ds:=by
    cases ct
    ·exact he
    ·exact he
    ·exact he
    ·exact absurd rfl hd
   obtain⟨e,h1,h2⟩:=Option.bind_eq_some_iff.1 hr
   exact⟨e,h1,(Option.some.inj h2).symm⟩
  obtain⟨e,ha,rfl⟩:=he'
  have hp:=uG ss e
  have hdl:(qI ss e).length=ss.length+1:=by have:=congrArg List.length (rV ss e.a);simp[qI]at this ⊢;exact this
  rcases oz rfl hd h with⟨A,k,_,h0⟩|⟨ad,k,cs,hv,_,hsp,hels,hcell,hrow,hoff⟩
  ·exfalso
   have h0':List.length x=0:=h0
   simp[at?,List.eq_nil_of_length_eq_zero h0']at ha
  ·obtain⟨hi,hl,hg,hj⟩:=go (jA (w:=w) (F:=g.F) ss) x e cs (hels rfl) ha rfl
   refine⟨rfl,hd,hp,hdl,hi,ad,k,_,hv,hsp,hl,fun mk j=>yH mk ss e j _ hg,fun j hjn=> ?_,fun hno j hjn=> ?_,hoff⟩
   ·obtain⟨e1,e2⟩:=hj j hjn
    rw[e1];exact hcell _ e2
   ·rw[hl]at hjn
    obtain⟨e1,e2⟩:=hj j hjn
    rw[e1]
    have:=hrow hno _ e2
    rw[Nat.add_assoc];exact this
 |int k=>exact(aO he rfl).elim
 |bool=>exact(aO he rfl).elim
 |str=>exact(aO he rfl).elim
 |dl _=>exact(aO he rfl).elim
 |mp _ _=>exact(aO he rfl).elim
end
end Go.AM
end
section
set_option linter.unusedVariables false
namespace Go.AM
open Go
section
variable {E:Env} {C:Ctx} {s s':St} {a a':Act} {w w':World} {g g':Gh}
def EI:(sh:Sh)→El sh→Nat→Nat→El sh
 | .sl _,l,lo,hi=>List.drop lo (List.take hi l)
 | .rsl _,l,lo,hi=>List.drop lo (List.take hi l)
 |_,x,_,_=>x
theorem qA {c d:CV} {lo hi:Nat} (h:vM c lo hi=some d):c.sh.oG=true∧c.tg≠ .dead∧d=⟨c.sh,c.tg,EI c.sh c.x lo hi⟩:=by
 obtain⟨sh,ct,x⟩:=c
 cases sh with
 |sl es=>cases ct<;>first|exact(aO h rfl).elim|exact⟨rfl,by simp,(Option.some.inj h).symm⟩
 |rsl ss=>cases ct<;>first|exact(aO h rfl).elim|exact⟨rfl,by simp,(Option.some.inj h).symm⟩
 |int k=>exact(aO h rfl).elim
 |bool=>exact(aO h rfl).elim
 |str=>exact(aO h rfl).elim
 |dl _=>exact(aO h rfl).elim
 |mp _ _=>exact(aO h rfl).elim
theorem WW {α:Type} (l:List α) (lo hi:Nat) (h:hi≤l.length):((l.take hi).drop lo).length=hi-lo:=by simp;omega
theorem zF {sh:Sh} (hs:sh.oG=true) (x:El sh) {lo hi:Nat} (h:hi≤aP sh x):aP sh (EI sh x lo hi)=hi-lo:=by
 cases sh with
 |sl es=>exact WW (α:=ElA es) x lo hi h
 |rsl ss=>exact WW (α:=RT (ElA ss)) x lo hi h
 |_=>simp[Sh.oG]at hs
theorem uq.sub {F:Fz} {sh:Sh} {x:El sh} {cs:List Value} (h:uq w F sh x cs) (lo hi:Nat):uq w F sh (EI sh x lo hi) ((cs.take (hi*sh.n)).drop (lo*sh.n)):=by
 cases sh with
 |sl es=>exact(iW es).drop _ _ lo ((iW es).take _ _ hi h)
 |rsl ss=>exact(jA ss).drop _ _ lo ((jA ss).take _ _ hi h)
 |_=>exact h.elim
theorem iR.sub {F:Fz} {sh:Sh} (hs:sh.oG=true) {x:El sh} {A:Option Addr} {l k:Nat} (h:iR w F sh x (.slice A l k)) {lo hi:Nat} (h1:lo≤hi) (h2:hi≤l):
 iR w F sh (EI sh x lo hi) (y9 A k lo hi sh.n):=by
 rw[vW hs]at h ⊢
 obtain⟨A',k',hv,hl,h⟩:=h
 cases hv
 have hlen:=zF hs x (lo:=lo) h2
 rw[hlen]
 refine⟨_,_,rfl,by omega,?_⟩
 by_cases h0:hi-lo=0
 ·exact .inl h0
 ·rcases h with h|⟨ad,cs,rfl,hsp,hr,he⟩
  ·omega
  ·have hcs:=he.length
   have hb:hi*sh.n≤cs.length:=by rw[hcs];exact Nat.mul_le_mul_right _ h2
   have hlh:lo*sh.n≤hi*sh.n:=Nat.mul_le_mul_right _ h1
   refine .inr ⟨ad.add (lo*sh.n),_,?_,?_,?_,he.sub lo hi⟩
   ·rw[if_neg (by omega)];rfl
   ·unfold Addr.add;split
    ·exact hsp
    ·rfl
   ·intro j hj
    simp only[List.length_drop,List.length_take]at hj
    have hadd:(ad.add (lo*sh.n)).block=ad.block∧(ad.add (lo*sh.n)).off=ad.off+lo*sh.n:=by
     unfold Addr.add;split
     ·rename_i e;rw[e];exact⟨rfl,rfl⟩
     ·exact⟨rfl,rfl⟩
    obtain⟨e1,e2⟩:=hr (lo*sh.n+j) (by omega)
    rw[hadd.1,hadd.2,Nat.add_assoc]
    refine⟨?_,e2⟩
    rw[e1,List.getElem?_drop,List.getElem?_take,if_pos (by omega)]
theorem yA.front {ow:aF} {sh:Sh} (hs:sh.oG=true) {x:El sh} {A:Option Addr} {l k:Nat} (h:yA w g ow false sh x (.slice A l k)) {hi:Nat} (h2:hi≤l):
 yA w g ow false sh (EI sh x 0 hi) (y9 A k 0 hi sh.n):=by
 rcases h with⟨hv,hl⟩|⟨b,c,cur,et,hv,hl,hc,ho,hh,hsz,he,hf⟩
 ·cases hv
  have:hi=0:=by omega
  subst this
  left
  refine⟨by simp[y9],?_⟩
  rw[zF hs x (by omega)]
 ·cases hv
  have hlen:=zF hs x (lo:=0) h2
  right
  refine⟨b,k,cur,et,?_,by rw[hlen];omega,hc,ho,hh,hsz,?_,fun o=> ?_⟩
  ·rw[hlen];simp[y9,Addr.add]
  ·have:=((o9 hs).1 he).sub 0 hi
   rw[o9 hs,hlen,Nat.sub_zero]
   rw[Nat.zero_mul,List.drop_zero,List.take_take,Nat.min_eq_left (Nat.mul_le_mul_right _ h2)]at this
   exact this
  ·simp[hf o]
theorem xG {p:Pl} {c:CV} {i j:Nat} (h:Kz s p=some (c,i,j)):p.sub=some (i,j)∧ ∃(es:List Sh) (l:List (Option (ElA es))),c=⟨.dl es,.own,l⟩∧aU s p 1=some [⟨.dl es,.own,l⟩]:=by
 unfold Kz at h
 split at h
 ·rename_i i' j' hs
  split at h
  ·rename_i es l hc
   cases h;exact⟨hs,es,l,rfl,hc⟩
  ·cases h
 ·cases h
theorem LU {α:Type} {l:List (Option α)} {i:Nat} {e:α} (h:rowAt? l i=some e):l[i]? =some (some e):=by
 unfold rowAt? at h
 cases hl:l[i]? with
 |none=>rw[hl]at h;cases h
 |some o=>rw[hl]at h;simp at h;rw[h]
theorem nK (es:List Sh) (e:ElA es):(lX es e).length=es.length:=by
 have:=congrArg List.length (rV es e)
 simpa [lX]using this
theorem Ad {es:List Sh} {l:List (Option (ElA es))} {i j n:Nat} {cs:List CV} (h:(Fv ⟨.dl es,.own,l⟩ i j n).run=some cs):
 ∃e,l[i]? =some (some e)∧j+n≤es.length∧cs=((lX es e).drop j).take n:=by
 obtain⟨e,h1,h2⟩:=Option.bind_eq_some_iff.1 (show(rowAt? (α:=ElA es) l i).bind _=some cs from h)
 simp only[nK]at h2
 cases hb:Nat.ble (j+n) es.length with
 |false=>rw[hb]at h2;exact(aO h2 rfl).elim
 |true=>rw[hb]at h2;exact⟨e,LU h1,Nat.le_of_ble_eq_true hb,(Option.some.inj h2).symm⟩
theorem qo.top {ow:aF} {B:Option Nat} {sh:Sh} {x:El sh} {v:Value} (h:qo w g ow B sh x v):jl w g ow ⟨sh,sh.top,x⟩ v:=by
 unfold qo at h
 split at h
 ·rename_i hs
  have e:sh.top= .own:=by cases sh<;>first|rfl|simp[Sh.oN]at hs
  rw[e];simp only[jl,if_pos hs]
  exact(nO h.1).2 h.2.1
 ·rename_i hs
  have e:sh.top= .pure:=by cases sh<;>first|rfl|(simp[Sh.oN]at hs;done)|exact h.elim
  rw[e];exact h
theorem vO {es:List Sh} {e:ElA es} {k:Nat} {c:CV} (h:(lX es e)[k]? =some c): ∃c0,(cellsOf es e)[k]? =some c0∧c=⟨c0.sh,c0.sh.top,c0.x⟩:=by
 simp only[lX,List.getElem?_map,Option.map_eq_some_iff]at h
 obtain⟨c0,h1,h2⟩:=h
 exact⟨c0,h1,h2.symm⟩
theorem Rel.I8 (h:Rel E C s a w g) {p:Pl} {es:List Sh} {l:List (Option (ElA es))} (hc:aU s p 1=some [⟨.dl es,.own,l⟩]) {i:Nat} (hi:i<l.length):
 ∃b k cur et,(aB a w g p.root)[p.cell]? =some (.slice (some ⟨b,0,none⟩) l.length k)∧((aB a w g p.root).drop p.cell).take 1= [.slice (some ⟨b,0,none⟩) l.length k]∧l.length≤k∧k≤maxLen∧g.own b=some (dF p.root p.cell)∧w.heap[b]? =some (.cells cur et (0,0))∧
  cur.size=k*es.length∧iF w g (dF p.root p.cell) b es l (cur.toList.take (l.length*es.length))∧(∀o,¬g.F b o)∧ ∀u,u∈cur.toList.take (l.length*es.length)→u.oneCell'=true:=by
 obtain⟨hr,_⟩:=h.pl hc
 obtain⟨v,ws,e,h1,hw⟩:=hr
 simp only[aC]at hw;subst hw
 have e1:(aB a w g p.root)[p.cell]? =some v:=by
  have:=congrArg (fun l=>l[0]?) e
  simp only[List.getElem?_take,List.getElem?_drop,Nat.add_zero]at this
  simpa using this
 simp only[jl,Sh.oN,if_true]at h1
 rcases h1 with⟨_,hl⟩|⟨b,k,cur,et,hv,hlk,hk,ho,hh,hsz,he,hf⟩
 ·have hl:l.length=0:=hl
  omega
 ·subst hv
  exact⟨b,k,cur,et,e1,e,hlk,hk,ho,hh,hsz,he.2,(fun o hF=>by have:=((hf o).1 hF).1;cases this),he.1.2⟩
theorem iF.row {ow:aF} {es:List Sh} {l:List (Option (ElA es))} {cs:List Value} {B:Nat→Option Nat}
 (h4: ∀i x,l[i]? =some (some x)→Wy w g ow (fun j=>B (i*es.length+j)) es x ((cs.drop (i*es.length)).take es.length))
 {i:Nat} {e:ElA es} (he:l[i]? =some (some e)) {k:Nat} {c:CV} (hk:(cellsOf es e)[k]? =some c): ∃v,cs[i*es.length+k]? =some v∧qo w g ow (B (i*es.length+k)) c.sh c.x v∧k<es.length:=by
 obtain⟨r1,r2⟩:=h4 i e he
 have hkl:k<es.length:=by
  have:=congrArg List.length (rV es e)
  simp only[List.length_map]at this
  rw[←this]
  rcases Nat.lt_or_ge k (cellsOf es e).length with h|h
  ·exact h
  ·simp[List.getElem?_eq_none h]at hk
 have hv:((cs.drop (i*es.length)).take es.length)[k]? =some (((cs.drop (i*es.length)).take es.length)[k]'(by rw[r1];exact hkl)):=List.getElem?_eq_getElem _
 refine⟨_,?_,r2 k c _ hk hv,hkl⟩
 rw[←hv,List.getElem?_take,if_pos hkl,List.getElem?_drop]
theorem Rel.Xd (h:Rel E C s a w g) {p:Pl} {es:List Sh} {l:List (Option (ElA es))} (hc:aU s p 1=some [⟨.dl es,.own,l⟩]) {i j m:Nat} {e:ElA es} (he:l[i]? =some (some e)) (hjm:j+m≤es.length):
 ∃b k cur et,(aB a w g p.root)[p.cell]? =some (.slice (some ⟨b,0,none⟩) l.length k)∧i<l.length∧w.heap[b]? =some (.cells cur et (0,0))∧
  aC w g (fun _=>dF p.root p.cell) 0 (((lX es e).drop j).take m) ((cur.toList.drop (i*es.length+j)).take m)∧((cur.toList.drop (i*es.length+j)).take m).length=m:=by
 have hi:i<l.length:=by
  rcases Nat.lt_or_ge i l.length with h|h
  ·exact h
  ·simp[List.getElem?_eq_none h]at he
 obtain⟨b,k,cur,et,e1,e2,hlk,hk,ho,hheap,hsz,⟨hcl,B,hB1,hB2,hB3⟩,hF,hone⟩:=h.I8 hc hi
 have hN:i*es.length+es.length≤l.length*es.length:=by rw[←Nat.succ_mul];exact Nat.mul_le_mul_right _ hi
 have hN2:l.length*es.length≤cur.size:=by rw[hsz];exact Nat.mul_le_mul_right _ hlk
 have hlen:((cur.toList.drop (i*es.length+j)).take m).length=m:=by simp;omega
 refine⟨b,k,cur,et,e1,hi,hheap,aC.of _ _ _ ?_ fun q c0 u hc0 hu0=> ?_,hlen⟩
 ·rw[hlen];simp only[List.length_take,List.length_drop,nK];omega
 ·simp only[List.getElem?_take,List.getElem?_drop]at hc0 hu0
  split at hc0
  ·rename_i hq
   rw[if_pos hq]at hu0
   obtain⟨c1,hc1,rfl⟩:=vO hc0
   obtain⟨u',hu',hcd,hqN⟩:=iF.row hB3 he hc1
   rw[List.getElem?_take,if_pos (by omega)]at hu'
   rw[show i*es.length+j+q=i*es.length+(j+q) by omega,hu']at hu0;cases hu0
   exact qo.top hcd
  ·cases hc0
theorem VI (es:List Sh) (e:ElA es) (j m:Nat):Cc (((lX es e).drop j).take m)=true:=by
 unfold Cc
 rw[List.all_eq_true]
 intro c hc
 have:=List.mem_of_mem_drop (List.mem_of_mem_take hc)
 obtain⟨c0,_,rfl⟩:=List.mem_map.1 this
 show(match c0.sh.top with| .dead=>false|_=>true)=true
 cases c0.sh<;>rfl
open Classical in
theorem Oa (h:Rel E C s a w g) {hs:List CV} {hv:List Value} (hh:aC w g .hand 0 hs hv) {p:Pl} {ag:Bool} {n:Nat} {v:Value} {mk:Nat→aF} (hvv:TV0 s a w g mk (.rowr p ag n) v)
 {c:CV} {i j:Nat} (hd:Kz s p=some (c,i,j)) {cs:List CV} (hp:(Fv c i j n).run=some cs) {c':CV} (hm:moveRow c i=some c') {us:List Upd} (hu:iY s p [c'] false=some us):
 ∃g',Rel E C (s.dI us) a w g'∧isAgg v=ag∧aC w g' .hand 0 (hs++cs) (hv++v.cells.toList)∧g'.at_=g.at_∧Keeps w w g.F g'.F∧(∀b n,g.own b=some (.box n)→g'.own b=some (.box n)):=by
 obtain⟨hsub,es,l,rfl,hc⟩:=xG hd
 obtain⟨e,he,hjn,rfl⟩:=Ad hp
 have hi:i<l.length:=by
  rcases Nat.lt_or_ge i l.length with h|h
  ·exact h
  ·simp[List.getElem?_eq_none h]at he
 obtain⟨b,k,cur,et,e1,e2,hlk,hk,ho,hheap,hsz,⟨hcl,B,hB1,hB2,hB3⟩,hF,hone⟩:=h.I8 hc hi
 obtain⟨_,_,i',j',hsub',hrow⟩:=hvv
 rw[hsub]at hsub';cases hsub'
 obtain⟨b2,len2,k2,cur2,et2,f2,m1,_,m3,hag,hvc⟩:=hrow es l hc
 rw[e1]at m1;cases m1
 rw[hheap]at m3;cases m3
 let N:=es.length
 let mine:Nat→Nat→Prop:=fun x q=>j≤q∧q<j+n∧ ∃c0 u,(cellsOf es e)[q]? =some c0∧c0.sh.oN=true∧(cur.toList.take (l.length*N))[i*N+q]? =some u∧blk u=some x
 have hmB: ∀x q,mine x q→B (i*N+q)=some x∧g.own x=some (dF p.root p.cell)∧q<N:=by
  rintro x q ⟨_,_,c0,u,h1,h2,h3,h4⟩
  obtain⟨u',h5,h6,h7⟩:=iF.row hB3 he h1
  rw[h3]at h5;cases h5
  unfold qo at h6
  rw[if_pos h2]at h6
  exact⟨by rw[←h6.2.2,h4],h6.2.1.l9 h4,h7⟩
 have hmU: ∀x q q',mine x q→mine x q'→q=q':=by
  intro x q q' h1 h2
  have:=hB2 _ _ x (hmB x q h1).1 (hmB x q' h2).1
  omega
 let own':Nat→Option aF:=fun x=>if hx: ∃q,mine x q then some (.hand (hs.length+(hx.choose-j)))else g.own x
 let g':Gh:={g with own:=own'}
 have own_other: ∀x,(¬ ∃q,mine x q)→g'.own x=g.own x:=fun x hx=>by simp only[g',own',dif_neg hx]
 have own_mine: ∀x q,mine x q→g'.own x=some (.hand (hs.length+(q-j))):=fun x q hx=>by
  have hex: ∃q,mine x q:=⟨q,hx⟩
  simp only[g',own',dif_pos hex]
  rw[hmU x _ q hex.choose_spec hx]
 have f:Fr (fun o=>o≠dF p.root p.cell) w w g g':=⟨Keeps.refl _ _,fun x ow hk ho=>by
  refine⟨?_,rfl,fun o h=>h⟩
  rw[own_other];exact ho
  rintro⟨q,hx⟩
  rw[(hmB x q hx).2.1]at ho;cases ho;exact hk rfl⟩
 have hb':Base C.w0 C.F0 C.X w g':=⟨h.base.os,h.base.tape,h.base.output,h.base.size,h.base.blk,fun x ow hx=>by
  by_cases hm: ∃q,mine x q
  ·obtain⟨q,hq⟩:=hm
   exact h.base.own x _ (hmB x q hq).2.1
  ·rw[own_other x hm]at hx;exact h.base.own x ow hx,h.base.keeps,h.base.fz,fun x ow cs t f hx hc=>by
  by_cases hm: ∃q,mine x q
  ·obtain⟨q,hq⟩:=hm
   exact h.base.frz x _ cs t f (hmB x q hq).2.1 hc
  ·rw[own_other x hm]at hx;exact h.base.frz x ow cs t f hx hc⟩
 have hbm: ¬ ∃q,mine b q:=by
  rintro⟨q,hx⟩
  exact hB1 _ (hmB b q hx).1
 simp only[moveRow,Option.some.injEq]at hm
 subst hm
 refine⟨g',?_,hag,?_,rfl,f.keeps,fun x m ho=>(f.own x _ (by cases p.root<;>simp[dF]) ho).1⟩
 ·refine jD h (ds:=[⟨.dl es,.own,List.set l i none⟩]) hc hu rfl (f.mono fun o ho=>ho.1 p.cell (Nat.le_refl _) (by simp)) hb' rfl ?_ ?_
  ·show aC w g' _ _ _ (((aB a w g p.root).drop p.cell).take 1)
   rw[e2]
   refine⟨_,[],rfl,?_,rfl⟩
   simp only[jl,Sh.oN,if_true]
   have hll:(List.set l i none).length=l.length:=List.length_set
   refine .inr ⟨b,k,cur,et,by simp only[aP];rw[hll],by simp only[aP];rw[hll];exact hlk,hk,by rw[own_other b hbm];exact ho,hheap,hsz,⟨⟨rfl,by simp only[aP,Sh.n];rw[hll];exact hone⟩,?_⟩,fun o=>⟨fun hf=>(hF o hf).elim,fun hf=>by cases hf.1⟩⟩
   simp only[aP,Sh.n];rw[hll]
   refine⟨by rw[hll];exact hcl,B,hB1,hB2,fun i' x hx=> ?_⟩
   have hne:i'≠i:=by
    rintro rfl
    rw[List.getElem?_set_self hi]at hx;cases hx
   rw[List.getElem?_set_ne (Ne.symm hne)]at hx
   refine Wy.imp (g:=g) (g':=g') (Keeps.refl w g.F) (fun q sh u hq hqB y hy=> ?_) (hB3 i' x hx)
   refine uy.owner (g:=g) (g':=g') rfl (fun x' hx'=> ?_) hy
   rw[own_other];exact hy.l9 hx'
   rintro⟨q',hm⟩
   have h1:=(hmB x' q' hm).1
   have h2:=(hmB x' q' hm).2.2
   have h3:=hB2 _ _ x' h1 (hqB.trans hx')
   have h4:i=i':=by
    have hN:0<N:=by omega
    have a1:(i*N+q')/N=i:=by rw[Nat.mul_comm,Nat.mul_add_div hN,Nat.div_eq_of_lt h2,Nat.add_zero]
    have a2:(i'*N+q)/N=i':=by rw[Nat.mul_comm,Nat.mul_add_div hN,Nat.div_eq_of_lt hq,Nat.add_zero]
    rw[←a1,←a2];exact congrArg (· /N) h3
   exact hne h4.symm
  ·intro q es' l' hq
   have hq0:q=0:=by
    rcases Nat.eq_zero_or_pos q with h|h
    ·exact h
    ·rw[List.getElem?_eq_none (by simp;omega)]at hq;cases hq
   subst hq0
   simp only[List.getElem?_cons_zero,Option.some.injEq]at hq
   obtain⟨rfl,_,_⟩:=hq
   exact⟨l,rfl,fun _ _ _ _=>rfl⟩
 ·refine aC.append hs 0 hv _ _ (hh.fr (f.mono (K':=fun o=> ∃q,o= .hand q) fun o ⟨q,e⟩=>by rw[e];exact(iK _ _ _).symm) _ _ _ (fun q=>⟨q,rfl⟩)) ?_
  rw[Nat.zero_add,hvc]
  refine aC.of _ _ _ ?_ fun q c0 u hc0 hu0=> ?_
  ·simp only[List.length_take,List.length_drop,nK,Array.length_toList,hsz]
   have:i*es.length+es.length≤k*es.length:=by rw[←Nat.succ_mul];exact Nat.mul_le_mul_right _ (by omega)
   omega
  ·simp only[List.getElem?_take,List.getElem?_drop]at hc0 hu0
   split at hc0
   ·rename_i hq
    rw[if_pos hq]at hu0
    obtain⟨c1,hc1,rfl⟩:=vO hc0
    obtain⟨u',hu',hcd,hqN⟩:=iF.row hB3 he hc1
    have hlt:i*es.length+(j+q)<l.length*es.length:=by
     have:i*es.length+es.length≤l.length*es.length:=by rw[←Nat.succ_mul];exact Nat.mul_le_mul_right _ hi
     omega
    have hu2:=hu'
    rw[List.getElem?_take,if_pos hlt]at hu2
    rw[show i*es.length+j+q=i*es.length+(j+q) by omega,hu2]at hu0;cases hu0
    refine qo.top (B:=B (i*es.length+(j+q))) ?_
    unfold qo at hcd ⊢
    split
    ·rename_i hsl
     rw[if_pos hsl]at hcd
     refine⟨hcd.1,uy.owner (g:=g) (g':=g') rfl (fun x hx=> ?_) hcd.2.1,hcd.2.2⟩
     rw[own_mine x (j+q) ⟨by omega,by omega,c1,u,hc1,hsl,hu',hx⟩]
     congr 2;omega
    ·rename_i hsl
     rw[if_neg hsl]at hcd;exact hcd
   ·cases hc0
theorem fO {p:Pl} (hp:p.sub=none) {n:Nat} {cs:List CV} (h:(content s p n).run=some cs):aU s p n=some cs:=by
 unfold content at h;rw[hp]at h;exact D6 h
theorem qy {hs:List CV} {hv:List Value} {c:CV} {v:Value}:aC w g .hand 0 (hs++[c]) (hv++[v]) ↔ hv.length=hs.length∧aC w g .hand 0 hs hv∧jl w g (.hand hs.length) c v:=by
 constructor
 ·intro h
  have hl:hv.length=hs.length:=by have:=h.length;simp at this;omega
  have h1:=h.sub 0 hs.length
  simp only[List.drop_zero,Nat.add_zero]at h1
  have h1':aC w g .hand 0 hs hv:=by
   have e1:(hs++[c]).take hs.length=hs:=by simp
   have e2:(hv++[v]).take hs.length=hv:=by rw[←hl];simp
   rwa [e1,e2]at h1
  obtain⟨u,hu,hr⟩:=h.get _ 0 _ hs.length c (by simp)
  rw[←hl]at hu;simp at hu
  exact⟨hl,h1',by rw[hu];simpa using hr⟩
 ·rintro⟨hl,h1,h2⟩
  exact aC.append hs 0 hv [c] [v] h1 ⟨v,[],rfl,by simpa using h2,rfl⟩
theorem aH {v:Value} (h:isAgg v=false):v.cells= #[v]:=by cases v<;>simp[isAgg]at h<;>rfl
theorem EK {ow:aF} {sh:Sh} (hsl:sh.oN=true):jl w g ow (GU sh) (.slice none 0 0):=by
 cases sh with
 |sl es=>exact .inl ⟨rfl,rfl⟩
 |rsl ss=>exact .inl ⟨rfl,rfl⟩
 |dl es=>exact .inl ⟨rfl,rfl⟩
 |_=>simp[Sh.oN]at hsl
theorem Dp (h:Rel E C s a w g) {hs:List CV} {hv:List Value} (hh:aC w g .hand 0 hs hv) {x:Operand} {exp:List Sh} {ag:Bool} {cs:List CV} {us:List Upd}
 (ht:(zA E s x exp).run=some (ag,cs,us)):
 ∃g',Rel E C (s.dI us) a w g'∧isAgg (a.eval x)=ag∧aC w g' .hand 0 (hs++cs) (hv++(a.eval x).cells.toList)∧g'.at_=g.at_∧Keeps w w g.F g'.F:=by
 have hat:=h.at_ x
 unfold zA at ht
 cases hx:at_ E s x with
 |val ag' cs'=>
  rw[hx]at ht hat
  rcases hat with⟨e,_⟩|hat
  ·cases e
  ·simp only[]at ht
   cases hp:bg cs' with
   |true=>
    rw[hp]at ht
    simp only[cond_true,Dyn.run,Option.some.injEq,Prod.mk.injEq]at ht
    obtain⟨rfl,rfl,rfl⟩:=ht
    exact⟨g,h,hat.1,aC.append hs 0 hv _ _ hh (aC.sZ (Keeps.refl _ _) _ 0 _ _ hp hat.2),rfl,Keeps.refl _ _⟩
   |false=>
    rw[hp]at ht
    simp only[cond_false]at ht
    cases x with
    |tmp n=>
     simp only[Dyn.run,Option.some.injEq,Prod.mk.injEq]at ht
     obtain⟨rfl,rfl,rfl⟩:=ht
     have hx':(s.tm n).1= .val ag' cs':=hx
     have hpl:aU s ⟨.tmp n,(s.tm n).2,[],0,none⟩ cs'.length=some cs':=by
      rw[bG]
      refine⟨cs'.map fun c=>(c,(s.tm n).2),?_,by simp,by simp,by rw[←ou,lU];simp⟩
      have e:s.tm n=(.val ag' cs',(s.tm n).2):=by rw[←hx']
      simp only[aA];rw[e]
     have hput:iY s ⟨.tmp n,(s.tm n).2,[],0,none⟩ (cs'.map CV.left) false=some [.keep n (.val ag' (cs'.map CV.left))]:=by
      have e:s.tm n=(.val ag' cs',(s.tm n).2):=by rw[←hx']
      simp only[iY];rw[e]
      simp only[cond_false,Nat.beq_refl,cond_true,vV _ _ (List.length_map _)]
     obtain⟨g',r,k,e,kp⟩:=QL h hh hpl hput
     have hlen:=hat.2.length
     have:((aB a w g (.tmp n)).drop 0).take cs'.length=(a.eval (.tmp n)).cells.toList:=by
      simp only[aB,List.drop_zero];exact List.take_of_length_le (by omega)
     rw[this]at k
     exact⟨g',r,hat.1,k,e,kp⟩
    |const v=>exact(aO ht rfl).elim
    |global gl=>exact(aO ht rfl).elim
    |func f=>exact(aO ht rfl).elim
 |ref p ag' n=>
  rw[hx]at ht hat
  rcases hat with⟨e,_⟩|hat
  ·cases e
  ·obtain⟨_,_,hsub,hat⟩:=hat
   obtain⟨cs',hc,ht⟩:=aS ht
   have hc:=fO hsub hc
   cases hk:Ae s p cs' with
   |none=>rw[hk]at ht;exact(aO ht rfl).elim
   |some us'=>
    rw[hk]at ht
    simp only[Dyn.run,Option.some.injEq,Prod.mk.injEq]at ht
    obtain⟨rfl,rfl,rfl⟩:=ht
    obtain⟨g',r,k,e,kp⟩:=UH h hh hsub hc hk
    obtain⟨h1,h2⟩:=hat _ hc
    rw[←h2]at k
    exact⟨g',r,h1,k,e,kp⟩
 |rsub p z lo hi=>
  rw[hx]at ht hat
  rcases hat with⟨e,_⟩|hat
  ·cases e
  ·obtain⟨_,_,hsub,hz,hat⟩:=hat
   obtain⟨cs',hc,ht⟩:=aS ht
   have hc:=fO hsub hc
   match cs',hc,ht with
   | [],_,ht=>exact(aO ht rfl).elim
   |_::_::_,_,ht=>exact(aO ht rfl).elim
   | [c],hc,ht=>
     simp only[]at ht
     cases hd:vM c lo hi with
     |none=>rw[hd]at ht;exact(aO ht rfl).elim
     |some d=>
      cases hk:Ae s p [c]with
      |none=>rw[hd,hk]at ht;exact(aO ht rfl).elim
      |some us'=>
       rw[hd,hk]at ht
       simp only[Dyn.run,Option.some.injEq,Prod.mk.injEq]at ht
       obtain⟨rfl,rfl,rfl⟩:=ht
       obtain⟨hpl,hnd,rfl⟩:=qA hd
       have hsl:=eH hpl
       obtain⟨A,l,k,e1,h1,h2,h3,h4⟩:=hat c hc
       obtain⟨g',r,hcs,e,kp⟩:=UH h hh hsub hc hk
       have ev:((aB a w g p.root).drop p.cell).take 1= [.slice A l k]:=by
        have hlt:p.cell<(aB a w g p.root).length:=by
         rcases Nat.lt_or_ge p.cell (aB a w g p.root).length with h|h
         ·exact h
         ·simp[List.getElem?_eq_none h]at e1
        rw[List.drop_eq_getElem_cons hlt]
        rw[List.getElem?_eq_getElem hlt]at e1
        rw[List.take_succ_cons,List.take_zero,Option.some.inj e1]
       rw[ev]at hcs
       have hag:isAgg (a.eval x)=false:=by rw[h4];rfl
       rw[aH hag]
       obtain⟨l1,l2,l3⟩:=qy.1 hcs
       obtain⟨csh,ct,cx⟩:=c
       by_cases hzo:z=true∧ct= .own
       ·obtain⟨rfl,rfl⟩:=hzo
        have hlo:=hz rfl;subst hlo
        simp only[jl,if_pos hsl]at l3
        refine⟨g',r,hag,qy.2 ⟨l1,l2,?_⟩,e,kp⟩
        simp only[Tg.Dv,Bool.true_and,cond_true,jl,if_pos hsl]
        rw[h4]
        exact l3.front hpl h2
       ·have hcond:(bif z&&ct.Dv then(⟨csh,ct,EI csh cx lo hi⟩:CV)else(⟨csh,ct,EI csh cx lo hi⟩:CV).to .pure)=⟨csh,.pure,EI csh cx lo hi⟩:=by
         cases z with
         |false=>rfl
         |true=>cases ct<;>first|rfl|exact absurd ⟨rfl,rfl⟩ hzo
        have hle:Tg.le .pure ct=true:=by cases ct<;>first|rfl|exact absurd rfl hnd
        obtain⟨g2,f2,b2,o2,a2,c2,_⟩:=l3.weak r.base hle (by cases csh<;>first|rfl|simp[Sh.oG]at hpl)
        have r2:Rel E C (s.dI us') a w g2:=r.world (f2.mono fun o ho=>ho _) b2 a2
        refine⟨g2,r2,hag,?_,a2.trans e,kp.trans f2.keeps⟩
        show aC w g2 .hand 0 (hs++[bif z&&ct.Dv then(⟨csh,ct,EI csh cx lo hi⟩:CV)else(⟨csh,ct,EI csh cx lo hi⟩:CV).to .pure]) (hv++[a.eval x])
        rw[hcond,qy]
        refine⟨l1,?_,?_⟩
        ·refine aC.of hs 0 hv l1 fun j c v hc hv=> ?_
         obtain⟨u,hu,hr⟩:=l2.get hs 0 _ j c hc
         rw[hu]at hv;cases hv
         refine hr.fr f2 ?_
         have:j<hs.length:=by
          rcases Nat.lt_or_ge j hs.length with h|h
          ·exact h
          ·simp[List.getElem?_eq_none h]at hc
         simp;omega
        ·rw[h4]
         exact iR.sub hpl c2 h1 h2
 |nilc=>
  rw[hx]at ht hat
  rcases hat with⟨_,hval⟩|hat
  ·match exp,ht with
   | [],ht=>exact(aO ht rfl).elim
   |_::_::_,ht=>exact(aO ht rfl).elim
   | [sh],ht=>
     simp only[]at ht
     cases hsl:sh.oN with
     |false=>rw[hsl]at ht;exact(aO ht rfl).elim
     |true=>
      rw[hsl]at ht
      simp only[cond_true,Dyn.run,Option.some.injEq,Prod.mk.injEq]at ht
      obtain⟨rfl,rfl,rfl⟩:=ht
      rw[hval]
      refine⟨g,h,rfl,qy.2 ⟨hh.length,hh,?_⟩,rfl,Keeps.refl _ _⟩
      exact EK hsl
  ·exact hat.elim
 |dead=>rw[hx]at ht;exact(aO ht rfl).elim
 |undef=>rw[hx]at ht;exact(aO ht rfl).elim
 |addr p=>rw[hx]at ht;exact(aO ht rfl).elim
 |rowr p ag' n=>
  rw[hx]at ht hat
  rcases hat with⟨e,_⟩|hat
  ·cases e
  ·simp only[]at ht
   cases hd:Kz s p with
   |none=>rw[hd]at ht;exact(aO ht rfl).elim
   |some cij=>
    obtain⟨c,i,j⟩:=cij
    rw[hd]at ht
    obtain⟨cs',hp,ht⟩:=aS ht
    cases hm:moveRow c i with
    |none=>rw[hm]at ht;exact(aO ht rfl).elim
    |some c'=>
     rw[hm]at ht
     simp only[]at ht
     cases hu:iY s p [c'] false with
     |none=>rw[hu]at ht;exact(aO ht rfl).elim
     |some us'=>
      rw[hu]at ht
      simp only[Dyn.run,Option.some.injEq,Prod.mk.injEq]at ht
      obtain⟨rfl,rfl,rfl⟩:=ht
      obtain⟨g',q1,q2,q3,q4,q5,_⟩:=Oa (mk:=UC x) h hh hat hd hp hm hu
      exact⟨g',q1,q2,q3,q4,q5⟩
 |addr2 p k q=>rw[hx]at ht;exact(aO ht rfl).elim
 |paddr cs' off=>rw[hx]at ht;exact(aO ht rfl).elim
 |tup ts=>rw[hx]at ht;exact(aO ht rfl).elim
 |fn f=>rw[hx]at ht;exact(aO ht rfl).elim
 |clo f ts=>rw[hx]at ht;exact(aO ht rfl).elim
 |ext p q c=>rw[hx]at ht;exact(aO ht rfl).elim
end
end Go.AM
end
section
set_option linter.unusedVariables false
namespace Go.AM
open Go
def zeroV:Sh→Value
 | .int k=> .int k 0
 | .bool=> .bool false
 | .str=> .string ByteArray.empty
 | .mp _ _=> .map none
 |_=> .slice none 0 0
def NT:Sh→Value→Bool
 | .int k,.int k' n=>decide (k=k')&&decide (n=0)
 | .bool,.bool b=> !b
 | .str,.string b=>match b.data.toList with| []=>true|_=>false
 | .sl _,.slice none 0 0=>true
 | .rsl _,.slice none 0 0=>true
 | .mp _ _,.map none=>true
 |_,_=>false
theorem ZX {sh:Sh} {v:Value} (h:NT sh v=true):v=zeroV sh:=by
 unfold NT at h
 split at h
 ·simp only[Bool.and_eq_true,decide_eq_true_eq]at h;simp[zeroV,h.1,h.2]
 ·rename_i b;cases b<;>simp_all [zeroV]
 ·rename_i b
  split at h
  ·rename_i e
   obtain⟨⟨l⟩⟩:=b
   simp at e;subst e;rfl
  ·cases h
 ·rfl
 ·rfl
 ·rfl
 ·cases h
def wH:List Sh→List Value→Bool
 | [],[]=>true
 |s::ss,v::vs=>NT s v&&wH ss vs
 |_,_=>false
theorem Vf: ∀{ss:List Sh} {vs:List Value},wH ss vs=true→vs=ss.map zeroV
 | [],[],_=>rfl
 | [],_::_,h=>by simp[wH]at h
 |_::_,[],h=>by simp[wH]at h
 |s::ss,v::vs,h=>by
  simp only[wH,Bool.and_eq_true]at h
  rw[ZX h.1,Vf h.2];rfl
theorem Ph: ∀{ss:List Sh} {vs:List Value},wH ss vs=true→(ss.all fun s=> !s.Zp)=true
 | [],[],_=>rfl
 | [],_::_,h=>by simp[wH]at h
 |_::_,[],h=>by simp[wH]at h
 |s::ss,v::vs,h=>by
  simp only[wH,Bool.and_eq_true]at h
  simp only[List.all_cons,Ph h.2,Bool.and_true]
  cases s<;>first|rfl|(have:=h.1;simp[NT]at this)
def uN:Sh→List Sh
 | .sl es=>es
 | .rsl ss=>ss++[.rsl ss]
 | .dl es=>es
 |_=>[]
theorem jL (sh:Sh):(uN sh).length=sh.n:=by cases sh<;>simp[uN,Sh.n]
def places (P:Program) (fs:List Field):Option (List (Nat×Nat)):=fs.mapM fun f=>(P.info? f.type).map fun i=>(f.offset,i.size)
def oK (P:Program) (ty:TypeId→Option TyI) (i:TyI):TypeDesc→Bool
 | .slice e=> !i.ag&&decide (i.elem=some e)&&(match i.cells with
   | [sh]=>sh.oG&&(match ty e with|some j=>Sh.Hq j.cells (uN sh)&&((j.cells.all fun s=> !s.Hr)&&Nat.ble j.cells.length 8)|none=>false)
   |_=>false)
 | .struct fs=>i.ag&&decide (i.elem=none)&&(match places P fs.toList with
   |some l=>decide (l=i.fields)&&decide (fs.toList.map (·.type)=i.ftys)&&l.all fun x=> !decide (x.2=0)&&decide (x.1+x.2≤i.cells.length)
   |none=>false)
 | .int k=> !i.ag&&decide (i.elem=none)&&Sh.Hq i.cells [.int k]
 | .bool=> !i.ag&&decide (i.elem=none)&&Sh.Hq i.cells [.bool]
 | .string=> !i.ag&&decide (i.elem=none)&&Sh.Hq i.cells [.str]
 | .map kt et=> !i.ag&&decide (i.elem=none)&&decide (i.ftys= [kt,et])&&(match i.cells,ty kt,ty et with
   | [.mp k e],some j,some l=>k.scalar&&e.scalar&& !j.ag&& !l.ag&&Sh.Hq j.cells [k]&&Sh.Hq l.cells [e]
   |_,_,_=>false)
 |_=>false
def aax (P:Program) (ty:TypeId→Option TyI) (t:TypeId) (i:TyI):Bool:=
 match P.info? t,P.underlying t with
 |some info,some d=>match info.zero with
  |some z=>(isAgg z==i.ag)&&wH i.cells z.cells.toList&&decide (info.size=i.cells.length)&&(decide (info.bytes≤128)||Nat.blt 8 i.cells.length)&&oK P ty i d
  |none=>false
 |_,_=>false
def vI (P:Program) (ty:TypeId→Option TyI):Prop:= ∀t i,ty t=some i→aax P ty t i=true
theorem iZ: ∀{a b:List Sh},Sh.Hq a b=true→a=b
 | [],[],_=>rfl
 | [],_::_,h=>by simp[Sh.Hq]at h
 |_::_,[],h=>by simp[Sh.Hq]at h
 |s::ss,t::ts,h=>by
  simp only[Sh.Hq,Bool.and_eq_true]at h
  rw[Sh.eq_of_beq h.1,iZ h.2]
structure Gz (P:Program) (ty:TypeId→Option TyI) (t:TypeId) (i:TyI) (info:TypeInfo) (d:TypeDesc) (z:Value):Prop where
 inf:P.info? t=some info
 und:P.underlying t=some d
 zero:info.zero=some z
 agg:isAgg z=i.ag
 cells:z.cells.toList=i.cells.map zeroV
 size:info.size=i.cells.length
 bytes:i.cells.length≤8→info.bytes≤128
 desc:oK P ty i d=true
 noDl:(i.cells.all fun s=> !s.Zp)=true
theorem vI.at_ {P:Program} {ty:TypeId→Option TyI} (h:vI P ty) {t:TypeId} {i:TyI} (hi:ty t=some i): ∃info d z,Gz P ty t i info d z:=by
 have:=h t i hi
 unfold aax at this
 split at this
 ·rename_i info d h1 h2
  split at this
  ·rename_i z hz
   simp only[Bool.and_eq_true,beq_iff_eq,decide_eq_true_eq]at this
   obtain⟨⟨⟨⟨k1,k2⟩,k3⟩,k4⟩,k5⟩:=this
   have k4:i.cells.length≤8→info.bytes≤128:=fun hl=>by
    simp only[Bool.or_eq_true,decide_eq_true_eq]at k4
    rcases k4 with k4|k4
    ·exact k4
    ·have:=(Nat.blt_eq ..).mp k4;omega
   exact⟨info,d,z,h1,h2,hz,k1,Vf k2,k3,k4,k5,Ph k2⟩
  ·cases this
 ·cases this
section
variable {P:Program} {ty:TypeId→Option TyI} {t:TypeId} {i:TyI} {info:TypeInfo} {d:TypeDesc} {z:Value}
theorem Gz.isRow (h:Gz P ty t i info d z):d.isRow=i.ag:=by
 have:=h.desc
 unfold oK at this
 split at this<;>simp_all [TypeDesc.isRow]
theorem Gz.one (h:Gz P ty t i info d z) (ha:i.ag=false): ∃sh,i.cells= [sh]:=by
 have:=h.desc
 unfold oK at this
 split at this
 ·simp only[Bool.and_eq_true]at this
  obtain⟨_,h2⟩:=this
  split at h2
  ·exact⟨_,by assumption⟩
  ·cases h2
 ·simp[ha]at this
 ·simp only[Bool.and_eq_true]at this;exact⟨_,iZ this.2⟩
 ·simp only[Bool.and_eq_true]at this;exact⟨_,iZ this.2⟩
 ·simp only[Bool.and_eq_true]at this;exact⟨_,iZ this.2⟩
 ·simp only[Bool.and_eq_true]at this
  obtain⟨_,h2⟩:=this
  split at h2
  ·rename_i hcm _ _;exact⟨_,hcm⟩
  ·cases h2
 ·cases this
theorem Gz.slice (h:Gz P ty t i info d z) {sh:Sh} (hc:i.cells= [sh]) (hs:sh.oN=true) (ha:i.ag=false): ∃e j,d= .slice e∧i.elem=some e∧ty e=some j∧j.cells=uN sh:=by
 have:=h.desc
 unfold oK at this
 split at this
 ·rename_i e
  simp only[Bool.and_eq_true,decide_eq_true_eq]at this
  obtain⟨⟨_,h1⟩,h2⟩:=this
  rw[hc]at h2
  simp only[Bool.and_eq_true]at h2
  obtain⟨_,h3⟩:=h2
  split at h3
  ·rename_i j hj;exact⟨e,j,rfl,h1,hj,iZ (by simp only[Bool.and_eq_true]at h3;exact h3.1)⟩
  ·cases h3
 ·simp[ha]at this
 ·simp only[Bool.and_eq_true]at this;have:=iZ this.2;rw[hc]at this;cases this;cases hs
 ·simp only[Bool.and_eq_true]at this;have:=iZ this.2;rw[hc]at this;cases this;cases hs
 ·simp only[Bool.and_eq_true]at this;have:=iZ this.2;rw[hc]at this;cases this;cases hs
 ·simp only[Bool.and_eq_true]at this
  obtain⟨_,h2⟩:=this
  split at h2
  ·rename_i hcm _ _;rw[hc]at hcm;cases hcm;cases hs
  ·cases h2
 ·cases this
theorem Gz.elem (h:Gz P ty t i info d z) {e:TypeId} (he:i.elem=some e): ∃sh j,d= .slice e∧i.ag=false∧i.cells= [sh]∧sh.oG=true∧ty e=some j∧j.cells=uN sh:=by
 have:=h.desc
 unfold oK at this
 split at this
 ·rename_i e'
  simp only[Bool.and_eq_true,decide_eq_true_eq]at this
  obtain⟨⟨h0,h1⟩,h2⟩:=this
  rw[he]at h1;cases h1
  split at h2
  ·rename_i sh hc
   simp only[Bool.and_eq_true]at h2
   obtain⟨h3,h4⟩:=h2
   split at h4
   ·rename_i j hj;exact⟨sh,j,rfl,by simpa using h0,hc,h3,hj,iZ (by simp only[Bool.and_eq_true]at h4;exact h4.1)⟩
   ·cases h4
  ·cases h2
 all_goals first|cases this|simp_all
theorem Gz.afi (h:Gz P ty t i info d z) {e:TypeId} {j:TyI} (he:i.elem=some e) (hj:ty e=some j):(j.cells.all fun s=> !s.Hr)=true:=by
 have:=h.desc
 unfold oK at this
 split at this
 ·rename_i e'
  simp only[Bool.and_eq_true,decide_eq_true_eq]at this
  obtain⟨⟨h0,h1⟩,h2⟩:=this
  rw[he]at h1;cases h1
  split at h2
  ·rw[hj]at h2;simp only[Bool.and_eq_true]at h2;exact h2.2.2.1
  ·cases h2
 all_goals simp_all
theorem Gz.short (h:Gz P ty t i info d z) {e:TypeId} {j:TyI} (he:i.elem=some e) (hj:ty e=some j):j.cells.length≤8:=by
 have:=h.desc
 unfold oK at this
 split at this
 ·rename_i e'
  simp only[Bool.and_eq_true,decide_eq_true_eq]at this
  obtain⟨⟨h0,h1⟩,h2⟩:=this
  rw[he]at h1;cases h1
  split at h2
  ·rw[hj]at h2;simp only[Bool.and_eq_true]at h2;exact Nat.le_of_ble_eq_true h2.2.2.2
  ·cases h2
 all_goals simp_all
theorem Gz.mp (h:Gz P ty t i info d z) {k e:Sh} (hc:i.cells= [.mp k e]) (ha:i.ag=false): ∃kt et j l,d= .map kt et∧ty kt=some j∧ty et=some l∧k.scalar=true∧e.scalar=true∧j.ag=false∧l.ag=false∧j.cells= [k]∧l.cells= [e]:=by
 have:=h.desc
 unfold oK at this
 split at this
 case h_6 kt et=>
  simp only[Bool.and_eq_true,decide_eq_true_eq]at this
  obtain⟨_,h2⟩:=this
  split at h2
  ·rename_i k' e' j l hcm hj hl
   rw[hc]at hcm;cases hcm
   simp only[Bool.and_eq_true,Bool.not_eq_true']at h2
   obtain⟨⟨⟨⟨⟨h3,h4⟩,h5⟩,h6⟩,h7⟩,h8⟩:=h2
   exact⟨kt,et,j,l,rfl,hj,hl,h3,h4,h5,h6,iZ h7,iZ h8⟩
  ·cases h2
 case h_1=>
  simp only[Bool.and_eq_true]at this
  obtain⟨_,h2⟩:=this
  rw[hc]at h2;simp[Sh.oG]at h2
 case h_2=>simp[ha]at this
 case h_7=>cases this
 all_goals (simp only[Bool.and_eq_true]at this;have:=iZ this.2;rw[hc]at this;cases this)
theorem Gz.int (h:Gz P ty t i info d z) {k:IntKind} (hc:i.cells= [.int k]) (ha:i.ag=false):d= .int k:=by
 have:=h.desc
 unfold oK at this
 split at this
 ·simp only[Bool.and_eq_true]at this
  obtain⟨_,h2⟩:=this
  rw[hc]at h2;simp[Sh.oG]at h2
 ·simp[ha]at this
 ·simp only[Bool.and_eq_true]at this;have:=iZ this.2;rw[hc]at this;cases this;rfl
 ·simp only[Bool.and_eq_true]at this;have:=iZ this.2;rw[hc]at this;cases this
 ·simp only[Bool.and_eq_true]at this;have:=iZ this.2;rw[hc]at this;cases this
 ·simp only[Bool.and_eq_true]at this
  obtain⟨_,h2⟩:=this
  split at h2
  ·rename_i hcm _ _;rw[hc]at hcm;cases hcm
  ·cases h2
 ·cases this
theorem Gz.bool (h:Gz P ty t i info d z) (hc:i.cells= [.bool]) (ha:i.ag=false):d= .bool:=by
 have:=h.desc
 unfold oK at this
 split at this
 ·simp only[Bool.and_eq_true]at this
  obtain⟨_,h2⟩:=this
  rw[hc]at h2;simp[Sh.oG]at h2
 ·simp[ha]at this
 ·simp only[Bool.and_eq_true]at this;have:=iZ this.2;rw[hc]at this;cases this
 ·rfl
 ·simp only[Bool.and_eq_true]at this;have:=iZ this.2;rw[hc]at this;cases this
 ·simp only[Bool.and_eq_true]at this
  obtain⟨_,h2⟩:=this
  split at h2
  ·rename_i hcm _ _;rw[hc]at hcm;cases hcm
  ·cases h2
 ·cases this
theorem Gz.str (h:Gz P ty t i info d z) (hc:i.cells= [.str]) (ha:i.ag=false):d= .string:=by
 have:=h.desc
 unfold oK at this
 split at this
 ·simp only[Bool.and_eq_true]at this
  obtain⟨_,h2⟩:=this
  rw[hc]at h2;simp[Sh.oG]at h2
 ·simp[ha]at this
 ·simp only[Bool.and_eq_true]at this;have:=iZ this.2;rw[hc]at this;cases this
 ·simp only[Bool.and_eq_true]at this;have:=iZ this.2;rw[hc]at this;cases this
 ·rfl
 ·simp only[Bool.and_eq_true]at this
  obtain⟨_,h2⟩:=this
  split at h2
  ·rename_i hcm _ _;rw[hc]at hcm;cases hcm
  ·cases h2
 ·cases this
theorem Gz.struct (h:Gz P ty t i info d z) (ha:i.ag=true): ∃fs,d= .struct fs∧places P fs.toList=some i.fields∧fs.toList.map (·.type)=i.ftys∧ ∀x,x∈i.fields→x.2≠0∧x.1+x.2≤i.cells.length:=by
 have:=h.desc
 unfold oK at this
 split at this
 ·simp[ha]at this
 ·rename_i fs
  simp only[Bool.and_eq_true]at this
  obtain⟨_,h2⟩:=this
  split at h2
  ·rename_i l hl
   simp only[Bool.and_eq_true,decide_eq_true_eq]at h2
   obtain⟨⟨rfl,h4⟩,h3⟩:=h2
   refine⟨fs,rfl,hl,h4,fun x hx=> ?_⟩
   have:=List.all_eq_true.1 h3 x hx
   simpa using this
  ·cases h2
 all_goals first|cases this|simp_all
end
end Go.AM
end
section
set_option linter.unusedVariables false
namespace Go.AM
open Go
section
variable {P:Program} {E:Env} {C:Ctx} {s s':St} {a a':Act} {w w':World} {g g':Gh} {o:Oper} {Q:Exit→Act→World→Prop}
def T.AY:T→Bool
 | .val _ cs=>bg cs
 | .tup ts=>ts.all fun x=>bg x.2
 | .nilc=>false
 | .ext _ _ _=>false
 |_=>true
theorem lg.sZ (k:Keeps w w' g.F g'.F) {mk mk':Nat→aF}: ∀(ts:List (Bool×List CV)) (i j:Nat) (vs:List Value),(ts.all fun x=>bg x.2)=true→lg w g mk i ts vs→lg w' g' mk' j ts vs
 | [],_,_,_,_,h=>h
 |(ag,cs)::ts,i,j,_,hp,⟨v,ws,e,⟨h1,h2⟩,h⟩=>by
  simp only[List.all_cons,Bool.and_eq_true]at hp
  exact⟨v,ws,e,⟨h1,aC.sZ k cs i j _ hp.1 h2⟩,lg.sZ k ts _ _ ws hp.2 h⟩
theorem TV0.copy {mk mk':Nat→aF} {t:T} {v:Value} (hc:t.AY=true) (h:TV0 s a w g mk t v):TV0 s a w g mk' t v:=by
 cases t with
 |val ag cs=>exact⟨h.1,aC.sZ (Keeps.refl _ _) cs 0 0 _ hc h.2⟩
 |tup ts=>obtain⟨vs,e,h⟩:=h;exact⟨vs,e,lg.sZ (Keeps.refl _ _) ts 0 0 vs hc h⟩
 |paddr cs off=>obtain⟨ad,vs,e,h1,h2,h3⟩:=h;exact⟨ad,vs,e,h1,h2,aC.sZ (Keeps.refl _ _) cs 0 0 vs h2 h3⟩
 |nilc=>exact h
 |dead=>exact h
 |undef=>exact h
 |ref p ag m=>exact h
 |rsub p z lo hi=>exact h
 |addr p=>exact h
 |rowr p ag m=>exact h
 |addr2 p k q=>exact h
 |fn f=>exact h
 |clo f ts=>exact h
 |ext p q c=>cases hc
theorem ny.copy {mk mk':Nat→aF}: ∀(ts:List T) (vs:List Value),ny s a w g mk ts vs→ny s a w g mk' ts vs
 | [],_,h=>h
 |t::ts,_,⟨v,ws,e,h0,h1,h⟩=>⟨v,ws,e,h0,h1.copy (by cases t<;>first|rfl|exact h0.elim),ny.copy ts ws h⟩
theorem TV.copy {mk mk':Nat→aF} {t:T} {v:Value} (hc:t.AY=true) (h:TV s a w g mk t v):TV s a w g mk' t v:=by
 cases t with
 |clo f ts=>obtain⟨vs,e,h⟩:=h;exact⟨vs,e,h.copy⟩
 |dead=>exact h
 |undef=>exact h
 |nilc=>exact h
 |val ag cs=>exact TV0.copy (s:=s) (a:=a) (t:= .val ag cs) hc h
 |ref p ag m=>exact h
 |rsub p z lo hi=>exact h
 |addr p=>exact h
 |rowr p ag m=>exact h
 |addr2 p k q=>exact h
 |paddr cs off=>exact TV0.copy (s:=s) (a:=a) (t:= .paddr cs off) hc h
 |tup ts=>exact TV0.copy (s:=s) (a:=a) (t:= .tup ts) hc h
 |fn f=>exact h
 |ext p q c=>cases hc
theorem Rel.NV (h:Rel E C s a w g) {d:Nat} (hd:DOk E d) {t:T} {v:Value} {mk:Nat→aF} (hc:t.AY=true) (ht:TV s a w g mk t v):
 Rel E C (s.dI [.tm d t]) (a.put (some d) v) w g:=by
 refine h.SC hd (Fr.refl _ _ _) h.base rfl ?_
 exact TV.copy hc (TV.step (K:=fun _=>True) (Fr.refl _ _ _) (fun i=>trivial) (h.Np d t v (Fr.refl _ _ _) rfl) (TV.copy (mk':= .hand) hc ht))
theorem bI (h:Rel E C s a w g) {d:Nat} (hdst:o.dst=some d) (hd:DOk E d) {t:T} {v:Value} {mk:Nat→aF} (hr:(execOp a.eval o).run P w= .ok (.value v) w)
 (hc:t.AY=true) (ht:TV s a w g mk t v):o.wp P a w (fun a' w'=> ∃g',Rel E C (s.dI [.tm d t]) a' w' g') Q:=by
 unfold Oper.wp
 rw[hr,Oper.upon_value,hdst]
 exact⟨g,h.NV hd hc ht⟩
theorem nP (k:IntKind) (n:Int):TV s a w g .hand (Kv k n) (.int k n):=yL w g .hand rfl rfl rfl rfl
theorem rQ (b:Bool):TV s a w g .hand (VK b) (.bool b):=yL w g .hand rfl rfl rfl rfl
theorem Yt (b:ByteArray):TV s a w g .hand (ad2 b) (.string b):=yL w g .hand rfl rfl rfl rfl
theorem BH.one {mk:Nat→aF} {c:CV} {v:Value} {ag:Bool} (h:BH w g mk 0 ag [c] v): ∃u,v.cells.toList= [u]∧jl w g (mk 0) c u∧(ag=false→u=v):=by
 obtain⟨h1,u,ws,e,h2,h3⟩:=h
 simp only[aC]at h3;subst h3
 refine⟨u,e,h2,fun ha=> ?_⟩
 rw[ha]at h1
 rw[aH h1]at e;simpa using e.symm
theorem Rel.wQ (h:Rel E C s a w g) {d:Nat} (hd:DOk E d) {ag:Bool} {cs:List CV} {v:Value} (ha:isAgg v=ag) (hh:aC w g .hand 0 cs v.cells.toList):
 ∃g',Rel E C (s.dI [.tm d (.val ag cs)]) (a.put (some d) v) w g'∧g'.at_=g.at_∧Keeps w w g.F g'.F:=by
 let ρ:aF→aF:=fun o=>match o with| .hand i=> .tm d i|o=>o
 refine⟨g.ren ρ,h.SC hd (Fr.ren w g fun o ho=> ?_) (h.base.ren ρ) rfl ⟨ha,?_⟩,rfl,Keeps.refl _ _⟩
 ·simp only[ρ]
  cases o<;>simp_all
 ·exact aC.ren cs 0 0 _ (fun k _=>by simp[ρ]) hh
theorem dM (s:St) (us vs:List Upd):s.dI (us++vs)=(s.dI us).dI vs:=by simp[St.dI,List.foldl_append]
theorem VY (h:Rel E C s a w g) {d:Nat} (hdst:o.dst=some d) (hd:DOk E d) {x:Operand} {exp:List Sh} {ag:Bool} {cs:List CV} {us:List Upd}
 (ht:(zA E s x exp).run=some (ag,cs,us)) (hr:(execOp a.eval o).run P w= .ok (.value (a.eval x)) w):
 o.wp P a w (fun a' w'=> ∃g',Rel E C (s.dI (us++[.tm d (.val ag cs)])) a' w' g') Q:=by
 obtain⟨g1,r1,k1,k2,_,_⟩:=Dp h (hs:=[]) (hv:=[]) rfl ht
 obtain⟨g2,r2,_,_⟩:=r1.wQ hd k1 (by simpa using k2)
 unfold Oper.wp
 rw[hr,Oper.upon_value,hdst,dM]
 exact⟨g2,r2⟩
theorem aK {x:Operand} {t:T} (h:Rel E C s a w g) (hx:at_ E s x=t) (hn:t≠ .nilc):TV s a w g (UC x) t (a.eval x):=by
 rcases h.at_ x with⟨e,_⟩|h
 ·rw[hx]at e;exact absurd e hn
 ·rw[hx]at h;exact h
theorem rH (h:Rel E C s a w g) {x:Operand} {k:IntKind} {n:Int} (hx:qg E s x=some (k,n)):at_ E s x= .val false [⟨.int k,.pure,n⟩]∧a.eval x= .int k n:=by
 unfold qg at hx
 split at hx
 ·rename_i k' n' heq
  cases hx
  have:=aK h heq (by simp)
  obtain⟨u,e,hr,hu⟩:=BH.one this
  exact⟨heq,by rw[←hu rfl];exact hr⟩
 ·cases hx
theorem IG (h:Rel E C s a w g) {x:Operand} {b:Bool} (hx:uo E s x=some b):a.eval x= .bool b:=by
 unfold uo at hx
 split at hx
 ·rename_i b' heq
  cases hx
  have:=aK h heq (by simp)
  obtain⟨u,e,hr,hu⟩:=BH.one this
  rw[←hu rfl];exact hr
 ·cases hx
end
end Go.AM
end
