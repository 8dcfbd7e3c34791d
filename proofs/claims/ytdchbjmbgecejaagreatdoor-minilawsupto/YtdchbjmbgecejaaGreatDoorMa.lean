import Derived.Calls
import Derived.Laws.Entries
import Derived.Laws.AppendOwn
import Derived.Deep.MidRow
import Derived.Great.BuildSlice
set_option linter.unusedVariables false
theorem aac:type_of% @List.getElem?_eq_getElem:=@List.getElem?_eq_getElem
theorem aad:type_of% @Bool.and_eq_true:=@Bool.and_eq_true
theorem aae:type_of% @Option.some.injEq:=@Option.some.injEq
theorem aaf:type_of% @List.getElem?_eq_some_iff:=@List.getElem?_eq_some_iff
theorem aag:type_of% @List.getElem_mem:=@List.getElem_mem
theorem aah:type_of% @List.getElem?_eq_none:=@List.getElem?_eq_none
theorem aai:type_of% @Option.bind_some:=@Option.bind_some
theorem aaj:type_of% @List.getElem?_take:=@List.getElem?_take
theorem aak:type_of% @List.mem_of_getElem?:=@List.mem_of_getElem?
theorem aal:type_of% @Nat.eq_of_beq_eq_true:=@Nat.eq_of_beq_eq_true
theorem aam:type_of% @List.mem_singleton:=@List.mem_singleton
theorem aan:type_of% @List.getElem?_drop:=@List.getElem?_drop
theorem aao:type_of% @Option.some.inj:=@Option.some.inj
theorem aap:type_of% @List.length_append:=@List.length_append
theorem aaq:type_of% @Nat.le_refl:=@Nat.le_refl
theorem aar:type_of% @List.getElem?_map:=@List.getElem?_map
theorem aas:type_of% @Prod.mk.injEq:=@Prod.mk.injEq
theorem aat:type_of% @Int.toNat_natCast:=@Int.toNat_natCast
theorem aau:type_of% @List.mem_append:=@List.mem_append
theorem aav:type_of% @List.eq_nil_of_length_eq_zero:=@List.eq_nil_of_length_eq_zero
theorem aaw:type_of% @Nat.mul_le_mul_right:=@Nat.mul_le_mul_right
theorem aax:type_of% @List.getElem?_append_left:=@List.getElem?_append_left
theorem aay:type_of% @List.getElem_of_mem:=@List.getElem_of_mem
theorem aaz:type_of% @List.getElem?_append_right:=@List.getElem?_append_right
theorem aaA:type_of% @List.append_assoc:=@List.append_assoc
theorem aaB:type_of% @List.length_take:=@List.length_take
theorem aaC:type_of% @List.take_length:=@List.take_length
theorem aaD:type_of% @List.take_add_one:=@List.take_add_one
theorem aaE:type_of% @Nat.lt_or_ge:=@Nat.lt_or_ge
theorem aaF:type_of% @List.take_of_length_le:=@List.take_of_length_le
theorem aaG:type_of% @Option.map_eq_some_iff:=@Option.map_eq_some_iff
theorem aaH:type_of% @List.mem_append_left:=@List.mem_append_left
theorem aaI:type_of% @List.drop_eq_getElem_cons:=@List.drop_eq_getElem_cons
theorem aaJ:type_of% @Nat.le_trans:=@Nat.le_trans
theorem aaK:type_of% @Option.map_some:=@Option.map_some
theorem aaL:type_of% @List.mem_map:=@List.mem_map
theorem aaM:type_of% @List.getElem?_cons_zero:=@List.getElem?_cons_zero
theorem aaN:type_of% @List.length_map:=@List.length_map
theorem aaO:type_of% @Array.getElem?_toList:=@Array.getElem?_toList
theorem aaP:type_of% @List.ext_getElem?:=@List.ext_getElem?
theorem aaQ:type_of% @List.append_nil:=@List.append_nil
theorem aaR:type_of% @List.mem_cons:=@List.mem_cons
theorem aaS:type_of% @List.getElem?_set:=@List.getElem?_set
theorem aaT:type_of% @List.length_singleton:=@List.length_singleton
theorem aaU:type_of% @Nat.add_zero:=@Nat.add_zero
theorem aaV:type_of% @List.all_eq_true:=@List.all_eq_true
theorem aaW:type_of% @Nat.zero_add:=@Nat.zero_add
theorem aaX:type_of% @List.mem_cons_of_mem:=@List.mem_cons_of_mem
theorem aaY:type_of% @Nat.lt_or_eq_of_le:=@Nat.lt_or_eq_of_le
theorem aaZ:type_of% @Option.bind_eq_some_iff:=@Option.bind_eq_some_iff
theorem aa0:type_of% @List.length_set:=@List.length_set
theorem aa1:type_of% @Array.getElem?_eq_getElem:=@Array.getElem?_eq_getElem
theorem aa2:type_of% @Array.length_toList:=@Array.length_toList
theorem aa3:type_of% @Bool.false_eq_true:=@Bool.false_eq_true
theorem aa4:type_of% @Array.getD_eq_getD_getElem?:=@Array.getD_eq_getD_getElem?
theorem aa5:type_of% @List.cons.injEq:=@List.cons.injEq
theorem aa6:type_of% @Nat.le_of_ble_eq_true:=@Nat.le_of_ble_eq_true
theorem aa7:type_of% @List.length_drop:=@List.length_drop
theorem aa8:type_of% @Nat.le_of_lt_succ:=@Nat.le_of_lt_succ
theorem aa9:type_of% @Bool.not_true:=@Bool.not_true
theorem abb:type_of% @Nat.lt_of_lt_of_le:=@Nat.lt_of_lt_of_le
theorem abd:type_of% @Option.toList_some:=@Option.toList_some
theorem abe:type_of% @List.length_cons:=@List.length_cons
theorem abf:type_of% @List.map_cons:=@List.map_cons
theorem abg:type_of% @List.flatMap_cons:=@List.flatMap_cons
theorem abh:type_of% @Array.toList_inj:=@Array.toList_inj
theorem abj:type_of% @Bool.not_eq_true':=@Bool.not_eq_true'
theorem abk:type_of% @List.getElem?_set_ne:=@List.getElem?_set_ne
theorem abl:type_of% @List.mem_append_right:=@List.mem_append_right
theorem abm:type_of% @List.take_append_drop:=@List.take_append_drop
theorem abn:type_of% @List.drop_of_length_le:=@List.drop_of_length_le
theorem abo:type_of% @Array.getElem?_eq_some_iff:=@Array.getElem?_eq_some_iff
theorem abp:type_of% @Classical.byContradiction:=@Classical.byContradiction
theorem abq:type_of% @Option.getD_some:=@Option.getD_some
theorem abr:type_of% @Nat.succ_mul:=@Nat.succ_mul
theorem abt:type_of% @List.append_eq:=@List.append_eq
theorem abu:type_of% @List.drop_zero:=@List.drop_zero
theorem abv:type_of% @List.mem_of_mem_take:=@List.mem_of_mem_take
theorem abw:type_of% @List.getElem?_replicate:=@List.getElem?_replicate
theorem abx:type_of% @List.pairwise_iff_getElem:=@List.pairwise_iff_getElem
theorem aby:type_of% @List.getElem?_set_self:=@List.getElem?_set_self
theorem abz:type_of% @List.map_append:=@List.map_append
theorem abA:type_of% @Nat.zero_le:=@Nat.zero_le
theorem abB:type_of% @List.getD_eq_getElem?_getD:=@List.getD_eq_getElem?_getD
theorem abC:type_of% @Nat.add_assoc:=@Nat.add_assoc
theorem abD:type_of% @List.take_append_of_le_length:=@List.take_append_of_le_length
theorem abE:type_of% @List.mem_or_eq_of_mem_set:=@List.mem_or_eq_of_mem_set
theorem abG:type_of% @List.take_left:=@List.take_left
theorem abH:type_of% @List.mem_of_mem_drop:=@List.mem_of_mem_drop
theorem abI:type_of% @List.cons.inj:=@List.cons.inj
theorem abJ:type_of% @List.length_replicate:=@List.length_replicate
theorem abK:type_of% @Nat.min_eq_left:=@Nat.min_eq_left
theorem abL:type_of% @List.drop_left:=@List.drop_left
theorem abM:type_of% @Nat.add_mul:=@Nat.add_mul
theorem abN:type_of% @List.map_map:=@List.map_map
theorem abO:type_of% @Bool.or_eq_true:=@Bool.or_eq_true
theorem abP:type_of% @Int.lt_or_eq_of_le:=@Int.lt_or_eq_of_le
theorem abQ:type_of% @List.nil_append:=@List.nil_append
theorem abR:type_of% @Nat.mul_one:=@Nat.mul_one
theorem abS:type_of% @List.take_take:=@List.take_take
theorem abT:type_of% @List.mem_cons_self:=@List.mem_cons_self
theorem abU:type_of% @Bool.not_eq_true:=@Bool.not_eq_true
theorem abV:type_of% @List.any_eq_true:=@List.any_eq_true
theorem abW:type_of% @List.mem_range:=@List.mem_range
theorem abX:type_of% @List.flatten_cons:=@List.flatten_cons
theorem abY:type_of% @List.size_toArray:=@List.size_toArray
theorem abZ:type_of% @List.getElem?_range:=@List.getElem?_range
theorem ab1:type_of% @Array.getElem?_eq_none:=@Array.getElem?_eq_none
theorem ab2:type_of% @Int.tdiv_eq_ediv_of_nonneg:=@Int.tdiv_eq_ediv_of_nonneg
theorem ab3:type_of% @List.not_mem_nil:=@List.not_mem_nil
theorem ab4:type_of% @Bool.and_true:=@Bool.and_true
theorem ab5:type_of% @List.countP_le_length:=@List.countP_le_length
theorem ab6:type_of% @List.map_drop:=@List.map_drop
theorem ab7:type_of% @List.map_take:=@List.map_take
theorem ab8:type_of% @Nat.eq_zero_or_pos:=@Nat.eq_zero_or_pos
theorem ab9:type_of% @Bool.not_false:=@Bool.not_false
theorem acd:type_of% @List.getElem?_zip_eq_some:=@List.getElem?_zip_eq_some
theorem ace:type_of% @List.take_zero:=@List.take_zero
theorem acf:type_of% @Option.filter_eq_some_iff:=@Option.filter_eq_some_iff
theorem acg:type_of% @Array.size_replicate:=@Array.size_replicate
theorem ach:type_of% @Iff.rfl:=@Iff.rfl
theorem aci:type_of% @Option.isSome_iff_exists:=@Option.isSome_iff_exists
theorem acj:type_of% @Nat.beq_refl:=@Nat.beq_refl
theorem acn:type_of% @Nat.le_of_eq:=@Nat.le_of_eq
theorem aco:type_of% @Nat.mul_comm:=@Nat.mul_comm
theorem acp:type_of% @Int.toNat_of_nonneg:=@Int.toNat_of_nonneg
theorem acr:type_of% @List.mem_flatMap:=@List.mem_flatMap
theorem acs:type_of% @List.pairwise_cons:=@List.pairwise_cons
theorem acu:type_of% @Bool.eq_iff_iff:=@Bool.eq_iff_iff
theorem acv:type_of% @List.all_append:=@List.all_append
theorem acw:type_of% @List.foldl_cons:=@List.foldl_cons
theorem acy:type_of% @List.length_nil:=@List.length_nil
theorem acz:type_of% @Nat.sub_self:=@Nat.sub_self
theorem acA:type_of% @List.all_cons:=@List.all_cons
theorem acB:type_of% @List.getElem_take:=@List.getElem_take
theorem acC:type_of% @List.nodup_append:=@List.nodup_append
theorem acD:type_of% @List.pairwise_map:=@List.pairwise_map
theorem acE:type_of% @Nat.lt_trichotomy:=@Nat.lt_trichotomy
theorem acF:type_of% @List.drop_length:=@List.drop_length
theorem acG:type_of% @List.map_toArray:=@List.map_toArray
theorem acH:type_of% @List.take_append:=@List.take_append
theorem acI:type_of% @Nat.div_eq_of_lt:=@Nat.div_eq_of_lt
theorem acJ:type_of% @Int.lt_or_le:=@Int.lt_or_le
theorem acK:type_of% @List.map_nil:=@List.map_nil
theorem acL:type_of% @Bool.true_and:=@Bool.true_and
theorem acM:type_of% @Prod.ext:=@Prod.ext
theorem acN:type_of% @Int.le_refl:=@Int.le_refl
section
namespace Go.AM
inductive Sh where
 |int (k:IntKind)|bool|str|sl (es:List Sh)|rsl (ss:List Sh)|dl (es:List Sh)|mp (k e:Sh)
inductive RT (α:Type) where
 |mk (a:α) (kids:List (RT α))
def RT.a {α:Type}:RT α->α| .mk a _=>a
def RT.kids {α:Type}:RT α->List (RT α)| .mk _ ks=>ks
mutual
def El:Sh->Type
 | .int _=>Int
 | .bool=>Bool
 | .str=>ByteArray
 | .sl es=>List (ElA es)
 | .rsl ss=>List (RT (ElA ss))
 | .dl es=>List (Option (ElA es))
 | .mp k e=>Option (List (El k×El e))
def ElA:List Sh->Type
 | []=>Unit
 |s::ss=>match ss with
  | []=>El s
  |_::_=>El s×ElA ss
end
mutual
def Sh.beq:Sh->Sh->Bool
 | .int k,.int k'=>decide (k=k')
 | .bool,.bool=>true
 | .str,.str=>true
 | .sl es,.sl es'=>Sh.Ia es es'
 | .rsl es,.rsl es'=>Sh.Ia es es'
 | .dl es,.dl es'=>Sh.Ia es es'
 | .mp k e,.mp k' e'=>Sh.beq k k'&&Sh.beq e e'
 |_,_=>false
def Sh.Ia:List Sh->List Sh->Bool
 | [],[]=>true
 |s::ss,t::ts=>Sh.beq s t&&Sh.Ia ss ts
 |_,_=>false
end
theorem Sh.eq_of_beq: ∀{a b:Sh},Sh.beq a b=true->a=b:=by
 intro a
 induction a using Sh.rec (motive_2:=λ aZ=> ∀bs,Sh.Ia aZ bs=true->aZ=bs)with
 |int k=>intro b;cases b<;>simp[Sh.beq]
 |bool=>intro b;cases b<;>simp[Sh.beq]
 |str=>intro b;cases b<;>simp[Sh.beq]
 |sl es ih=>intro b;cases b<;>simp[Sh.beq];exact λ h=>ih _ h
 |rsl es ih=>intro b;cases b<;>simp[Sh.beq];exact λ h=>ih _ h
 |dl es ih=>intro b;cases b<;>simp[Sh.beq];exact λ h=>ih _ h
 |mp k e ih1 ih2=>intro b;cases b<;>simp[Sh.beq];exact λ h h'=>⟨ih1 h,ih2 h'⟩
 |nil=>rename_i bs h;cases bs<;>simp[Sh.Ia]at h ⊢
 |cons s ss ih1 ih2=>rename_i bs h;cases bs<;>simp[Sh.Ia]at h ⊢;exact⟨ih1 h.1,ih2 _ h.2⟩
inductive Tg where
 |pure|own|tip|dead
def Tg.le:Tg->Tg->Bool
 | .dead,_=>true
 | .pure,b=>match b with| .dead=>false|_=>true
 | .tip,b=>match b with| .tip=>true| .own=>true|_=>false
 | .own,b=>match b with| .own=>true|_=>false
def Sh.top:Sh->Tg
 | .sl _=> .own
 | .rsl _=> .own
 | .dl _=> .own
 | .mp _ _=> .own
 |_=> .pure
def Tg.isPure:Tg->Bool| .pure=>true|_=>false
def Tg.Ep:Tg->Bool| .own=>true|_=>false
def Sh.pF:Sh->Bool
 | .sl _=>true
 | .rsl _=>true
 | .dl _=>true
 |_=>false
def Sh.oW:Sh->Bool
 | .sl _=>true
 | .rsl _=>true
 |_=>false
def Sh.base:Sh->Sh
 | .dl es=> .sl es
 |s=>s
def Sh.deep:Sh->Sh
 | .sl es=>bif es.any Sh.pF then .dl es else .sl es
 |s=>s
def Sh.acW:Sh->Bool
 | .dl _=>true
 |_=>false
def Sh.Ie:Sh->Bool
 | .mp _ _=>true
 |_=>false
def Sh.ZL:Sh->Tg->Bool
 | .dl _,.own=>true
 | .dl _,.dead=>true
 | .dl _,_=>false
 | .mp _ _,.own=>true
 | .mp _ _,.dead=>true
 | .mp _ _,_=>false
 |_,_=>true
def rowAt? {α:Type} (l:List (Option α)) (i:Nat):Option α:=(l[i]?).join
def qX {α:Type}:List (Option α)->Option (List α)
 | []=>some []
 |none::_=>none
 |some x::l=>(qX l).map (x:: ·)
structure CV where
 sh:Sh
 tg:Tg
 x:El sh
def CV.isPure (c:CV):Bool:=c.tg.isPure
def CV.kill (c:CV):CV:=⟨c.sh,.dead,c.x⟩
def CV.to (c:CV) (t:Tg):CV:=⟨c.sh,t,c.x⟩
def CV.left (c:CV):CV:=bif c.isPure then c else c.kill
def jD (c:CV) (s:Sh):Option (El s):=
 if h:Sh.beq c.sh s=true then some (cast (congrArg El (Sh.eq_of_beq h)) c.x)else none
def cellsOf:(es:List Sh)->ElA es->List CV
 | [],_=>[]
 | [s],x=>[⟨s,.pure,x⟩]
 |s::t::ss,x=>⟨s,.pure,x.1⟩::cellsOf (t::ss) x.2
def mX (es:List Sh) (x:ElA es):List CV:=(cellsOf es x).map λ c=>c.to c.sh.top
def fZ:(es:List Sh)->List CV->Option (ElA es)
 | [],cs=>match cs with| []=>some ()|_=>none
 | [s],cs=>match cs with
   | [c]=>jD c s
   |_=>none
 |s::t::ss,cs=>match cs with
  |c::cs=>match jD c s,fZ (t::ss) cs with
   |some y,some z=>some (y,z)
   |_,_=>none
  | []=>none
def CY (cs:List CV):Bool:=cs.all λ c=>match c.tg with| .dead=>false|_=>true
def Cb (cs:List CV):Bool:=cs.all λ c=>(match c.tg with| .dead=>false|_=>true)&& !c.sh.acW&& !c.sh.Ie
def rC (ss:List Sh) (t:RT (ElA ss)):List CV:=cellsOf ss t.a++[⟨.rsl ss,.pure,t.kids⟩]
def vO (ss:List Sh) (cs:List CV):Option (RT (ElA ss)):=
 match fZ ss (cs.take ss.length),cs.drop ss.length with
 |some a,[k]=>match jD k (.rsl ss)with|some ks=>some (.mk a ks)|none=>none
 |_,_=>none
def kM:(s:Sh)->El s
 | .int _=>(0:Int)
 | .bool=>false
 | .str=>ByteArray.empty
 | .sl _=>[]
 | .rsl _=>[]
 | .dl _=>[]
 | .mp _ _=>none
def H8 (s:Sh):CV:=⟨s,s.top,kM s⟩
structure TyI where
 ag:Bool
 cells:List Sh
 fields:List (Nat×Nat)
 ftys:List TypeId
 elem:Option TypeId
inductive Root where
 |tmp (n:Nat)|box (n:Nat)
structure Pl where
 root:Root
 inst:Nat
 vers:List Nat
 cell:Nat
 sub:Option (Nat×Nat)
inductive T where
 |dead
 |undef
 |nilc
 |val (ag:Bool) (cs:List CV)
 |ref (p:Pl) (ag:Bool) (n:Nat)
 |rsub (p:Pl) (z:Bool) (lo hi:Nat)
 |addr (p:Pl)
 |rowr (p:Pl) (ag:Bool) (n:Nat)
 |addr2 (p:Pl) (k j:Nat)
 |paddr (cs:List CV) (off:Nat)
 |tup (ts:List (Bool×List CV))
 |fn (f:FuncId)
 |clo (f:FuncId) (caps:List T)
 |ext (p:Pl) (q c:CV)
structure Bx where
 inst:Nat
 cells:List (CV×Nat)
structure St where
 tm:Nat->T×Nat
 bx:Nat->Option Bx
def put {α:Type} (f:Nat->α) (n:Nat) (v:α):Nat->α:=λ m=>bif Nat.beq m n then v else f m
inductive Upd where
 |tm (n:Nat) (t:T)
 |keep (n:Nat) (t:T)
 |bx (n:Nat) (b:Bx)
 |cl (n:Nat) (l:List (Nat×CV×Nat))
def setMany {α:Type}:List α->List (Nat×α)->List α
 |cs,[]=>cs
 |cs,(i,c)::l=>setMany (cs.set i c) l
def Upd.on (s:St):Upd->St
 | .cl n l=>{s with bx:=put s.bx n ((s.bx n).map λ b=>⟨b.inst,setMany b.cells l⟩)}
 | .tm n t=>{s with tm:=put s.tm n (t,(s.tm n).2+1)}
 | .keep n t=>{s with tm:=put s.tm n (t,(s.tm n).2)}
 | .bx n b=>{s with bx:=put s.bx n (some b)}
def St.dM (s:St) (us:List Upd):St:=us.foldl Upd.on s
inductive Dyn (α:Type):Type 1 where
 |ret (a:α)
 |fail
 |chk (c:Bool) (k:Dyn α)
 |idx {β:Type} (o:Option β) (k:β->Dyn α)
def Dyn.run {α:Type}:Dyn α->Option α
 | .ret a=>some a
 | .fail=>none
 | .chk c k=>bif c then k.run else none
 | .idx o k=>o.bind λ b=>(k b).run
def Dyn.runK {α ρ:Type}:Dyn α->(α->Option ρ)->Option ρ
 | .ret a,q=>q a
 | .fail,_=>none
 | .chk c k,q=>bif c then k.runK q else none
 | .idx o k,q=>o.bind λ b=>(k b).runK q
def Dyn.bind {α β:Type}:Dyn α->(α->Dyn β)->Dyn β
 | .ret a,q=>q a
 | .fail,_=> .fail
 | .chk c k,q=> .chk c (k.bind q)
 | .idx o k,q=> .idx o λ b=>(k b).bind q
def Dyn.of {α:Type}:Option α->Dyn α
 |some a=> .ret a
 |none=> .fail
instance:Monad Dyn where
 pure:=Dyn.ret
 bind:=Dyn.bind
theorem Dyn.UQ {α ρ:Type} (d:Dyn α) (q:α->Option ρ):d.runK q=d.run.bind q:=by
 induction d with
 |ret a=>rfl
 |fail=>rfl
 |chk c k ih=>cases c<;>simp[Dyn.run,Dyn.runK,ih]
 |idx o k ih=>cases o<;>simp[Dyn.run,Dyn.runK,ih]
theorem Dyn.run_bind {α β:Type} (d:Dyn α) (q:α->Dyn β):(d.bind q).run=d.run.bind λ a=>(q a).run:=by
 induction d with
 |ret a=>rfl
 |fail=>rfl
 |chk c k ih=>cases c<;>simp[Dyn.run,Dyn.bind,ih]
 |idx o k ih=>cases o<;>simp[Dyn.run,Dyn.bind,ih]
def nth? {α:Type} (l:List α) (i:Int):Option α:=bif decide (0<=i)then l[i.toNat]? else none
inductive PK where
 |val (ag:Bool) (cells:List (Sh×Tg))
 |ptr (cells:List (Sh×Tg))
 |rptr (cells:List (Sh×Tg))
 |fn (f:FuncId)
 |io (cells:List (Sh×Tg))
 |clo (f:FuncId) (cells:List (Sh×Tg))
def PK.cells:PK->List (Sh×Tg)| .val _ cs=>cs| .ptr cs=>cs| .rptr cs=>cs| .fn _=>[]| .io cs=>cs| .clo _ cs=>cs
def PK.outs:PK->List (Sh×Tg)| .ptr cs=>cs| .io cs=>cs|_=>[]
def acR (ps:List PK) (d:Nat):Bool:=match ps[d]? with|some (.ptr _)=>true|some (.io _)=>true|_=>false
def MI (i:Nat):List (Sh×Tg)->Nat->List (Nat×Nat)
 | [],_=>[]
 |(_,.dead)::l,j=>(i,j)::MI i l (j+1)
 |_::l,j=>MI i l (j+1)
def Ui:List PK->Nat->List (Nat×Nat)
 | [],_=>[]
 | .ptr want::ps,i=>MI i want 0++Ui ps (i+1)
 |_::ps,i=>Ui ps (i+1)
structure Sig where
 fn:FuncId
 params:List PK
 res:List (Bool×List (Sh×Tg))
def Sig.ins (g:Sig):List (Sh×Tg):=g.params.flatMap PK.cells
def Sig.outs (g:Sig):List (Sh×Tg):=g.res.flatMap (·.2)++g.params.flatMap PK.outs
abbrev Sig.In (g:Sig):Type:=ElA (g.ins.map (·.1))
abbrev Sig.Out (g:Sig):Type:=ElA (g.outs.map (·.1))
def Sh.scalar:Sh->Bool| .int _=>true| .bool=>true| .str=>true|_=>false
def Sig.scalar (g:Sig):Bool:=g.outs.all (·.1.scalar)&&g.params.all λ p=>match p with| .ptr _=>false| .io _=>false|p=>p.cells.all (·.2.isPure)
structure Env where
 nt:Nat
 fix:Nat->Bool
 ty:TypeId->Option TyI
 glob:Nat->Option (List CV)
 sig:Nat->Sig
 spec:Nat->Nat
 call:(i:Nat)->(sig i).In->Option (sig i).Out
 kept:List (Nat×Nat)
def bD (cs:List CV):Bool:=cs.all CV.isPure
def MH:Value->T
 | .int k n=> .val false [⟨.int k,.pure,n⟩]
 | .bool b=> .val false [⟨.bool,.pure,b⟩]
 | .string b=> .val false [⟨.str,.pure,b⟩]
 | .slice none 0 0=> .nilc
 |_=> .dead
def at_ (E:Env) (s:St):Operand->T
 | .tmp t=>(s.tm t).1
 | .const v=>MH v
 | .global g=>match E.glob g with|some cs=> .paddr cs 0|none=> .dead
 | .func f=> .fn f
def aB (s:St):Root->Option (Nat×List (CV×Nat))
 | .tmp n=>match s.tm n with
   |(.val _ cs,v)=>some (v,cs.map λ c=>(c,v))
   |_=>none
 | .box n=>match s.bx n with
   |some b=>some (b.inst,b.cells)
   |none=>none
def Dw:List Nat->List Nat->Bool
 | [],_=>true
 |v::vs,w::ws=>Nat.beq v w&&Dw vs ws
 |_::_,[]=>false
def aW (s:St) (p:Pl) (n:Nat):Option (List CV):=
 match aB s p.root with
 |some (inst,cs)=>
  bif Nat.beq inst p.inst&&Nat.ble (p.cell+n) cs.length&&Dw p.vers ((cs.drop p.cell).map (·.2))then some (((cs.drop p.cell).take n).map (·.1))else none
 |none=>none
def AO (s:St) (p:Pl) (n:Nat):List Nat:=
 match aB s p.root with
 |some (_,cs)=>((cs.drop p.cell).take n).map (·.2)
 |none=>[]
def zy (s:St) (p:Pl):Bool:=
 match p.sub with
 |none=>match aB s p.root with|some (inst,_)=>Nat.beq inst p.inst|none=>false
 |some _=>match aW s p 1 with|some _=>true|none=>false
def setCells (cs:List CV) (j:Nat) (ds:List CV):List CV:=cs.take j++ds++cs.drop (j+ds.length)
def jB (s:St) (p:Pl) (ds:List CV) (fresh:Bool):Option (List Upd):=
 match p.root with
 | .tmp n=>match s.tm n with
   |(.val ag cs,v)=>bif fresh then none else bif Nat.beq v p.inst then some [.keep n (.val ag (setCells cs p.cell ds))]else none
   |_=>none
 | .box n=>match s.bx n with
   |some b=>bif Nat.beq b.inst p.inst&&Nat.ble (p.cell+ds.length) b.cells.length then
    some [.bx n ⟨b.inst,b.cells.take p.cell++(ds.zip (b.cells.drop p.cell)).map (λ(d,(_,v))=>(d,bif fresh then v+1 else v))++b.cells.drop (p.cell+ds.length)⟩]
    else none
   |none=>none
def at? {α:Type} (l:List α) (i:Nat):Option α:=l[i]?
def xW (c:CV) (i:Nat):Dyn (List CV):=
 match c with
 |⟨.sl es,tg,l⟩=>match tg with
  | .dead=> .fail
  |_=> .idx (at? l i) λ e=> .ret (cellsOf es e)
 |⟨.rsl ss,tg,l⟩=>match tg with
  | .dead=> .fail
  |_=> .idx (at? l i) λ e=> .ret (rC ss e)
 |_=> .fail
def elemAt (c:CV) (i:Int):Dyn (List CV):=
 match c with
 |⟨.sl es,tg,l⟩=>match tg with
  | .dead=> .fail
  |_=> .idx (nth? l i) λ e=> .ret (cellsOf es e)
 |⟨.rsl ss,tg,l⟩=>match tg with
  | .dead=> .fail
  |_=> .idx (nth? l i) λ e=> .ret (rC ss e)
 |_=> .fail
def content (s:St) (p:Pl) (n:Nat):Dyn (List CV):=
 match p.sub with
 |none=>Dyn.of (aW s p n)
 |some (i,j)=>match aW s p 1 with
  |some [c]=>(xW c i).bind λ cs=>bif Nat.ble (j+n) cs.length then .ret ((cs.drop j).take n)else .fail
  |_=> .fail
def DX (c:CV) (i:Nat) (cs:List CV):Option CV:=
 match c with
 |⟨.sl es,.own,l⟩=>match fZ es cs with
  |some e=>some ⟨.sl es,.own,List.set l i e⟩
  |none=>none
 |⟨.rsl ss,.own,l⟩=>match vO ss cs with
  |some e=>some ⟨.rsl ss,.own,List.set l i e⟩
  |none=>none
 |_=>none
def EU:List CV->List CV->Bool
 | [],[]=>true
 |a::aZ,b::bs=>Sh.beq a.sh b.sh&&EU aZ bs
 |_,_=>false
def KN (s:St) (p:Pl):Option (CV×Nat×Nat):=
 match p.sub with
 |some (i,j)=>match aW s p 1 with
  |some [⟨.dl es,.own,l⟩]=>some (⟨.dl es,.own,l⟩,i,j)
  |_=>none
 |none=>none
def FT (c:CV) (i j n:Nat):Dyn (List CV):=
 match c with
 |⟨.dl es,.own,l⟩=> .idx (rowAt? l i) λ e=>bif Nat.ble (j+n) (mX es e).length then .ret (((mX es e).drop j).take n)else .fail
 |_=> .fail
def moveRow (c:CV) (i:Nat):Option CV:=
 match c with
 |⟨.dl es,.own,l⟩=>some ⟨.dl es,.own,List.set l i none⟩
 |_=>none
def yK (s:St) (n:Nat):List (CV×Nat):=match s.bx n with|some b=>b.cells|none=>[]
def II (fresh:Bool):Nat->List CV->List (CV×Nat)->List (Nat×CV×Nat)
 |j,d::ds,(_,v)::old=>(j,d,bif fresh then v+1 else v)::II fresh (j+1) ds old
 |_,_,_=>[]
def KY (s:St) (p:Pl) (ds:List CV) (fresh:Bool) (us:List Upd):List Upd:=match p.root with
 | .box n=>[.cl n (II fresh p.cell ds ((yK s n).drop p.cell))]
 | .tmp _=>us
def KG (s:St) (p:Pl) (ds:List CV):Dyn (List Upd):=
 match p.sub with
 |none=>match aW s p ds.length with
  |some old=>bif EU ds old then Dyn.of ((jB s p ds true).map (KY s p ds true))else .fail
  |none=> .fail
 |some (i,j)=>match aW s p 1 with
  |some [c]=>(xW c i).bind λ cs=>bif Nat.ble (j+ds.length) cs.length&&Cb ds then
   match DX c i (setCells cs j ds)with
   |some c'=>Dyn.of (jB s p [c'] false)
   |none=> .fail
   else .fail
  |_=> .fail
def xg (c:CV) (lo hi:Nat):Option CV:=
 match c with
 |⟨.sl es,tg,l⟩=>match tg with| .dead=>none|tg=>some ⟨.sl es,tg,List.drop lo (List.take hi l)⟩
 |⟨.rsl ss,tg,l⟩=>match tg with| .dead=>none|tg=>some ⟨.rsl ss,tg,List.drop lo (List.take hi l)⟩
 |_=>none
def Aq (s:St) (p:Pl) (cs:List CV):Option (List Upd):=
 bif bD cs then some []else match p.sub with|none=>(jB s p (cs.map CV.left) false).map (KY s p (cs.map CV.left) false)|_=>none
def BA (E:Env) (s:St) (x:Operand) (exp:List Sh):Dyn (Bool×List CV×List Upd):=
 match at_ E s x with
 | .val ag cs=>bif bD cs then .ret (ag,cs,[])else match x with
   | .tmp n=> .ret (ag,cs,[.keep n (.val ag (cs.map CV.left))])
   |_=> .fail
 | .ref p ag n=>(content s p n).bind λ cs=>match Aq s p cs with
   |some us=> .ret (ag,cs,us)
   |none=> .fail
 | .rsub p z lo hi=>(content s p 1).bind λ cs=>match cs with
   | [c]=>match xg c lo hi,Aq s p [c]with
     |some d,some us=> .ret (false,[bif z&&d.tg.Ep then d else d.to .pure],us)
     |_,_=> .fail
   |_=> .fail
 | .nilc=>match exp with| [sh]=>bif sh.pF then .ret (false,[H8 sh],[])else .fail|_=> .fail
 | .rowr p ag n=>match KN s p with
   |some (c,i,j)=>(FT c i j n).bind λ cs=>match moveRow c i with
    |some c'=>match jB s p [c'] false with
     |some us=> .ret (ag,cs,us)
     |none=> .fail
    |none=> .fail
   |none=> .fail
 |_=> .fail
def aft (c:CV) (sh:Sh):Dyn CV:=
 match c with
 |⟨.dl es,.own,l⟩=>match sh with
  | .sl _=> .idx (qX l) λ l'=> .ret ⟨.sl es,.own,l'⟩
  |_=> .ret ⟨.dl es,.own,l⟩
 |c=> .ret c
def thaw:List CV->List Sh->Dyn (List CV)
 |c::cs,sh::shs=>(aft c sh).bind λ d=>(thaw cs shs).bind λ ds=> .ret (d::ds)
 |cs,_=> .ret cs
def Hz (E:Env) (s:St) (x:Operand):Dyn (List CV):=
 match at_ E s x with
 | .val false cs=> .ret cs
 | .ref p false n=>content s p n
 | .rsub p _ lo hi=>(content s p 1).bind λ cs=>match cs with
   | [c]=>Dyn.of ((xg c lo hi).map λ d=>[d])
   |_=> .fail
 |_=> .fail
def qU (E:Env) (s:St) (x:Operand):Option (IntKind×Int):=
 match at_ E s x with
 | .val false [⟨.int k,.pure,n⟩]=>some (k,n)
 |_=>none
def uT (E:Env) (s:St) (x:Operand):Option Bool:=
 match at_ E s x with
 | .val false [⟨.bool,.pure,b⟩]=>some b
 |_=>none
def L6 (k:IntKind) (n:Int):T:= .val false [⟨.int k,.pure,n⟩]
def Xu (b:Bool):T:= .val false [⟨.bool,.pure,b⟩]
def aiu (b:ByteArray):T:= .val false [⟨.str,.pure,b⟩]
def intCmp (op:BinOp) (a b:Int):Option Bool:=
 match op with
 | .eql=>some (decide (a=b))| .neq=>some (!decide (a=b))| .lss=>some (decide (a<b))
 | .leq=>some (decide (a<=b))| .gtr=>some (decide (b<a))| .geq=>some (decide (b<=a))
 |_=>none
def ahr (op:BinOp) (k:IntKind) (a b:Int):Dyn T:=
 match op with
 | .add=> .ret (L6 k (k.wrap (a+b)))
 | .sub=> .ret (L6 k (k.wrap (a-b)))
 | .mul=> .ret (L6 k (k.wrap (a*b)))
 | .and=> .ret (L6 k (bits .and k a b))
 | .or=> .ret (L6 k (bits .or k a b))
 | .xor=> .ret (L6 k (bits .xor k a b))
 | .andNot=> .ret (L6 k (bits .andNot k a b))
 | .quo=> .chk (!decide (b=0)) (.ret (L6 k (k.wrap (a.tdiv b))))
 | .rem=> .chk (!decide (b=0)) (.ret (L6 k (a.tmod b)))
 |op=>match intCmp op a b with
  |some c=> .ret (Xu c)
  |none=> .fail
def aiA (op:BinOp) (a b:Bool):Dyn T:=
 match op with
 | .eql=> .ret (Xu (a==b))
 | .neq=> .ret (Xu (!(a==b)))
 |_=> .fail
def afT (op:BinOp) (k:IntKind) (a b:Int):Dyn T:=
 match op with
 | .shl=> .chk (decide (0<=b)&&decide (b<=k.bits)) (.ret (L6 k (k.wrap (a*2^b.toNat))))
 | .shr=> .chk (decide (0<=b)&&decide (b<=k.bits)) (.ret (L6 k (a/2^b.toNat)))
 |_=> .fail
def DN:BinOp->Bool| .shl=>true| .shr=>true|_=>false
def aiB (op:BinOp) (isB:Bool) (x y:T):Dyn T:=
 match x,y with
 | .val false [⟨.int k,.pure,a⟩],.val false [⟨.int k',.pure,b⟩]=>bif DN op then afT op k a b else bif decide (k=k')then ahr op k a b else .fail
 | .val false [⟨.bool,.pure,a⟩],.val false [⟨.bool,.pure,b⟩]=>bif isB then aiA op a b else .fail
 |_,_=> .fail
def og {α β:Type} (q:α->α->Bool) (x:α):List (α×β)->Option β
 | []=>none
 |p::l=>bif q x p.1 then some p.2 else og q x l
def E5 {α β:Type} (q:α->α->Bool) (x:α) (y:β):List (α×β)->List (α×β)
 | []=>[(x,y)]
 |p::l=>bif q x p.1 then(x,y)::l else p::E5 q x y l
def VB {α:Type} (l:Option (List α)):Nat:=match l with|some l=>List.length l|none=>0
def l9 {α:Type} (l:Option (List α)):List α:=match l with|some l=>l|none=>[]
def keq:(s:Sh)->El s->El s->Bool
 | .int _,a,b=> @decide (@Eq Int a b) (Int.instDecidableEq a b)
 | .bool,a,b=> @BEq.beq Bool _ a b
 | .str,a,b=> @decide (@Eq ByteArray a b) ((inferInstance:DecidableEq ByteArray) a b)
 |_,_,_=>false
def ieq (a b:Int):Bool:=decide (a=b)
def afR (a b:Bool):Bool:=a==b
def seq (a b:ByteArray):Bool:=decide (a=b)
def wo (l:List Int):ByteArray:=⟨(l.map λ n=>UInt8.ofNat n.toNat).toArray⟩
def lenOf (c:CV):Option Nat:=
 match c with
 |⟨.sl _,.dead,_⟩=>none
 |⟨.rsl _,.dead,_⟩=>none
 |⟨.sl _,_,l⟩=>some (List.length l)
 |⟨.rsl _,_,l⟩=>some (List.length l)
 |⟨.dl _,.own,l⟩=>some (List.length l)
 |⟨.str,.pure,b⟩=>some (ByteArray.size b)
 |⟨.mp _ _,.own,l⟩=>some (VB l)
 |_=>none
def au:Nat:=2^40
def ahj (c d:CV):Dyn CV:=
 match c,d with
 |⟨.sl es,tg,l⟩,⟨.sl es',tg',m⟩=>
  bif (match tg with| .tip=>true| .own=>true|_=>false)&&Tg.le .pure tg' then
  match jD ⟨.sl es',.pure,m⟩ (.sl es)with
  |some m=> .chk (decide (List.length l+List.length m<=au)) (.ret ⟨.sl es,tg,List.append l m⟩)
  |none=> .fail
  else .fail
 |⟨.rsl ss,tg,l⟩,⟨.rsl ss',tg',m⟩=>
  bif (match tg with| .tip=>true| .own=>true|_=>false)&&Tg.le .pure tg' then
  match jD ⟨.rsl ss',.pure,m⟩ (.rsl ss)with
  |some m=> .chk (decide (List.length l+List.length m<=au)) (.ret ⟨.rsl ss,tg,List.append l m⟩)
  |none=> .fail
  else .fail
 |_,_=> .fail
def tH (E:Env) (fields:List (Nat×Nat)) (cells:List Sh):List (Nat×Operand)->St->List CV->List Upd->Dyn (List CV×List Upd)
 | [],_,cs,us=> .ret (cs,us)
 |(i,x)::ps,s,cs,us=>match fields[i]? with
  |none=> .fail
  |some (off,n)=>(BA E s x ((cells.drop off).take n)).bind λ(_,ds,vs)=>
   bif Nat.beq ds.length n&&EU ds ((cs.drop off).take n)then tH E fields cells ps (s.dM vs) (setCells cs off ds) (us++vs)else .fail
def JH (es:List Sh):List (List CV)->Option (List (ElA es))
 | []=>some []
 |r::rs=>bif Cb r then match fZ es r,JH es rs with
  |some e,some l=>some (e::l)
  |_,_=>none else none
def OO (ss:List Sh):List (List CV)->Option (List (RT (ElA ss)))
 | []=>some []
 |r::rs=>bif Cb r then match vO ss r,OO ss rs with
  |some e,some l=>some (e::l)
  |_,_=>none else none
def Uw (s:St) (d:Nat) (cs:List CV):List Upd:=
 let i:=(match s.bx d with|some b=>b.inst|none=>0)+1
 [.bx d ⟨i,cs.map λ c=>(c,0)⟩,.tm d (.addr ⟨.box d,i,[],0,none⟩)]
def weaken (cs:List CV) (want:List (Sh×Tg)):Option (List CV):=
 match cs,want with
 | [],[]=>some []
 |c::cs,(sh,tg)::want=>bif Sh.beq c.sh sh&&Tg.le tg c.tg&&sh.ZL tg then(weaken cs want).map (c.to tg:: ·)else none
 |_,_=>none
def leftAs (c:CV) (tg:Tg):CV:=
 match tg with
 | .pure=>match c.tg with
   | .own=>c.to .tip
   |_=>c
 | .dead=>c
 |_=>c.kill
def gW:List CV->List (Sh×Tg)->List CV
 |c::cs,(_,tg)::want=>(bif c.isPure then c else leftAs c tg)::gW cs want
 |_,_=>[]
def Ji (s:St) (p:Pl) (cs:List CV) (want:List (Sh×Tg)):Dyn (List CV×List Upd):=
 match weaken cs want with
 |none=> .fail
 |some ds=>bif bD cs then .ret (ds,[])else match p.sub with
  |none=>match jB s p (gW cs want) false with
   |some us=> .ret (ds,KY s p (gW cs want) false us)
   |none=> .fail
  |_=> .fail
def adb (want:List (Sh×Tg)):Dyn (List CV):=
 match want with
 | [(sh,tg)]=>bif sh.oW then .ret [(H8 sh).to tg]else .fail
 |_=> .fail
def Jj (s:St) (t:T) (x:Operand) (ag0:Bool) (want:List (Sh×Tg)):Dyn (List CV×List Upd):=
 match t with
 | .val ag cs=>bif ag==ag0 then match weaken cs want with
   |none=> .fail
   |some ds=>bif bD cs then .ret (ds,[])else match x with
    | .tmp n=> .ret (ds,[.keep n (.val ag (gW cs want))])
    |_=> .fail else .fail
 | .ref p ag n=>bif ag==ag0 then(content s p n).bind λ cs=>Ji s p cs want else .fail
 | .rsub p _ lo hi=>bif ag0 then .fail else(content s p 1).bind λ cs=>match cs with
   | [c]=>match xg c lo hi with
     |none=> .fail
     |some d=>match weaken [d] want with
      |none=> .fail
      |some ds=>bif bD ds then match p.sub with
       |none=>match jB s p (gW [c] want) false with
        |some us=> .ret (ds,us)
        |none=> .fail
       |_=> .fail else .fail
   |_=> .fail
 | .nilc=>bif ag0 then .fail else(adb want).bind λ ds=> .ret (ds,[])
 | .rowr p ag n=>bif ag||ag0 then .fail else match KN s p with
   |some (c,i,j)=>(FT c i j n).bind λ cs=>match cs,want,moveRow c i with
    | [e],[(sh,tg)],some c'=>match weaken [e] [(sh,tg)],jB s p [c'] false with
      |some ds,some us=> .ret (ds,us)
      |_,_=> .fail
    |_,_,_=> .fail
   |none=> .fail
 | .ext p q c=>match want,x with
   | [(sh,.own)],.tmp n=>bif !ag0&&Sh.beq c.sh sh&&c.tg.Ep then .ret ([c],[.keep n (.ext p q c.kill)])else .fail
   |_,_=> .fail
 |_=> .fail
def wW (E:Env) (ag:Bool) (want:List (Sh×Tg)):List (Nat×Operand)->Nat->St->List (List CV)->List Upd->Dyn (List (List CV)×List Upd)
 | [],_,_,rows,us=> .ret (rows.reverse,us)
 |(i,x)::ps,k,s,rows,us=>bif Nat.beq i k then
  (Jj s (at_ E s x) x ag want).bind λ r=>wW E ag want ps (k+1) (s.dM r.2) (r.1::rows) (us++r.2)
  else .fail
def pX (want:List (Sh×Tg)):Bool:=want.any λ x=>match x.2 with| .dead=>true|_=>false
def iC (e:Nat):Nat->List CV->List (CV×Nat)->List (Sh×Tg)->List (Nat×CV×Nat)
 |j,c::cs,(_,v)::old,(_,tg)::want=>match tg with
  | .dead=>iC e (j+1) cs old want
  |_=>(j,c,v+e)::iC e (j+1) cs old want
 |_,_,_,_=>[]
def aiz (E:Env) (t:TypeId):Bool:=match E.ty t with|some i=>i.ag|none=>false
def Yh (t:T) (want:List (Sh×Tg)):Dyn (List CV):=
 match t with
 | .paddr cs off=>bif Nat.ble (off+want.length) cs.length then match weaken ((cs.drop off).take want.length) want with
   |some ds=>bif bD ds then .ret ds else .fail
   |none=> .fail else .fail
 |_=> .fail
def agE (n:Nat) (bs:List (Option Nat)):Bool:=bs.all λ b=>match b with|some m=> !(Nat.beq n m)|none=>true
def Qw (s:St) (bs:List (Option Nat)) (pk:PK) (t:T) (x:Operand):Dyn (List CV×List Upd×Option Nat):=
 match pk with
 | .val ag want=>(Jj s t x ag want).bind λ r=> .ret (r.1,r.2,none)
 | .rptr want=>(Yh t want).bind λ ds=> .ret (ds,[],none)
 | .ptr want=>match t with
   | .addr p=>match p.root,p.sub,aW s p want.length with
     | .box n,none,some cs=>bif Nat.beq p.cell 0&&agE n bs&&(match s.bx n with|some b=>Nat.beq b.cells.length want.length|none=>false)then
       match weaken cs want,jB s p (gW cs want) false with
        |some ds,some us=> .ret (ds,bif pX want then[.cl n (iC 0 0 (gW cs want) (yK s n) want)]else us,some n)
        |_,_=> .fail
       else .fail
     |_,_,_=> .fail
   |_=> .fail
 | .fn f=>match t with
   | .fn g=>bif Nat.beq f g then .ret ([],[],none)else .fail
   |_=> .fail
 | .io want=>(Jj s t x false want).bind λ r=> .ret (r.1,r.2,none)
 | .clo _ _=> .fail
def vN (E:Env):List PK->List Operand->List (Option Nat)->St->List CV->List Upd->Dyn (List CV×List Upd×List (Option Nat))
 | [],[],bs,_,cs,us=> .ret (cs,us,bs)
 |p::ps,x::xs,bs,s,cs,us=>(Qw s bs p (at_ E s x) x).bind λ r=>vN E ps xs (bs++[r.2.2]) (s.dM r.2.1) (cs++r.1) (us++r.2.1)
 |_,_,_,_,_,_=> .fail
def UJ (cs:List CV) (want:List (Sh×Tg)):Dyn (List CV):=
 (thaw cs (want.map (·.1))).bind λ cs=>match weaken cs want with
  |some ds=>bif bD ds then .ret ds else .fail
  |none=> .fail
def QU (s:St) (t:T) (want:List (Sh×Tg)):Dyn (List CV):=
 match t with
 | .addr p=>match p.sub with
   |none=>(content s p want.length).bind λ cs=>UJ cs want
   |_=> .fail
 |t=>Yh t want
def WU (E:Env) (s:St) (pk:PK) (x:Operand):Dyn (List CV):=
 match pk with
 | .val ag0 want=>match at_ E s x with
   | .val ag cs=>bif ag==ag0 then UJ cs want else .fail
   | .ref p ag n=>bif ag==ag0 then(content s p n).bind λ cs=>UJ cs want else .fail
   | .rsub p _ lo hi=>bif ag0 then .fail else(content s p 1).bind λ cs=>match cs with
     | [c]=>match xg c lo hi with
       |some d=>UJ [d] want
       |none=> .fail
     |_=> .fail
   | .nilc=>bif ag0 then .fail else(adb want).bind λ ds=>bif bD ds then .ret ds else .fail
   |_=> .fail
 | .rptr want=>QU s (at_ E s x) want
 | .ptr _=> .fail
 | .io _=> .fail
 | .fn f=>match at_ E s x with
   | .fn g=>bif Nat.beq f g then .ret []else .fail
   |_=> .fail
 | .clo f want=>match at_ E s x with
   | .clo g [t]=>bif Nat.beq f g then QU s t want else .fail
   |_=> .fail
def xH (E:Env) (s:St):List PK->List Operand->List T->Dyn (List CV)
 | [],[],[]=> .ret []
 |p::ps,x::xs,ts=>(WU E s p x).bind λ ds=>(xH E s ps xs ts).bind λ es=> .ret (ds++es)
 | .rptr want::ps,[],t::ts=>(QU s t want).bind λ ds=>(xH E s ps [] ts).bind λ es=> .ret (ds++es)
 |_,_,_=> .fail
def resT:List (Bool×List (Sh×Tg))->List CV->List (Bool×List CV)×List CV
 | [],cs=>([],cs)
 |(ag,want)::rs,cs=>let(ts,rest):=resT rs (cs.drop want.length); ((ag,cs.take want.length)::ts,rest)
def nP (s:St):List PK->List (Option Nat)->List CV->Option (List Upd)
 | [],[],_=>some []
 | .ptr want::ps,some n::bs,cs=>match s.bx n,nP s ps bs (cs.drop want.length)with
   |some b,some us=>bif Nat.beq (cs.take want.length).length b.cells.length&&Nat.beq b.cells.length want.length then some ((bif pX want then .cl n (iC 1 0 (cs.take want.length) b.cells want)else .bx n ⟨b.inst,((cs.take want.length).zip b.cells).map λ x=>(x.1,x.2.2+1)⟩)::us)else none
   |_,_=>none
 | .ptr _::_,_,_=>none
 | .io want::ps,none::bs,cs=>nP s ps bs (cs.drop want.length)
 |_::ps,none::bs,cs=>nP s ps bs cs
 |_,_,_=>none
def XB:List PK->List Operand->List CV->List (Operand×List CV)
 | .io want::ps,x::xs,cs=>(x,cs.take want.length)::XB ps xs (cs.drop want.length)
 | .ptr want::ps,_::xs,cs=>XB ps xs (cs.drop want.length)
 |_::ps,_::xs,cs=>XB ps xs cs
 |_,_,_=>[]
def pre (m l:List Int):Bool:=decide (List.take (List.length m) l=m)
def Zx (c q:CV):Bool:=
 match c,q with
 |⟨.sl [.int _],_,l⟩,⟨.sl [.int _],_,m⟩=>pre m l
 |_,_=>false
def UK (E:Env) (s:St) (d:Nat) (x:Operand) (c:CV):Dyn (List Upd):=
 match at_ E s x with
 | .nilc=> .ret []
 | .val false [q]=>match x with
   | .tmp n=>bif Sh.beq c.sh q.sh&&c.sh.oW then .ret [.keep n (.val false [c])]else .fail
   |_=> .fail
 | .ref p false 1=>match p.sub,aW s p 1 with
   |none,some [q]=>bif Sh.beq c.sh q.sh&&c.sh.oW then Dyn.of (jB s p [c] false)else .fail
   |_,_=> .fail
 | .rowr p false 1=>match KN s p with
   |some (⟨.dl [sh],.own,l⟩,i,j)=>bif Nat.beq j 0&&sh.oW&&c.tg.Ep then match jD c sh with
    |some y=>Dyn.of (jB s p [⟨.dl [sh],.own,List.set l i (some y)⟩] false)
    |none=> .fail
    else .fail
   |_=> .fail
 | .ext p q _=>match x,p.sub,aW s p 1 with
   | .tmp n,none,some [e]=>bif Sh.beq e.sh q.sh&&Sh.beq c.sh q.sh&&c.tg.Ep&& !(Nat.beq n d)then match jB s p [q] false with
    |some us=> .chk (Zx c q) (.ret (.keep n .dead::us))
    |none=> .fail
     else .fail
   |_,_,_=> .fail
 |_=> .fail
def Xb (E:Env) (s:St) (d:Nat):List (Operand×List CV)->Dyn (List Upd)
 | []=> .ret []
 | [(x,[c])]=>UK E s d x c
 |_=> .fail
def retag:List (Sh×Tg)->List CV->List CV
 |(_,tg)::gs,c::cs=>c.to tg::retag gs cs
 |_,_=>[]
def aiM:List (Bool×List CV)->T| [(ag,cs)]=> .val ag cs|ts=> .tup ts
def agL (d:Nat) (ts:List (Bool×List CV)):List Upd:=[.tm d (aiM ts)]
def noT (ts:List T):Bool:=match ts with| []=>true|_=>false
def KJ (E:Env) (s:St) (d:Nat) (xs:List Operand) (ts:List T) (i:Nat):Dyn (List Upd):=
 bif (E.sig i).scalar then
  (xH E s (E.sig i).params xs ts).bind λ cs=>match fZ ((E.sig i).ins.map (·.1)) cs with
   |none=> .fail
   |some a=> .idx (E.call i a) λ r=> .ret (agL d (resT (E.sig i).res (retag (E.sig i).outs (cellsOf ((E.sig i).outs.map (·.1)) r))).1)
 else bif !(noT ts)then .fail else
  (vN E (E.sig i).params xs [] s [] []).bind λ p=>match fZ ((E.sig i).ins.map (·.1)) p.1 with
   |none=> .fail
   |some a=> .idx (E.call i a) λ r=>
    match resT (E.sig i).res (retag (E.sig i).outs (cellsOf ((E.sig i).outs.map (·.1)) r))with
    |(ts,rest)=>match nP (s.dM p.2.1) (E.sig i).params p.2.2 rest with
     |none=> .fail
     |some us=>(Xb E ((s.dM p.2.1).dM us) d (XB (E.sig i).params xs rest)).bind λ vs=> .ret (p.2.1++us++vs++agL d ts)
def fV (E:Env) (t:TypeId):List Sh:=match E.ty t with|some i=>i.cells|none=>[]
def LG (E:Env) (s:St) (x:Operand) (exp:List Sh):Option T:=
 match at_ E s x with
 | .val ag cs=>bif bD cs then some (.val ag cs)else match x with
   | .tmp n=>let v:=(s.tm n).2
     some (.ref ⟨.tmp n,v,cs.map λ _=>v,0,none⟩ ag cs.length)
   |_=>none
 | .nilc=>match exp with| [sh]=>bif sh.pF then some (.val false [H8 sh])else none|_=>none
 | .tup _=>none
 | .dead=>none
 | .undef=>none
 | .ext _ _ _=>none
 |t=>some t
def Mc (p:Pl) (off:Nat):Pl:=
 match p.sub with
 |none=>{p with cell:=p.cell+off,vers:=[]}
 |some (i,j)=>{p with sub:=some (i,j+off)}
def XF (E:Env) (d:Nat):Bool:=Nat.beq (E.spec d) 2
def intTy (E:Env) (t:TypeId):Option IntKind:=match E.ty t with|some ⟨false,[.int k],_,_,_⟩=>some k|_=>none
def LY (E:Env) (t:TypeId):Bool:=match E.ty t with|some ⟨false,[.str],_,_,_⟩=>true|_=>false
def D5 (E:Env) (t:TypeId) (c:CV):Bool:=match E.ty t with|some ⟨false,[sh],_,_,some _⟩=>sh.pF&&Sh.beq sh c.sh.base|_=>false
def QL (E:Env) (s:St) (t:TypeId) (x:Operand) (i:Int):Dyn T:=
 match at_ E s x with
 | .val false [c]=>bif !D5 E t c then .fail else
   match c.tg with
   | .own=>match x with
     | .tmp n=>match lenOf c with
       |some l=> .chk (decide (0<=i)&&decide (i<l)) (.ret (.addr ⟨.tmp n,(s.tm n).2,[(s.tm n).2],0,some (i.toNat,0)⟩))
       |none=> .fail
     |_=> .fail
   | .dead=> .fail
   |_=>(elemAt c i).bind λ cs=> .ret (.paddr cs 0)
 | .ref p false n=>(content s p n).bind λ cs=>match cs with
   | [c]=>bif !D5 E t c then .fail else match c.tg with
     | .own=>match p.sub,lenOf c with
       |none,some l=> .chk (decide (0<=i)&&decide (i<l)) (.ret (.addr {p with sub:=some (i.toNat,0)}))
       |_,_=> .fail
     | .dead=> .fail
     |_=>(elemAt c i).bind λ cs=> .ret (.paddr cs 0)
   |_=> .fail
 | .rsub p _ lo hi=>(content s p 1).bind λ cs=>match cs with
   | [c]=>bif !D5 E t c then .fail else match c.tg with
     | .own=>match p.sub with
       |none=> .chk (decide (0<=i)&&decide (i<((hi-lo:Nat):Int))) (.ret (.addr {p with sub:=some (lo+i.toNat,0)}))
       |_=> .fail
     |_=> .fail
   |_=> .fail
 | .rowr p false n=>match KN s p with
   |some (c,r,j)=>(FT c r j n).bind λ cs=>match cs with
    | [e]=>bif D5 E t e&&e.tg.Ep then match lenOf e with
      |some l=> .chk (decide (0<=i)&&decide (i<l)) (.ret (.addr2 p i.toNat 0))
      |none=> .fail
      else .fail
    |_=> .fail
   |none=> .fail
 |_=> .fail
def XR (b:ByteArray) (i:Int):Option Int:=bif decide (0<=i)then(b[i.toNat]?).map λ c=>(c.toNat:Int)else none
def sliceT (E:Env) (s:St) (t:TypeId) (x:Operand) (lo hi:Option Int):Dyn T:=
 let pureSub (c:CV):Dyn T:=bif !D5 E t c then .fail else match lenOf c with
  |some l=> .chk (decide (0<=lo.getD 0)&&decide (lo.getD 0<=hi.getD l)&&decide (hi.getD l<=l))
   (match xg c (lo.getD 0).toNat (hi.getD l).toNat with|some d=> .ret (.val false [d.to .pure])|none=> .fail)
  |none=> .fail
 match at_ E s x with
 | .val false [⟨.str,.pure,b⟩]=>bif !LY E t then .fail else .chk (decide (0<=lo.getD 0)&&decide (lo.getD 0<=hi.getD (ByteArray.size b:Nat))&&decide (hi.getD (ByteArray.size b:Nat)<=(ByteArray.size b:Nat)))
  (.ret (aiu (ByteArray.extract b (lo.getD 0).toNat (hi.getD (ByteArray.size b:Nat)).toNat)))
 | .val false [c]=>match c.tg with
   | .pure=>pureSub c
   |_=> .fail
 | .ref p false 1=>(content s p 1).bind λ cs=>match cs with
   | [c]=>match c.tg with
     | .dead=> .fail
     | .own=>bif !D5 E t c then .fail else match lenOf c with
       |some l=> .chk (decide (0<=lo.getD 0)&&decide (lo.getD 0<=hi.getD l)&&decide (hi.getD l<=l)) (.ret (.rsub p lo.isNone (lo.getD 0).toNat (hi.getD l).toNat))
       |none=> .fail
     |_=>pureSub c
   |_=> .fail
 |_=> .fail
def JI (E:Env) (s:St):Option Operand->Option (Option Int)
 |none=>some none
 |some x=>match qU E s x with|some (_,n)=>some (some n)|none=>none
def sK (c d:CV) (lo n:Nat):Option CV:=
 match c,d with
 |⟨.sl es,.own,l⟩,⟨.sl es',tg,m⟩=>
  bif Tg.le .pure tg then match jD ⟨.sl es',.pure,m⟩ (.sl es)with
  |some m=>some ⟨.sl es,.own,List.append (List.append (List.take lo l) (List.take n m)) (List.drop (lo+n) l)⟩
  |none=>none else none
 |⟨.rsl ss,.own,l⟩,⟨.rsl ss',tg,m⟩=>
  bif Tg.le .pure tg then match jD ⟨.rsl ss',.pure,m⟩ (.rsl ss)with
  |some m=>some ⟨.rsl ss,.own,List.append (List.append (List.take lo l) (List.take n m)) (List.drop (lo+n) l)⟩
  |none=>none else none
 |_,_=>none
def wH (E:Env) (s:St) (d:Nat) (t u:TypeId) (e:CV) (p:Pl) (lo:Nat) (hi:Option Nat):Dyn (List Upd):=
 match p.sub with
 |some _=> .fail
 |none=>(content s p 1).bind λ cs=>match cs with
  | [q]=>bif D5 E t q&&D5 E u e then match lenOf q,lenOf e with
    |some l,some m=>match sK q e lo (Nat.min m (hi.getD l-lo))with
     |some r=>match jB s p [r] false with
      |some us=> .ret (us++[.tm d (L6 .i64 (Nat.min m (hi.getD l-lo):Nat))])
      |none=> .fail
     |none=> .fail
    |_,_=> .fail
    else .fail
  |_=> .fail
def adR (c:CV) (lo hi:Nat):Option CV:=
 match c with
 |⟨.sl es,.own,l⟩=>match fZ es (es.map λ s=>⟨s,.pure,kM s⟩)with
  |some e=>some ⟨.sl es,.own,List.append (List.append (List.take lo l) (List.replicate (hi-lo) e)) (List.drop hi l)⟩
  |none=>none
 |_=>none
def MF (E:Env) (s:St) (t:TypeId) (x:Operand):Dyn (List Upd):=
 match at_ E s x with
 | .rsub p _ lo hi=>match p.sub with
   |some _=> .fail
   |none=>(content s p 1).bind λ cs=>match cs with
    | [q]=>bif D5 E t q then match adR q lo hi with
      |some r=>Dyn.of (jB s p [r] false)
      |none=> .fail
      else .fail
    |_=> .fail
 |_=> .fail
def aeG (sh:Sh) (n:Nat):Option CV:=
 match sh with
 | .sl es=>match fZ es (es.map λ s=>⟨s,.pure,kM s⟩)with
   |some e=>some ⟨.sl es,.own,List.replicate n e⟩
   |none=>none
 | .rsl ss=>match vO ss ((ss++[Sh.rsl ss]).map λ s=>⟨s,.pure,kM s⟩)with
   |some e=>some ⟨.rsl ss,.own,List.replicate n e⟩
   |none=>none
 |_=>none
def agA (sh:Sh) (n:Nat):Option CV:=
 match sh with
 | .sl [e]=>bif e.oW then some ⟨.dl [e],.own,List.replicate n (some (kM e))⟩else none
 |_=>none
def VA (b:Builtin) (x y:Int):Option Int:=match b with| .min=>some (min x y)| .max=>some (max x y)|_=>none
def Rn (E:Env) (s s':St) (y:Operand) (exp:List Sh):Dyn (List CV):=
 match at_ E s y,exp with
 | .nilc,[sh]=>bif sh.pF then .ret [H8 sh]else .fail
 |_,_=>Hz E s' y
def boolTy (E:Env) (t:TypeId):Bool:=match E.ty t with|some i=> !i.ag&&Sh.Ia i.cells [.bool]|none=>false
def Z7 (E:Env) (s:St):List Operand->Option (List T)
 | []=>some []
 |x::xs=>match at_ E s x,Z7 E s xs with
  | .addr p,some ts=>some (.addr p::ts)
  | .paddr cs off,some ts=>some (.paddr cs off::ts)
  |_,_=>none
def rD (E:Env) (d:Nat):Bool:=Nat.beq (E.spec d) 1
def ahv (E:Env) (d:Nat):Bool:=Nat.beq (E.spec d) 3
def Ye:Sh->Bool| .sl [.int _]=>true|_=>false
def afX (E:Env) (s:St) (x:Operand) (d:Nat) (q r:CV):Dyn (List Upd):=
 match at_ E s x with
 | .ref p false 1=>match p.sub with
   |none=>bif q.tg.Ep&&Ye q.sh then .ret [.tm d (.ext p q r)]else .fail
   |some _=> .fail
 |_=> .fail
def ag5 (c:CV) (i j:Nat) (row:List CV) (e:CV):Option CV:=
 match c with
 |⟨.dl es,.own,l⟩=>match fZ es (setCells row j [e])with
  |some x=>some ⟨.dl es,.own,List.set l i (some x)⟩
  |none=>none
 |_=>none
def Nw (s:St) (p:Pl) (k q:Nat) (ds:List CV):Dyn (List Upd):=
 match KN s p with
 |some (c,i,j)=>match c with
  |⟨.dl es,.own,l⟩=> .idx (rowAt? l i) λ x=>match(mX es x)[j]? with
   |some e=>(xW e k).bind λ rs=>bif Nat.ble (q+ds.length) rs.length&&bD ds then
    match DX e k (setCells rs q ds)with
    |some e'=>match ag5 ⟨.dl es,.own,l⟩ i j (mX es x) e' with
     |some c'=>Dyn.of (jB s p [c'] false)
     |none=> .fail
    |none=> .fail
    else .fail
   |none=> .fail
  |_=> .fail
 |none=> .fail
def Nc (s:St) (p:Pl) (c:CV) (i j:Nat) (ds:List CV):Dyn (List Upd):=
 match c,ds with
 |⟨.dl [sh],.own,l⟩,[⟨sh',.own,x⟩]=>bif Nat.beq j 0&&sh.oW then match jD ⟨sh',.own,x⟩ sh with
  |some y=>match p.root with
   | .tmp n=>match(s.tm n).1 with
     | .val false [_]=>bif Nat.beq p.cell 0 then .ret [.tm n (.val false [⟨.dl [sh],.own,List.set l i (some y)⟩])]else .fail
     |_=> .fail
   | .box _=> .fail
  |none=> .fail
  else .fail
 |_,_=> .fail
def CZ (E:Env) (s:St) (x:Operand) (sh:Sh):Option (El sh):=
 match at_ E s x with
 | .val false [⟨sh',.pure,y⟩]=>jD ⟨sh',.pure,y⟩ sh
 |_=>none
def aeL (E:Env) (t:TypeId) (k e:Sh):Bool:=match E.ty t with|some ⟨false,[.mp k' e'],_,[_,_],none⟩=>Sh.beq k k'&&Sh.beq e e'&&k.scalar&&e.scalar|_=>false
def agB (E:Env) (t:TypeId):Option CV:=match E.ty t with
 |some ⟨false,[.mp k e],_,[_,_],none⟩=>bif k.scalar&&e.scalar then some ⟨.mp k e,.own,some []⟩else none
 |_=>none
def YJ (E:Env) (s:St) (x:Operand):Option (Pl×CV):=
 match at_ E s x with
 | .ref p false 1=>match p.sub,aW s p 1 with
   |none,some [c]=>some (p,c)
   |_,_=>none
 |_=>none
def YG (E:Env) (s:St) (d:Nat) (t:TypeId) (m x:Operand) (ok:Bool):Dyn (List Upd):=
 match YJ E s m with
 |some (_,⟨.mp k e,.own,l⟩)=>bif aeL E t k e then match CZ E s x k with
  |some y=>bif ok then .ret [.tm d (.tup [(false,[⟨e,.pure,(og (keq k) y (l9 l)).getD (kM e)⟩]),(false,[⟨.bool,.pure,(og (keq k) y (l9 l)).isSome⟩])])]
   else .ret [.tm d (.val false [⟨e,.pure,(og (keq k) y (l9 l)).getD (kM e)⟩])]
  |none=> .fail
  else .fail
 |_=> .fail
def Xc (E:Env) (s:St) (t:TypeId) (m x v:Operand):Dyn (List Upd):=
 match YJ E s m with
 |some (p,⟨.mp k e,.own,l⟩)=>bif aeL E t k e then match CZ E s x k,CZ E s v e with
  |some y,some z=> .idx l λ l=>Dyn.of (jB s p [⟨.mp k e,.own,some (E5 (keq k) y z l)⟩] false)
  |_,_=> .fail
  else .fail
 |_=> .fail
def Vs (x:Operand):Bool:=match x with| .const (.map none)=>true|_=>false
def YO (E:Env) (s:St) (d:Nat) (op:BinOp) (x:Operand):Dyn (List Upd):=
 match op,YJ E s x with
 | .eql,some (_,⟨.mp _ _,.own,l⟩)=> .ret [.tm d (Xu (Option.isNone l))]
 |_,_=> .fail
def ac9 (E:Env) (t:TypeId):Bool:=match E.ty t with|some ⟨false,[.mp _ _],_,[_,_],none⟩=>true|_=>false
def PV (E:Env) (s:St) (d:Nat) (x:Operand):Dyn (List Upd):=
 (Hz E s x).bind λ cs=>match cs with
 | [⟨.sl [.int .u8],tg,l⟩]=>bif Tg.le .pure tg then .ret [.tm d (aiu (wo l))]else .fail
 |_=> .fail
def Z4 (E:Env) (t:TypeId):Bool:=match E.ty t with|some ⟨false,[.sl [.int .u8]],_,_,some e⟩=>(match intTy E e with|some .u8=>true|_=>false)|_=>false
def Ij (s:St) (p:Pl) (n:Nat) (t:List Sh):List Sh:=
 match p.sub with
 |none=>match aW s p n with|some old=>old.map CV.sh|none=>t
 |some _=>t
def plan (E:Env) (o:Oper) (s:St):Dyn (List Upd):=
 match o.op with
 | .store t a x=>match o.dst with
   |none=>(BA E s x (fV E t)).bind λ(_,cs,us)=>match at_ E (s.dM us) a with
    | .addr p=>
      bif Nat.beq cs.length (fV E t).length&&CY cs&&(match E.ty t with|some _=>true|none=>false)then
       match KN (s.dM us) p with
       |some (c,i,j)=>(Nc (s.dM us) p c i j cs).bind λ vs=> .ret (us++vs)
       |none=>(thaw cs (Ij (s.dM us) p cs.length (fV E t))).bind λ cs=>(KG (s.dM us) p cs).bind λ vs=> .ret (us++vs)
      else .fail
    | .addr2 p k j=>
      bif Nat.beq cs.length (fV E t).length&&(match E.ty t with|some _=>true|none=>false)then
       (Nw (s.dM us) p k j cs).bind λ vs=> .ret (us++vs)
      else .fail
    |_=> .fail
   |some _=> .fail
 |op=>match o.dst with
  |none=>match op with
   | .call c=>match c.callee,c.args.toList,c.argTypes.toList with
     | .builtin .clear,[x],[t]=>MF E s t x
     |_,_,_=> .fail
   | .mapUpdate t m x v=>Xc E s t m x v
   |_=> .fail
  |some d=>match op with
   | .move x=>match LG E s x (fV E o.type)with
     |some t=> .ret [.tm d t]
     |none=>match at_ E s x,x with
      | .tup ts,.tmp n=> .ret [.keep n .dead,.tm d (.tup ts)]
      |_,_=> .fail
   | .assign x=>match at_ E s x with
     | .addr p=> .ret [.tm d (.addr p)]
     | .paddr cs off=> .ret [.tm d (.paddr cs off)]
     | .fn f=> .ret [.tm d (.fn f)]
     | .clo f ts=> .ret [.tm d (.clo f ts)]
     | .rsub p z lo hi=>bif XF E d then .ret [.tm d (.rsub p z lo hi)]else
       (BA E s x (fV E o.type)).bind λ(ag,cs,us)=> .ret (us++[.tm d (.val ag cs)])
     | .rowr p ag n=>bif XF E d then .ret [.tm d (.rowr p ag n)]else
       (BA E s x (fV E o.type)).bind λ(ag,cs,us)=> .ret (us++[.tm d (.val ag cs)])
     |_=>(BA E s x (fV E o.type)).bind λ(ag,cs,us)=> .ret (us++[.tm d (.val ag cs)])
   | .pick c a b=>match uT E s c with
     |some v=>match bif v then at_ E s a else at_ E s b with
      | .val ag cs=>bif bD cs then .ret [.tm d (.val ag cs)]else .fail
      |_=> .fail
     |none=> .fail
   | .alloc t=>match E.ty t with|some i=> .ret (Uw s d ((bif rD E d then i.cells.map Sh.deep else i.cells).map H8))|none=> .fail
   | .box t x=>(BA E s x (fV E t)).bind λ(_,cs,us)=>
    bif EU cs ((fV E t).map H8)then .ret (us++Uw (s.dM us) d cs)else .fail
   | .build t parts=>match E.ty t with
     |some i=>(tH E i.fields i.cells parts.toList s ((bif rD E d then i.cells.map Sh.deep else i.cells).map H8) []).bind λ(cs,us)=>bif i.ag then .ret (us++[.tm d (.val true cs)])else .fail
     |none=> .fail
   | .buildSlice t n parts=>match E.ty t with
     |some ⟨_,[sh],_,_,some e⟩=>(wW E (aiz E e) ((fV E e).map λ sh=>(sh,bif rD E d then sh.top else .pure)) parts.toList 0 s [] []).bind λ(rows,us)=>
      bif Nat.beq rows.length n&&Nat.ble 1 (fV E e).length&&Nat.ble (n*(fV E e).length) 16777216 then
       match sh with
       | .sl es=>match JH es rows with
         |some l=>bif rD E d then .ret (us++[.tm d (.val false [⟨.dl es,.own,List.map some l⟩])])else .ret (us++[.tm d (.val false [⟨.sl es,.own,l⟩])])
         |none=> .fail
       | .rsl ss=>match OO ss rows with
         |some l=>bif rD E d then .fail else .ret (us++[.tm d (.val false [⟨.rsl ss,.own,l⟩])])
         |none=> .fail
       |_=> .fail
      else .fail
     |_=> .fail
   | .load t a=>match at_ E s a,E.ty t with
     | .addr p,some i=>match KN s p with
       |some (c,r,j)=>(FT c r j i.cells.length).bind λ cs=>bif bD cs then .ret [.tm d (.val i.ag cs)]else bif rD E d then(match moveRow c r with
        |some c'=>match jB s p [c'] false with
         |some us=> .ret (us++[.tm d (.val i.ag cs)])
         |none=> .fail
        |none=> .fail)else .ret [.tm d (.rowr p i.ag i.cells.length)]
       |none=>(content s p i.cells.length).bind λ cs=>
        bif bD cs then .ret [.tm d (.val i.ag cs)]else match p.sub with
         |none=>bif i.ag||CY cs then .ret [.tm d (.ref {p with vers:=AO s p i.cells.length} i.ag i.cells.length)]else .fail
         |some _=> .fail
     | .paddr cs off,some i=>bif Nat.ble (off+i.cells.length) cs.length then .ret [.tm d (.val i.ag ((cs.drop off).take i.cells.length))]else .fail
     |_,_=> .fail
   | .nilCheck x=>match at_ E s x with
     | .addr p=>bif zy s p then .ret [.tm d (.addr p)]else .fail
     | .paddr cs off=> .ret [.tm d (.paddr cs off)]
     | .fn f=> .ret [.tm d (.fn f)]
     | .clo f ts=> .ret [.tm d (.clo f ts)]
     |_=> .fail
   | .makeInterface t _=>match E.ty t with|some _=> .ret [.tm d .dead]|none=> .fail
   | .makeFunc (.func f) first caps=>match first.toList,Z7 E s caps.toList with
     | [],some ts=> .ret [.tm d (.clo f ts)]
     |_,_=> .fail
   | .binOp op t x y _=>bif Vs y then bif ac9 E t then YO E s d op x else .fail else(aiB op (boolTy E t) (at_ E s x) (at_ E s y)).bind λ t=> .ret [.tm d t]
   | .makeMap t none=>match agB E t with|some c=> .ret [.tm d (.val false [c])]|none=> .fail
   | .lookup t m x ok=>YG E s d t m x ok
   | .unOp op _ x=>match op,at_ E s x with
     | .not,.val false [⟨.bool,.pure,b⟩]=> .ret [.tm d (Xu (!b))]
     | .neg,.val false [⟨.int k,.pure,n⟩]=>(ahr .sub k 0 n).bind λ t=> .ret [.tm d t]
     |_,_=> .fail
   | .convert u t x=>bif Z4 E u&&LY E t then PV E s d x else match at_ E s x,intTy E u,intTy E t with
     | .val false [⟨.int _,.pure,n⟩],some _,some k=> .ret [.tm d (L6 k (k.wrap n))]
     |_,_,_=> .fail
   | .makeSlice t l c=>match E.ty t,qU E s l,qU E s c with
     |some ⟨_,[sh],_,_,some _⟩,some (_,l),some (_,c)=> .chk (decide (0<=l)&&decide (l<=c)&&decide (c<=(au:Nat))) (match(bif rD E d then agA sh l.toNat else aeG sh l.toNat)with
      |some v=> .ret [.tm d (.val false [v])]
      |none=> .fail)
     |_,_,_=> .fail
   | .slice t x lo hi mx=>match mx,JI E s lo,JI E s hi with
     |none,some lo,some hi=>(sliceT E s t x lo hi).bind λ t=> .ret [.tm d t]
     |_,_,_=> .fail
   | .fieldAddr t x f=>match E.ty t with
     |some i=>match i.fields[f]?,at_ E s x with
      |some (off,_),.addr p=>bif i.ag&&zy s p then .ret [.tm d (.addr (Mc p off))]else .fail
      |some (off,_),.paddr cs k=>bif i.ag then .ret [.tm d (.paddr cs (k+off))]else .fail
      |_,_=> .fail
     |none=> .fail
   | .indexAddr t x i=>match qU E s i with
     |some (_,i)=>(QL E s t x i).bind λ t=> .ret [.tm d t]
     |none=> .fail
   | .index t x i=>match at_ E s x,qU E s i,LY E t with
     | .val false [⟨.str,.pure,b⟩],some (_,i),true=> .idx (XR b i) λ c=> .ret [.tm d (L6 .u8 c)]
     |_,_,_=> .fail
   | .field t x f=>match E.ty t with
     |some i=>match i.fields[f]?,i.ftys[f]?,at_ E s x with
      |some (off,n),some ft,.val true cs=>match E.ty ft with
       |some j=>bif i.ag&&bD ((cs.drop off).take n)&&Nat.beq j.cells.length n&&Nat.ble (off+n) cs.length then .ret [.tm d (.val j.ag ((cs.drop off).take n))]else .fail
       |none=> .fail
      |_,_,_=> .fail
     |none=> .fail
   | .extract x i=>match at_ E s x with
     | .tup ts=>match ts[i]? with
       |some (ag,cs)=>bif bD cs then .ret [.tm d (.val ag cs)]else match x with
        | .tmp n=> .ret [.keep n (.tup (ts.set i (ag,cs.map CV.left))),.tm d (.val ag cs)]
        |_=> .fail
       |none=> .fail
     |_=> .fail
   | .call c=>match c.callee,c.args.toList with
     | .builtin .len,[x]=>(Hz E s x).bind λ cs=>match cs,c.argTypes.toList with
       | [e],[t]=>bif D5 E t e||(LY E t&&Sh.beq e.sh .str)||(ac9 E t&&e.sh.Ie)then match lenOf e with
         |some l=> .ret [.tm d (L6 .i64 (l:Nat))]
         |none=> .fail else .fail
       |_,_=> .fail
     | .builtin .append,[x,y]=>(BA E s x (fV E o.type)).bind λ(ag,cs,us)=>match cs with
       | [⟨.dl es,.own,l⟩]=>(BA E (s.dM us) y []).bind λ(ag2,ds,us2)=>match ag,ag2,ds,c.argTypes.toList with
         |false,false,[⟨.dl es',.own,m⟩],[t,u]=>bif D5 E t ⟨.dl es,.own,l⟩&&D5 E u ⟨.dl es',.own,m⟩then match jD ⟨.dl es',.own,m⟩ (.dl es)with
          |some m=> .chk (decide (List.length l+List.length m<=au)) (.ret (us++us2++[.tm d (.val false [⟨.dl es,.own,List.append l m⟩])]))
          |none=> .fail
          else .fail
         |_,_,_,_=> .fail
       |_=>(Rn E s (s.dM us) y (fV E o.type)).bind λ ds=>match ag,cs,ds,c.argTypes.toList with
        |false,[q],[e],[t,u]=>bif D5 E t q&&D5 E u e then(ahj q e).bind λ r=>bif ahv E d then(afX E (s.dM us) x d q r).bind λ vs=> .ret (us++vs)else .ret (us++[.tm d (.val false [r])])else .fail
        |_,_,_,_=> .fail
     | .builtin .copy,[x,y]=>(Hz E s y).bind λ ds=>match ds,c.argTypes.toList,at_ E s x with
       | [e],[t,u],.rsub p _ lo hi=>wH E s d t u e p lo (some hi)
       | [e],[t,u],.ref p false 1=>wH E s d t u e p 0 none
       |_,_,_=> .fail
     | .builtin b,[x,y]=>match qU E s x,qU E s y with
       |some (k,x),some (k',y)=>match VA b x y with
        |some z=>bif decide (k=k')then .ret [.tm d (L6 k z)]else .fail
        |none=> .fail
       |_,_=> .fail
     | .value f,xs=>match at_ E s f with
       | .fn f=>bif Nat.beq (E.sig (E.spec d)).fn f then KJ E s d xs [] (E.spec d)else .fail
       | .clo f ts=>bif Nat.beq (E.sig (E.spec d)).fn f then KJ E s d xs ts (E.spec d)else .fail
       |_=> .fail
     |_,_=> .fail
   |_=> .fail
inductive Loc where
 |tm (n:Nat)|bx (n:Nat)
 |id (n:Nat)
 |bi (n:Nat)
 |bc (n i:Nat)
def Loc.same:Loc->Loc->Bool
 | .tm a,.tm b=>Nat.beq a b
 | .bx a,.bx b=>Nat.beq a b
 | .id a,.id b=>Nat.beq a b
 | .bi a,.bi b=>Nat.beq a b
 | .bc a i,.bc b j=>Nat.beq a b&&Nat.beq i j
 | .bx a,.bi b=>Nat.beq a b
 | .bi a,.bx b=>Nat.beq a b
 | .bx a,.bc b _=>Nat.beq a b
 | .bc a _,.bx b=>Nat.beq a b
 |_,_=>false
def Root.loc:Root->Loc| .tmp n=> .tm n| .box n=> .bx n
def T.loc:T->List Loc
 | .ref p _ _=>[p.root.loc]
 | .rsub p _ _ _=>[p.root.loc]
 | .addr p=>[p.root.loc]
 | .rowr p _ _=>[p.root.loc]
 | .addr2 p _ _=>[p.root.loc]
 | .ext p _ _=>[p.root.loc]
 |_=>[]
def T.sD:T->List Loc
 | .clo _ ts=>ts.flatMap T.loc
 |t=>t.loc
def qc (s:St):Operand->List Loc
 | .tmp t=> .tm t::(s.tm t).1.sD
 |_=>[]
def BG (s:St) (t k:Nat):List Loc:=
 match(s.tm t).1 with
 | .addr p=>match p.root,p.sub with
   | .box n,none=> .tm t:: .bi n::(List.range (max k p.vers.length)).map λ i=> .bc n (p.cell+i)
   |_,_=> .tm t::(T.addr p).sD
 |x=> .tm t::x.sD
def Un (s:St) (t:Nat):List Loc:=
 match(s.tm t).1 with
 | .ref p ag k=>match p.root,p.sub with
   | .box n,none=> .tm t:: .bi n::(List.range (max k p.vers.length)).map λ i=> .bc n (p.cell+i)
   |_,_=> .tm t::(T.ref p ag k).sD
 |x=> .tm t::x.sD
def YC (op:Op):Option Nat:=match op with
 | .call c=>match c.callee,c.args.toList with
   | .builtin .len,[.tmp t]=>some t
   |_,_=>none
 |_=>none
def Uz (E:Env) (s:St) (op:Op):List Loc:=
 match op with
 | .move (.tmp t)=>[.id t]
 | .load ty (.tmp t)=>BG s t (fV E ty).length
 | .nilCheck (.tmp t)=>BG s t 0
 | .fieldAddr _ (.tmp t) _=>BG s t 0
 |op=>op.operands.toList.flatMap (qc s)
def Q8 (E:Env) (s:St) (op:Op):List Loc:=
 match YC op with
 |some t=>Un s t
 |none=>Uz E s op
def uV (E:Env) (s:St) (o:Oper):List Loc:=Q8 E s o.op++(match o.op,o.dst with| .alloc _,some d=>[.bx d]| .box _ _,some d=>[.bx d]|_,_=>[])
def Jt:T->T->Bool
 | .val ag cs,.val ag' cs'=>(ag==ag')&& !bD cs&& !bD cs'&&Nat.beq cs.length cs'.length
 |_,_=>false
def Upd.sD (s:St):Upd->List Loc
 | .tm n _=>[.tm n,.id n]
 | .keep n t=>bif Jt (s.tm n).1 t then[.tm n]else[.tm n,.id n]
 | .bx n _=>[.bx n]
 | .cl n l=>l.map λ x=> .bc n x.1
def zU:St->List Upd->List Loc
 |_,[]=>[]
 |s,u::us=>u.sD s++zU (u.on s) us
def Uh (us:List Upd):List Loc:=us.flatMap λ u=>match u with| .keep n _=>[.id n]|_=>[]
def meets (aZ bs:List Loc):Bool:=aZ.any λ a=>bs.any λ b=>a.same b
structure BF where
 r:List Loc
 w:List Loc
def BF.clash (a b:BF):Bool:=meets a.w (b.r++b.w)||meets b.w a.r
def xu (acc:List (List Nat)):List Edge->List Nat
 | []=>[]
 |e::es=>bif Region.binds .any e then e.on::(acc.getD e.on []++xu acc es)else xu acc es
def Md:List Oper->List (List Nat)->List (List Nat)
 | [],acc=>acc
 |o::os,acc=>Md os (acc++[xu acc o.after.toList])
def ordered (ahead:List Nat) (f:BF):List BF->Nat->Bool
 | [],_=>true
 |g::gs,i=>(!(BF.clash g f)||ahead.any (Nat.beq i))&&ordered ahead f gs (i+1)
def guards (ops:List Oper) (j:Nat):Bool:=ops.any λ o=>match o.guard with|some (i,_)=>Nat.beq i j|none=>false
def Wu (ops:List Oper) (j:Nat):Option Tmp:=match ops[j]? with|some o=>o.dst|none=>none
def Ai (s:St) (d:Option Tmp):Option (Option Bool):=
 match d with
 |some d=>match(s.tm d).1 with
  | .val false [⟨.bool,.pure,b⟩]=>some (some b)
  | .undef=>some none
  |_=>none
 |none=>none
def splitAt {ρ:Type} (s:St) (d:Option Tmp) (k:St->Option ρ):Option ρ:=
 match d with
 |none=>k s
 |some d=>match s.tm d with
  |(.val false [⟨.bool,.pure,b⟩],v)=>
   bif b then k {s with tm:=put s.tm d (.val false [⟨.bool,.pure,true⟩],v)}else k {s with tm:=put s.tm d (.val false [⟨.bool,.pure,false⟩],v)}
  |_=>k s
def uz (o:Oper):List Upd:=match o.dst with|some d=>[.tm d .undef]|none=>[]
def IW (E:Env) (o:Oper):Bool:=match o.dst with|some d=> !(E.fix d)&&Nat.blt d E.nt|none=>true
def Gy (E:Env) (draw:Bool) (all:List Oper) (ah:List (List Nat)) {ρ:Type}:List Oper->Nat->List BF->St->(St->Option ρ)->Option ρ
 | [],_,_,s,k=>k s
 |o::os,j,fs,s,k=>
  let go (us:List Upd) (f:BF):Option ρ:=
   bif IW E o&&(!draw||ordered (ah.getD j []) f fs 0)then
    bif guards all j then splitAt (s.dM us) o.dst (λ s'=>Gy E draw all ah os (j+1) (fs++[f]) s' k)
    else Gy E draw all ah os (j+1) (fs++[f]) (s.dM us) k
   else none
  match o.guard with
  |none=>(plan E o s).runK λ us=>go us ⟨uV E s o++Uh us,zU s us⟩
  |some (i,want)=>match Ai s (Wu all i),Wu all i with
   |some (some b),some g=>bif b==want then(plan E o s).runK λ us=>go us ⟨.tm g::(uV E s o++Uh us),zU s us⟩
    else go (uz o) ⟨[.tm g],zU s (uz o)⟩
   |some none,some g=>go (uz o) ⟨[.tm g],zU s (uz o)⟩
   |_,_=>none
def Fe:List Oper->Nat->Bool
 | [],_=>true
 |o::os,j=>(o.after.toList.all λ e=> !(Region.binds .any e)||Nat.blt e.on j)&&Fe os (j+1)
def EM (E:Env) (ops:List Oper) (draw:Bool) {ρ:Type} (s:St) (k:St->Option ρ):Option ρ:=
 bif !draw||Fe ops 0 then Gy E draw ops (bif draw then Md ops []else[]) ops 0 [] s k else none
inductive JE where
 |tm (n:Nat) (ag:Bool) (cells:List (Sh×Tg))
 |bx (n:Nat) (cells:List (Sh×Tg))
 |adr (n:Nat) (root:Root) (cell:Nat)
 |rf (n:Nat) (root:Root) (cell:Nat) (ag:Bool) (len:Nat)
 |rs (n:Nat) (root:Root) (cell:Nat) (z:Bool)
 |fn (n:Nat) (f:FuncId)
 |clo (n:Nat) (f:FuncId) (caps:List (Root×Nat))
 |pad (n:Nat) (cells:List (Sh×Tg)) (off:Nat)
 |cpd (n:Nat) (f:FuncId) (cells:List (Sh×Tg))
def JE.cells:JE->List (Sh×Tg)
 | .tm _ _ cs=>cs
 | .bx _ cs=>cs
 | .pad _ cs _=>cs
 | .cpd _ _ cs=>cs
 | .rs _ _ _ _=>[(.int .i64,.pure),(.int .i64,.pure)]
 |_=>[]
abbrev J:=List JE
def J.cells (j:J):List (Sh×Tg):=j.flatMap JE.cells
abbrev J.V (j:J):Type:=ElA (J.cells j |>.map (·.1))
def Root.same:Root->Root->Bool
 | .tmp a,.tmp b=>Nat.beq a b
 | .box a,.box b=>Nat.beq a b
 |_,_=>false
def JE.tgt:JE->Loc
 | .tm n _ _=> .tm n
 | .bx n _=> .bx n
 | .adr n _ _=> .tm n
 | .rf n _ _ _ _=> .tm n
 | .rs n _ _ _=> .tm n
 | .fn n _=> .tm n
 | .clo n _ _=> .tm n
 | .pad n _ _=> .tm n
 | .cpd n _ _=> .tm n
def jOk:J->Bool
 | []=>true
 |e::j=>(j.all λ e'=> !(e.tgt.same e'.tgt))&&jOk j
def kE (s:St):List T->List (Root×Nat)->Bool
 | [],[]=>true
 | .addr p::ts,(root,cell)::cs=>(match aB s root with
   |some (inst,_)=>Root.same p.root root&&Nat.beq p.cell cell&&Nat.beq p.inst inst&&(match p.sub with|none=>true|_=>false)
   |none=>false)&&kE s ts cs
 |_,_=>false
def lg (s:St):JE->Option (List CV)
 | .tm n ag want=>match(s.tm n).1 with
   | .val ag' cs=>bif ag==ag' then weaken cs want else none
   |_=>none
 | .bx n want=>match s.bx n with
   |some b=>weaken (b.cells.map (·.1)) want
   |none=>none
 | .adr n root cell=>match(s.tm n).1,aB s root with
   | .addr p,some (inst,_)=>bif Root.same p.root root&&Nat.beq p.cell cell&&Nat.beq p.inst inst&&(match p.sub with|none=>true|_=>false)then some []else none
   |_,_=>none
 | .rf n root cell ag len=>match(s.tm n).1 with
   | .ref p ag' len'=>match aW s p len with
     |some _=>bif Root.same p.root root&&Nat.beq p.cell cell&&(ag==ag')&&Nat.beq len len'&&Nat.beq p.vers.length len&&(match p.sub with|none=>true|_=>false)then some []else none
     |none=>none
   |_=>none
 | .rs n root cell z=>match(s.tm n).1 with
   | .rsub p z' lo hi=>match aW s p 1 with
     |some _=>bif Root.same p.root root&&Nat.beq p.cell cell&&(z==z')&&Nat.beq p.vers.length 1&&(match p.sub with|none=>true|_=>false)then some [⟨.int .i64,.pure,(lo:Int)⟩,⟨.int .i64,.pure,(hi:Int)⟩]else none
     |none=>none
   |_=>none
 | .fn n f=>match(s.tm n).1 with
   | .fn g=>bif Nat.beq f g then some []else none
   |_=>none
 | .clo n f caps=>match(s.tm n).1 with
   | .clo g ts=>bif Nat.beq f g&&kE s ts caps then some []else none
   |_=>none
 | .pad n want off=>match(s.tm n).1 with
   | .paddr cs off'=>bif Nat.beq off off' then match weaken cs want with
     |some ds=>bif bD ds then some ds else none
     |none=>none else none
   |_=>none
 | .cpd n f want=>match(s.tm n).1 with
   | .clo g [.paddr cs 0]=>bif Nat.beq f g then match weaken cs want with
     |some ds=>bif bD ds then some ds else none
     |none=>none else none
   |_=>none
def packs (s:St):J->Option (List CV)
 | []=>some []
 |e::j=>match lg s e,packs s j with
  |some cs,some ds=>some (cs++ds)
  |_,_=>none
def pack (j:J) (s:St):Option j.V:=match packs s j with|some cs=>fZ _ cs|none=>none
def adX (E:Env) (s:St):Bool:=E.kept.all λ x=>match aW s ⟨.box x.1,0,[0],x.2,none⟩ 1 with|some _=>true|none=>false
def UF (E:Env) (j:J) (s:St):Option j.V:=bif adX E s then pack j s else none
def aeM (c:CV):Nat:=match c with|⟨.int _,_,x⟩=>Int.toNat x|_=>0
def qI:St:=⟨λ _=>(.dead,0),λ _=>none⟩
def dR (s:St) (cs:List CV):JE->St
 | .tm n ag _=>{s with tm:=put s.tm n (.val ag cs,0)}
 | .bx n _=>{s with bx:=put s.bx n (some ⟨0,cs.map λ c=>(c,0)⟩)}
 | .adr n root cell=>{s with tm:=put s.tm n (.addr ⟨root,0,[],cell,none⟩,0)}
 | .rf n root cell ag len=>{s with tm:=put s.tm n (.ref ⟨root,0,List.replicate len 0,cell,none⟩ ag len,0)}
 | .rs n root cell z=>match cs with
   | [a,b]=>{s with tm:=put s.tm n (.rsub ⟨root,0,[0],cell,none⟩ z (aeM a) (aeM b),0)}
   |_=>s
 | .fn n f=>{s with tm:=put s.tm n (.fn f,0)}
 | .clo n f caps=>{s with tm:=put s.tm n (.clo f (caps.map λ x=> .addr ⟨x.1,0,[],x.2,none⟩),0)}
 | .pad n _ off=>{s with tm:=put s.tm n (.paddr cs off,0)}
 | .cpd n f _=>{s with tm:=put s.tm n (.clo f [.paddr cs 0],0)}
def unpacks (s:St):List CV->J->St
 |_,[]=>s
 |cs,e::j=>unpacks (dR s (cs.take e.cells.length) e) (cs.drop e.cells.length) j
def unpack (j:J) (x:j.V):St:=unpacks qI (retag (J.cells j) (cellsOf _ x)) j
inductive H where
 |o
 |s (a b:H)
 |j (j:J) (a:H)
 |jr (j:J) (a:H)
 |st (m:Nat) (a b:H)
inductive Ex where
 |normal|exit (id:Nat)|ret
def Yp (E:Env) {ρ:Type} (j:J) (m:(Ex->St->Option j.V)->Option j.V) (k:Ex->St->Option ρ):Option ρ:=
 bif jOk j then(m λ e s=>match e with| .normal=>UF E j s|_=>none).bind λ x=>k .normal (unpack j x)else none
def acX (E:Env) {ρ:Type} (j:J) (m:(Ex->St->Option (Sum j.V ρ))->Option (Sum j.V ρ)) (k:Ex->St->Option ρ):Option ρ:=
 bif jOk j then(m λ e s=>match e with
  | .normal=>(UF E j s).bind λ x=>some (.inl x)
  |e=>(k e s).bind λ r=>some (.inr r)).bind λ r=>match r with
  | .inl x=>k .normal (unpack j x)
  | .inr r=>some r
 else none
def cu {α ρ:Type} (body:α->(α->Option ρ)->Option ρ):Nat->α->Option ρ
 |0,_=>none
 |n+1,x=>body x (cu body n)
def inBlock {ρ:Type} (id:Nat) (k:Ex->St->Option ρ):Ex->St->Option ρ
 | .exit i,s=>bif Nat.beq i id then k .normal s else k (.exit i) s
 |e,s=>k e s
def afu (s:St) (m:Nat):Dyn (List Upd):=
 match(s.tm m).1 with
 | .val false [⟨.dl es,.own,l⟩]=> .idx (qX l) λ l'=> .ret [.tm m (.val false [⟨.sl es,.own,l'⟩])]
 |_=> .fail
def ev (E:Env) (n:Nat):Code->H->{ρ:Type}->St->(Ex->St->Option ρ)->Option ρ
 | .skip,_,_,s,k=>k .normal s
 | .exit id,_,_,s,k=>k (.exit id) s
 | .ret,_,_,s,k=>k .ret s
 | .label _,_,_,s,k=>k .normal s
 | .scope c,h,_,s,k=>ev E n c h s k
 | .region _ ops draw,h,_,s,k=>match h with
   | .j j _=>Yp E j (λ kk=>EM E ops.toList draw s (kk .normal)) k
   |_=>EM E ops.toList draw s (k .normal)
 | .seq a b,h,_,s,k=>match h with
   | .s ha hb=>ev E n a ha s λ e s'=>match e with
     | .normal=>ev E n b hb s' k
     |e=>k e s'
   | .st m ha hb=>ev E n a ha s λ e s'=>match e with
     | .normal=>(afu s' m).runK λ us=>ev E n b hb (s'.dM us) k
     |e=>k e s'
   |_=>none
 | .cond c x y,h,_,s,k=>match uT E s c,h with
   |some b,.s hx hy=>bif b then ev E n x hx s k else ev E n y hy s k
   |some b,.j j (.s hx hy)=>Yp E j (λ kk=>bif b then ev E n x hx s kk else ev E n y hy s kk) k
   |some b,.jr j (.s hx hy)=>acX E j (λ kk=>bif b then ev E n x hx s kk else ev E n y hy s kk) k
   |_,_=>none
 | .block id c,h,_,s,k=>match h with
   | .s hc _=>ev E n c hc s (inBlock id k)
   | .j j hc=>Yp E j (λ kk=>ev E n c hc s (inBlock id kk)) k
   | .jr j hc=>acX E j (λ kk=>ev E n c hc s (inBlock id kk)) k
   |_=>none
 | .loop c,h,ρ,s,k=>match h with
   | .j j hc=>bif !(jOk j)then none else(UF E j s).bind λ x=>cu (ρ:=ρ) (λ x rec=>ev E n c hc (unpack j x) λ e s'=>match e with
     | .normal=>(UF E j s').bind rec
     |e=>k e s') n x
   |_=>none
 |_,_,_,_,_=>none
def oV:List PK->Nat->List CV->St->St
 | [],_,_,s=>s
 | .val ag want::ps,i,cs,s=>oV ps (i+1) (cs.drop want.length) {s with tm:=put s.tm i (.val ag (cs.take want.length),0)}
 | .ptr want::ps,i,cs,s=>oV ps (i+1) (cs.drop want.length)
  {tm:=put s.tm i (.addr ⟨.box i,0,[],0,none⟩,0),bx:=put s.bx i (some ⟨0,(cs.take want.length).map λ c=>(c,0)⟩)}
 | .rptr want::ps,i,cs,s=>oV ps (i+1) (cs.drop want.length) {s with tm:=put s.tm i (.paddr (cs.take want.length) 0,0)}
 | .fn f::ps,i,cs,s=>oV ps (i+1) cs {s with tm:=put s.tm i (.fn f,0)}
 | .io want::ps,i,cs,s=>oV ps (i+1) (cs.drop want.length) {s with tm:=put s.tm i (.val false (cs.take want.length),0)}
 | .clo f want::ps,i,cs,s=>oV ps (i+1) (cs.drop want.length) {s with tm:=put s.tm i (.clo f [.paddr (cs.take want.length) 0],0)}
def enter (g:Sig) (x:g.In):St:=oV g.params 0 (retag g.ins (cellsOf _ x)) qI
def sS (E:Env) (s:St):List ResultVar->List (Bool×List (Sh×Tg))->Option (List CV×St)
 | [],[]=>some ([],s)
 | .tmp t::vs,(ag,want)::rs=>match(Jj s (s.tm t).1 (.tmp t) ag want).run with
   |some (cs,us)=>match sS E (s.dM us) vs rs with
    |some (ds,s')=>some (cs++ds,s')
    |none=>none
   |none=>none
 | .cell t ty::vs,(ag,want)::rs=>match(s.tm t).1,E.ty ty with
   | .addr p,some i=>match p.sub,aW s p want.length with
     |none,some cs=>bif (i.ag==ag)&&Nat.beq i.cells.length want.length&&(ag||CY cs)then
      match weaken cs want,jB s p (gW cs want) false with
      |some ds,some us=>match sS E (s.dM us) vs rs with
       |some (ds',s')=>some (ds++ds',s')
       |none=>none
      |_,_=>none
      else none
     |_,_=>none
   |_,_=>none
 |_,_=>none
def asIs:List CV->List (Sh×Tg)->Option (List CV)
 | [],[]=>some []
 |c::cs,(sh,tg)::want=>bif Sh.beq c.sh sh&&Tg.le tg c.tg&&Tg.le c.tg tg then(asIs cs want).map (c:: ·)else none
 |_,_=>none
def qR (s:St):List PK->Nat->Option (List CV)
 | [],_=>some []
 | .val _ _::ps,i=>qR s ps (i+1)
 | .rptr _::ps,i=>qR s ps (i+1)
 | .fn _::ps,i=>qR s ps (i+1)
 | .clo _ _::ps,i=>qR s ps (i+1)
 | .io want::ps,i=>match(s.tm i).1,qR s ps (i+1)with
   | .val false cs,some ds=>(asIs cs want).map (· ++ds)
   |_,_=>none
 | .ptr want::ps,i=>match(s.tm i).1,s.bx i,qR s ps (i+1)with
   | .addr p,some b,some ds=>bif Nat.beq p.inst b.inst&&Root.same p.root (.box i)&&Nat.beq p.cell 0&&(match p.sub with|none=>true|_=>false)then(asIs (b.cells.map (·.1)) want).map (· ++ds)else none
   |_,_,_=>none
def leave (E:Env) (g:Sig) (rs:List ResultVar) (s:St):Option g.Out:=
 bif adX E s then match sS E s rs g.res with
 |some (cs,s')=>match qR s' g.params 0 with
  |some ds=>fZ _ (cs++ds)
  |none=>none
 |none=>none else none
def look (l:List (Nat×Nat)) (d:Nat):Nat:=match l with| []=>0|(a,b)::l=>bif Nat.beq a d then b else look l d
structure Spec where
 sig:Sig
 fn:Func
 h:H
 calls:List (Nat×Nat)
 ext:Option (sig.In->Option sig.Out)
structure Prg where
 ty:TypeId->Option TyI
 glob:Nat->Option (List CV)
 spec:Nat->Spec
abbrev Prg.Fs (p:Prg):Type:=(i:Nat)->(p.spec i).sig.In->Option (p.spec i).sig.Out
def Prg.env (p:Prg) (i:Nat) (f:p.Fs):Env:=⟨(p.spec i).fn.ntmps,acR (p.spec i).sig.params,p.ty,p.glob,λ i=>(p.spec i).sig,look (p.spec i).calls,f,Ui (p.spec i).sig.params 0⟩
def Prg.phi (p:Prg) (i:Nat) (n:Nat) (f:p.Fs) (x:(p.spec i).sig.In):Option (p.spec i).sig.Out:=
 match(p.spec i).ext with
 |some e=>e x
 |none=>ev (p.env i f) n ((p.spec i).fn.body.getD (.refuse "")) (p.spec i).h (enter (p.spec i).sig x) λ e s=>match e with
  | .exit _=>none
  |_=>leave (p.env i f) (p.spec i).sig (p.spec i).fn.results.toList s
def Prg.run (p:Prg):Nat->p.Fs
 |0=>λ _ _=>none
 |n+1=>λ i x=>p.phi i n (p.run n) x
end Go.AM
end
section
namespace Go.AM
open Go
abbrev Fz:=Nat->Nat->Prop
def Nz (w:World) (F:Fz) (ad:Addr) (cs:List Value):Prop:=
 ∀j,j<cs.length->w.cell? ⟨ad.block,ad.off+j,none⟩=cs[j]? /\F ad.block (ad.off+j)
def eH {α:Type} (R:α->List Value->Prop):List α->List Value->Prop
 | [],cs=>cs= []
 |x::xs,cs=> ∃c1 c2,cs=c1++c2/\R x c1/\eH R xs c2
def EX (w:World) (F:Fz) (len:Nat) (el:List Value->Prop) (v:Value):Prop:=
 ∃A c,v= .slice A len c/\len<=c/\(len=0\/ ∃ad cs,A=some ad/\ad.spot=none/\Nz w F ad cs/\el cs)
mutual
def pz {α:Type} (w:World) (F:Fz) (R:α->List Value->Prop):RT α->List Value->Prop
 | .mk a kids,cs=> ∃c1 v,cs=c1++[v]/\R a c1/\EX w F kids.length (jg w F R kids) v
def jg {α:Type} (w:World) (F:Fz) (R:α->List Value->Prop):List (RT α)->List Value->Prop
 | [],cs=>cs= []
 |t::ts,cs=> ∃c1 c2,cs=c1++c2/\pz w F R t c1/\jg w F R ts c2
end
mutual
def jo (w:World) (F:Fz):(sh:Sh)->El sh->Value->Prop
 | .int k,n,v=>v= .int k n
 | .bool,b,v=>v= .bool b
 | .str,b,v=>v= .string b
 | .sl es,l,v=>EX w F (List.length l) (eH (dO w F es) l) v
 | .rsl ss,l,v=>EX w F (List.length l) (jg w F (dO w F ss) l) v
 | .dl _,_,_=>False
 | .mp _ _,_,_=>False
def dO (w:World) (F:Fz):(es:List Sh)->ElA es->List Value->Prop
 | [],_,cs=>cs= []
 |s::ss,x,cs=>match ss,x with
  | [],x=> ∃v,cs= [v]/\jo w F s x v
  |t::ts,x=> ∃v cs',cs=v::cs'/\jo w F s x.1 v/\dO w F (t::ts) x.2 cs'
end
structure Keeps (w w':World) (F F':Fz):Prop where
 sub: ∀b o,F b o->F' b o
 cell: ∀b o,F b o->w'.cell? ⟨b,o,none⟩=w.cell? ⟨b,o,none⟩
theorem Keeps.refl (w:World) (F:Fz):Keeps w w F F:=⟨λ _ _ h=>h,λ _ _ _=>rfl⟩
theorem Keeps.trans {a b c:World} {F G H:Fz} (h:Keeps a b F G) (k:Keeps b c G H):Keeps a c F H:=
 ⟨λ x o f=>k.sub x o (h.sub x o f),λ x o f=>(k.cell x o (h.sub x o f)).trans (h.cell x o f)⟩
section
variable {w w':World} {F F':Fz}
theorem Nz.keeps (k:Keeps w w' F F') {ad:Addr} {cs:List Value} (h:Nz w F ad cs):Nz w' F' ad cs:=
 λ j hj=>⟨(k.cell _ _ (h j hj).2).trans (h j hj).1,k.sub _ _ (h j hj).2⟩
theorem eH.imp {α:Type} {R R':α->List Value->Prop} (hr: ∀x cs,R x cs->R' x cs): ∀(l:List α) cs,eH R l cs->eH R' l cs
 | [],_,h=>h
 |x::xs,_,⟨c1,c2,e,h1,h2⟩=>⟨c1,c2,e,hr _ _ h1,eH.imp hr xs c2 h2⟩
theorem EX.imp (k:Keeps w w' F F') {len:Nat} {el el':List Value->Prop} (he: ∀cs,el cs->el' cs) {v:Value} (h:EX w F len el v):EX w' F' len el' v:=by
 obtain⟨A,c,hv,hl,h⟩:=h;refine⟨A,c,hv,hl,?_⟩;rcases h with h|⟨ad,cs,ha,hs,hr,h⟩
 ·exact .inl h
 ·exact .inr ⟨ad,cs,ha,hs,hr.keeps k,he _ h⟩
mutual
theorem pz.imp {α:Type} (k:Keeps w w' F F') {R R':α->List Value->Prop} (hr: ∀x cs,R x cs->R' x cs): ∀(t:RT α) cs,pz w F R t cs->pz w' F' R' t cs
 | .mk a kids,cs,h=>by
   unfold pz at h ⊢;obtain⟨c1,v,e,h1,h2⟩:=h;exact⟨c1,v,e,hr _ _ h1,h2.imp k (λ cs h=>jg.imp k hr kids cs h)⟩
theorem jg.imp {α:Type} (k:Keeps w w' F F') {R R':α->List Value->Prop} (hr: ∀x cs,R x cs->R' x cs): ∀(ts:List (RT α)) cs,jg w F R ts cs->jg w' F' R' ts cs
 | [],cs,h=>by unfold jg at h ⊢;exact h
 |t::ts,cs,h=>by
  unfold jg at h ⊢;obtain⟨c1,c2,e,h1,h2⟩:=h;exact⟨c1,c2,e,pz.imp k hr t c1 h1,jg.imp k hr ts c2 h2⟩
end
mutual
theorem jo.keeps (k:Keeps w w' F F'): ∀(sh:Sh) (x:El sh) v,jo w F sh x v->jo w' F' sh x v
 | .int _,_,_,h=>h
 | .bool,_,_,h=>h
 | .str,_,_,h=>h
 | .sl es,l,v,h=>by
   simp only[jo]at h ⊢;exact h.imp k (λ cs h=>eH.imp (λ x cs h=>dO.keeps k es x cs h) l cs h)
 | .rsl ss,l,v,h=>by
   simp only[jo]at h ⊢;exact h.imp k (λ cs h=>jg.imp k (λ x cs h=>dO.keeps k ss x cs h) l cs h)
 | .dl es,l,v,h=>by simp only[jo]at h
 | .mp _ _,l,v,h=>by simp only[jo]at h
theorem dO.keeps (k:Keeps w w' F F'): ∀(es:List Sh) (x:ElA es) cs,dO w F es x cs->dO w' F' es x cs
 | [],_,_,h=>h
 | [s],x,cs,h=>by
   simp only[dO]at h ⊢;obtain⟨v,e,h⟩:=h;exact⟨v,e,jo.keeps k s x v h⟩
 |s::t::ss,x,cs,h=>by
  simp only[dO]at h ⊢;obtain⟨v,c,e,h1,h2⟩:=h;exact⟨v,c,e,jo.keeps k s x.1 v h1,dO.keeps k (t::ss) x.2 c h2⟩
end
end
theorem dO.length {w:World} {F:Fz}: ∀(es:List Sh) (x:ElA es) cs,dO w F es x cs->cs.length=es.length
 | [],_,_,h=>by simp only[dO]at h;simp[h]
 | [s],x,cs,h=>by
   simp only[dO]at h;obtain⟨v,e,h⟩:=h;simp[e]
 |s::t::ss,x,cs,h=>by
  simp only[dO]at h;obtain⟨v,c,e,h1,h2⟩:=h;have:=dO.length (t::ss) x.2 c h2;simp[e,this]
theorem pz.length {α:Type} {w:World} {F:Fz} {R:α->List Value->Prop} {n:Nat} (hr: ∀x cs,R x cs->cs.length=n) (t:RT α) (cs:List Value) (h:pz w F R t cs):cs.length=n+1:=by
 cases t;unfold pz at h;obtain⟨c1,v,e,h1,h2⟩:=h;simp[e,hr _ _ h1]
structure Ir {α:Type} (n:Nat) (R:α->List Value->Prop) (L:List α->List Value->Prop):Prop where
 len: ∀x cs,R x cs->cs.length=n
 nil: ∀cs,L [] cs ↔ cs= []
 cons: ∀x xs cs,L (x::xs) cs ↔ ∃c1 c2,cs=c1++c2/\R x c1/\L xs c2
theorem jC {w:World} {F:Fz} (es:List Sh):Ir es.length (dO w F es) (eH (dO w F es)):=
 ⟨dO.length es,λ _=>ach,λ _ _ _=>ach⟩
theorem jR {w:World} {F:Fz} (ss:List Sh):Ir (ss.length+1) (pz w F (dO w F ss)) (jg w F (dO w F ss)):=
 ⟨pz.length (dO.length ss),λ _=>by unfold jg;exact ach,λ _ _ _=>by conv=>lhs;unfold jg⟩
namespace Ir
variable {α:Type} {n:Nat} {R:α->List Value->Prop} {L:List α->List Value->Prop}
theorem length (h:Ir n R L): ∀(l:List α) cs,L l cs->cs.length=l.length*n
 | [],cs,hl=>by rw[(h.nil cs).1 hl];simp
 |x::xs,cs,hl=>by
  obtain⟨c1,c2,e,h1,h2⟩:=(h.cons x xs cs).1 hl;have:=h.length xs c2 h2;have:=h.len x c1 h1;simp[*,abM,Nat.add_comm]
theorem append (h:Ir n R L): ∀(l m:List α) cs ds,L l cs->L m ds->L (l++m) (cs++ds)
 | [],m,cs,ds,hl,hm=>by rw[(h.nil cs).1 hl];exact hm
 |x::xs,m,cs,ds,hl,hm=>by
  obtain⟨c1,c2,e,h1,h2⟩:=(h.cons x xs cs).1 hl;exact(h.cons x (xs++m) _).2 ⟨c1,c2++ds,by simp[e],h1,h.append xs m c2 ds h2 hm⟩
theorem split (h:Ir n R L): ∀(l m:List α) cs,L (l++m) cs->L l (cs.take (l.length*n))/\L m (cs.drop (l.length*n))
 | [],m,cs,hl=>by simp only[acy,Nat.zero_mul,ace,abu];exact⟨(h.nil _).2 rfl,hl⟩
 |x::xs,m,cs,hl=>by
  obtain⟨c1,c2,e,h1,h2⟩:=(h.cons x (xs++m) cs).1 hl;have hn:=h.len x c1 h1;obtain⟨k1,k2⟩:=h.split xs m c2 h2;have e1:(x::xs).length*n=c1.length+xs.length*n:=by simp[hn,abM,Nat.add_comm]
  refine⟨(h.cons x xs _).2 ⟨c1,c2.take (xs.length*n),?_,h1,k1⟩,?_⟩
  ·rw[e1,e,acH];simp[aaF]
  ·rw[e1,e,List.drop_append,abn (by omega)];simpa using k2
theorem take (h:Ir n R L) (l:List α) (cs:List Value) (k:Nat) (hl:L l cs):L (l.take k) (cs.take (k*n)):=by
 have:=(h.split (l.take k) (l.drop k) cs (by simpa using hl)).1;by_cases hk:k<=l.length
 ·simpa [abK hk]using this
 ·have h2:=h.length l cs hl;have hk':l.length<=k:=by omega
  rw[aaF (l:=cs) (by rw[h2];exact aaw _ hk')];rw[aaF hk'];exact hl
theorem drop (h:Ir n R L) (l:List α) (cs:List Value) (k:Nat) (hl:L l cs):L (l.drop k) (cs.drop (k*n)):=by
 by_cases hk:k<=l.length
 ·have:=(h.split (l.take k) (l.drop k) cs (by simpa using hl)).2;simpa [abK hk]using this
 ·have h2:=h.length l cs hl;have hk':l.length<=k:=by omega
  rw[abn hk',abn (by rw[h2];exact aaw _ hk')];exact(h.nil _).2 rfl
theorem get (h:Ir n R L) (l:List α) (cs:List Value) (hl:L l cs) (i:Nat) (x:α) (hx:l[i]? =some x):R x ((cs.drop (i*n)).take n):=by
 have hd:=h.drop l cs i hl
 have hi:i<l.length:=by
  rcases aaE i l.length with h|h
  ·exact h
  ·simp[aah h]at hx
 have e:l.drop i=x::l.drop (i+1):=by
  rw[aaI hi];simp[aac hi]at hx;rw[hx]
 rw[e]at hd;obtain⟨c1,c2,e,h1,h2⟩:=(h.cons _ _ _).1 hd;rw[e,←h.len x c1 h1];simpa using h1
theorem set (h:Ir n R L) (l:List α) (cs:List Value) (hl:L l cs) (i:Nat) (hi:i<l.length) (x:α) (ds:List Value) (hx:R x ds):L (l.set i x) (cs.take (i*n)++ds++cs.drop ((i+1)*n)):=by
 have h1:=h.take l cs i hl;have h2:=h.drop l cs (i+1) hl;rw[List.set_eq_take_append_cons_drop,if_pos hi];have:=h.append _ _ _ _ h1 ((h.cons x (l.drop (i+1)) _).2 ⟨ds,_,rfl,hx,h2⟩);simpa using this
theorem imp {R':α->List Value->Prop} {L':List α->List Value->Prop} (h:Ir n R L) (h':Ir n R' L') (hr: ∀x cs,R x cs->R' x cs): ∀(l:List α) cs,L l cs->L' l cs
 | [],cs,hl=>(h'.nil cs).2 ((h.nil cs).1 hl)
 |x::xs,cs,hl=>by
  obtain⟨c1,c2,e,h1,h2⟩:=(h.cons x xs cs).1 hl;exact(h'.cons x xs cs).2 ⟨c1,c2,e,hr _ _ h1,h.imp h' hr xs c2 h2⟩
end Ir
inductive aH where
 |tm (n i:Nat)|box (n:Nat)|cell (n i:Nat)|hand (i:Nat)
 deriving DecidableEq
structure Gh where
 at_:Nat->Nat
 own:Nat->Option aH
 F:Fz
def Sh.n:Sh->Nat
 | .sl es=>es.length
 | .rsl ss=>ss.length+1
 | .dl es=>es.length
 |_=>0
def aQ:(sh:Sh)->El sh->Nat
 | .sl _,l=>List.length l
 | .rsl _,l=>List.length l
 | .dl _,l=>List.length l
 |_,_=>0
def uO (w:World) (F:Fz):(sh:Sh)->El sh->List Value->Prop
 | .sl es,l,cs=>eH (dO w F es) l cs
 | .rsl ss,l,cs=>jg w F (dO w F ss) l cs
 |_,_,_=>False
theorem wQ {w:World} {F:Fz} {sh:Sh} (h:sh.oW=true) (x:El sh) (v:Value):jo w F sh x v ↔ EX w F (aQ sh x) (uO w F sh x) v:=by
 cases sh<;>simp[Sh.oW]at h<;>simp only[jo,aQ]<;>exact ach
theorem fD {sh:Sh} (h:sh.oW=true):sh.pF=true:=by cases sh<;>simp_all [Sh.oW,Sh.pF]
theorem Ue {sh:Sh} (h:sh.pF=true):sh.oW=true\/ ∃es,sh= .dl es:=by cases sh<;>simp_all [Sh.oW,Sh.pF]
theorem uO.keeps {w w':World} {F F':Fz} (k:Keeps w w' F F') {sh:Sh} {x:El sh} {cs:List Value} (h:uO w F sh x cs):uO w' F' sh x cs:=by
 cases sh with
 |sl es=>exact eH.imp (λ x cs h=>dO.keeps k es x cs h) x cs h
 |rsl ss=>exact jg.imp k (λ x cs h=>dO.keeps k ss x cs h) x cs h
 |_=>exact h
theorem uO.length {w:World} {F:Fz} {sh:Sh} {x:El sh} {cs:List Value} (h:uO w F sh x cs):cs.length=aQ sh x*sh.n:=by
 cases sh with
 |sl es=>exact(jC (w:=w) (F:=F) es).length x cs h
 |rsl ss=>exact(jR (w:=w) (F:=F) ss).length x cs h
 |_=>exact h.elim
def uZ (w:World) (g:Gh) (ow:aH) (tip:Bool) (sh:Sh) (x:El sh) (v:Value):Prop:=
 (v= .slice none 0 0/\aQ sh x=0)\/
 ∃b c cur et,v= .slice (some ⟨b,0,none⟩) (aQ sh x) c/\aQ sh x<=c/\c<=maxLen/\g.own b=some ow/\w.heap[b]? =some (.cells cur et (0,0))/\
  cur.size=c*sh.n/\uO w g.F sh x (cur.toList.take (aQ sh x*sh.n))/\(∀o,g.F b o ↔ (tip=true/\o<aQ sh x*sh.n))
def blk:Value->Option Nat
 | .slice (some ad) _ _=>some ad.block
 |_=>none
def qB (w:World) (g:Gh) (ow:aH) (B:Option Nat) (sh:Sh) (x:El sh) (v:Value):Prop:=
 if sh.pF then sh.oW=true/\uZ w g ow false sh x v/\blk v=B else jo w g.F sh x v
def XA (w:World) (g:Gh) (ow:aH) (B:Nat->Option Nat) (es:List Sh) (x:ElA es) (cs:List Value):Prop:=
 cs.length=es.length/\ ∀(k:Nat) (c:CV) (v:Value),(cellsOf es x)[k]? =some c->cs[k]? =some v->qB w g ow (B k) c.sh c.x v
def iM (w:World) (g:Gh) (ow:aH) (b:Nat) (es:List Sh) (l:List (Option (ElA es))) (cs:List Value):Prop:=
 cs.length=l.length*es.length/\ ∃B:Nat->Option Nat,(∀k,B k≠some b)/\(∀i j x,B i=some x->B j=some x->i=j)/\
  ∀i x,l[i]? =some (some x)->XA w g ow (λ j=>B (i*es.length+j)) es x ((cs.drop (i*es.length)).take es.length)
def V7 (w:World) (g:Gh) (ow:aH) (b:Nat) (tip:Bool):(sh:Sh)->El sh->List Value->Prop
 | .dl es,l,cs=>(tip=false/\ ∀u,u∈cs->u.oneCell'=true)/\iM w g ow b es l cs
 |sh,x,cs=>uO w g.F sh x cs
def yI (w:World) (g:Gh) (ow:aH) (tip:Bool) (sh:Sh) (x:El sh) (v:Value):Prop:=
 (v= .slice none 0 0/\aQ sh x=0)\/
 ∃b c cur et,v= .slice (some ⟨b,0,none⟩) (aQ sh x) c/\aQ sh x<=c/\c<=maxLen/\g.own b=some ow/\w.heap[b]? =some (.cells cur et (0,0))/\
  cur.size=c*sh.n/\V7 w g ow b tip sh x (cur.toList.take (aQ sh x*sh.n))/\(∀o,g.F b o ↔ (tip=true/\o<aQ sh x*sh.n))
theorem pV {w:World} {g:Gh} {ow:aH} {b:Nat} {tip:Bool} {sh:Sh} (h:sh.oW=true) {x:El sh} {cs:List Value}:V7 w g ow b tip sh x cs ↔ uO w g.F sh x cs:=by
 cases sh<;>first|exact ach|simp[Sh.oW]at h
theorem oC {w:World} {g:Gh} {ow:aH} {tip:Bool} {sh:Sh} (h:sh.oW=true) {x:El sh} {v:Value}:yI w g ow tip sh x v ↔ uZ w g ow tip sh x v:=by
 cases sh<;>first|exact ach|simp[Sh.oW]at h
theorem V7.length {w:World} {g:Gh} {ow:aH} {b:Nat} {tip:Bool} {sh:Sh} {x:El sh} {cs:List Value} (h:V7 w g ow b tip sh x cs):cs.length=aQ sh x*sh.n:=by
 cases sh with
 |dl es=>exact h.2.1
 |sl es=>exact uO.length (sh:= .sl es) h
 |rsl es=>exact uO.length (sh:= .rsl es) h
 |_=>exact h.elim
structure Fr (K:aH->Prop) (w w':World) (g g':Gh):Prop where
 keeps:Keeps w w' g.F g'.F
 own: ∀b ow,K ow->g.own b=some ow->g'.own b=some ow/\w'.heap[b]? =w.heap[b]? /\ ∀o,g'.F b o->g.F b o
theorem Fr.refl (K:aH->Prop) (w:World) (g:Gh):Fr K w w g g:=⟨Keeps.refl _ _,λ _ _ _ h=>⟨h,rfl,λ _ h=>h⟩⟩
theorem Fr.trans {K:aH->Prop} {a b c:World} {g h i:Gh} (x:Fr K a b g h) (y:Fr K b c h i):Fr K a c g i:=
 ⟨x.keeps.trans y.keeps,λ bl ow k e=>by
  obtain⟨e1,h1,f1⟩:=x.own bl ow k e;obtain⟨e2,h2,f2⟩:=y.own bl ow k e1;exact⟨e2,h2.trans h1,λ o h=>f1 o (f2 o h)⟩⟩
theorem Fr.mono {K K':aH->Prop} {w w':World} {g g':Gh} (h:Fr K w w' g g') (hk: ∀o,K' o->K o):Fr K' w w' g g':=
 ⟨h.keeps,λ b ow k e=>h.own b ow (hk ow k) e⟩
def scV:(s:Sh)->El s->Value
 | .int k,n=> .int k n
 | .bool,b=> .bool b
 | .str,b=> .string b
 |_,_=> .bool false
def ad7 (w:World) (b:Nat) (k e:Sh) (l:List (El k×El e)):Prop:=
 ∃es clock,w.heap[b]? =some (.map es clock)/\es.toList.map (λ q=>(q.key,q.val))=l.map λ p=>(scV k p.1,scV e p.2)
def SS (w:World) (g:Gh) (ow:aH):(sh:Sh)->El sh->Value->Prop
 | .mp k e,x,v=>(v= .map none/\x=none)\/ ∃b l,x=some l/\v= .map (some b)/\g.own b=some ow/\ad7 w b k e l/\ ∀o,¬g.F b o
 |_,_,_=>False
theorem SS.fr {K:aH->Prop} {w w':World} {g g':Gh} (f:Fr K w w' g g') {ow:aH} (hk:K ow) {sh:Sh} {x:El sh} {v:Value} (h:SS w g ow sh x v):SS w' g' ow sh x v:=by
 cases sh with
 |mp k e=>
  rcases h with h|⟨b,l,hx,hv,ho,⟨es,c,hb,he⟩,hf⟩
  ·exact .inl h
  ·obtain⟨o1,o2,o3⟩:=f.own b ow hk ho;exact .inr ⟨b,l,hx,hv,o1,⟨es,c,o2.trans hb,he⟩,λ o h=>hf o (o3 o h)⟩
 |_=>exact h.elim
theorem SS.mp {w:World} {g:Gh} {ow:aH} {sh:Sh} {x:El sh} {v:Value} (h:SS w g ow sh x v):sh.Ie=true/\sh.pF=false/\(match v with| .agg _=>true|_=>false)=false/\v.oneCell'=true:=by
 cases sh with
 |mp k e=>rcases h with⟨rfl,_⟩|⟨b,l,hx,rfl,_⟩<;>exact⟨rfl,rfl,rfl,rfl⟩
 |_=>exact h.elim
def jE (w:World) (g:Gh) (ow:aH) (c:CV) (v:Value):Prop:=
 match c.tg with
 | .dead=>True
 | .pure=>jo w g.F c.sh c.x v
 | .own=>if c.sh.pF then yI w g ow false c.sh c.x v else if c.sh.Ie then SS w g ow c.sh c.x v else jo w g.F c.sh c.x v
 | .tip=>if c.sh.pF then yI w g ow true c.sh c.x v else jo w g.F c.sh c.x v
theorem uZ.fr {K:aH->Prop} {w w':World} {g g':Gh} (f:Fr K w w' g g') {ow:aH} (hk:K ow) {tip:Bool} {sh:Sh} {x:El sh} {v:Value} (h:uZ w g ow tip sh x v):uZ w' g' ow tip sh x v:=by
 rcases h with h|⟨b,c,cur,et,hv,hl,hc,ho,hb,hs,he,hf⟩
 ·exact .inl h
 ·obtain⟨o1,o2,o3⟩:=f.own b ow hk ho;refine .inr ⟨b,c,cur,et,hv,hl,hc,o1,o2.trans hb,hs,he.keeps f.keeps,λ o=>⟨λ h=>(hf o).1 (o3 o h),λ h=>f.keeps.sub _ _ ((hf o).2 h)⟩⟩
theorem qB.imp {w w':World} {g g':Gh} {ow ow':aH} (hk:Keeps w w' g.F g'.F) {B:Option Nat} {sh:Sh} {x:El sh} {v:Value} (hb:B=blk v-> ∀x,uZ w g ow false sh x v->uZ w' g' ow' false sh x v) (h:qB w g ow B sh x v):qB w' g' ow' B sh x v:=by
 unfold qB at h ⊢;split
 ·rename_i hs;rw[if_pos hs]at h;exact⟨h.1,hb h.2.2.symm x h.2.1,h.2.2⟩
 ·rename_i hs;rw[if_neg hs]at h;exact jo.keeps hk _ _ _ h
theorem XA.imp {w w':World} {g g':Gh} {ow ow':aH} (hk:Keeps w w' g.F g'.F) {B:Nat->Option Nat} {es:List Sh} {x:ElA es} {cs:List Value}
 (hb: ∀k sh v,k<es.length->B k=blk v-> ∀x,uZ w g ow false sh x v->uZ w' g' ow' false sh x v) (h:XA w g ow B es x cs):XA w' g' ow' B es x cs:=
 ⟨h.1,λ k c v hc hv=>(h.2 k c v hc hv).imp hk (hb k c.sh v (by
  rw[←h.1];rcases aaE k cs.length with h|h
  ·exact h
  ·simp[aah h]at hv))⟩
theorem iM.imp {w w':World} {g g':Gh} {ow ow':aH} (hk:Keeps w w' g.F g'.F) {b:Nat} {es:List Sh} {l:List (Option (ElA es))} {cs:List Value} (hb: ∀sh x v,blk v≠some b->uZ w g ow false sh x v->uZ w' g' ow' false sh x v) (h:iM w g ow b es l cs):iM w' g' ow' b es l cs:=by
 obtain⟨h1,B,h2,h3,h4⟩:=h;exact⟨h1,B,h2,h3,λ i x hx=>XA.imp hk (λ k sh v _ e=>λ x=>hb sh x v (by rw[←e];exact h2 _)) (h4 i x hx)⟩
theorem uZ.owner {w:World} {g g':Gh} {ow ow':aH} {tip:Bool} {sh:Sh} {x:El sh} {v:Value} (hF:g'.F=g.F) (hb: ∀b,blk v=some b->g'.own b=some ow') (h:uZ w g ow tip sh x v):uZ w g' ow' tip sh x v:=by
 rcases h with h|⟨b,c,cur,et,hv,hl,hc,ho,hh,hs,he,hf⟩
 ·exact .inl h
 ·exact .inr ⟨b,c,cur,et,hv,hl,hc,hb b (by rw[hv];rfl),hh,hs,by rw[hF];exact he,by rw[hF];exact hf⟩
theorem uZ.one {w:World} {g:Gh} {ow:aH} {tip:Bool} {sh:Sh} {x:El sh} {v:Value} (h:uZ w g ow tip sh x v):v.oneCell'=true:=by
 rcases h with⟨rfl,_⟩|⟨_,_,_,_,rfl,_⟩<;>rfl
theorem uZ.mg {w:World} {g:Gh} {ow:aH} {tip:Bool} {sh:Sh} {x:El sh} {v:Value} (h:uZ w g ow tip sh x v) {b:Nat} (hb:blk v=some b):g.own b=some ow:=by
 rcases h with⟨rfl,_⟩|⟨b',c,cur,et,rfl,hl,hc,ho,_⟩
 ·cases hb
 ·cases hb;exact ho
theorem V7.fr {K:aH->Prop} {w w':World} {g g':Gh} (f:Fr K w w' g g') {ow:aH} (hk:K ow) {b:Nat} {tip:Bool} {sh:Sh} {x:El sh} {cs:List Value} (h:V7 w g ow b tip sh x cs):V7 w' g' ow b tip sh x cs:=by
 cases sh with
 |dl es=>exact⟨h.1,h.2.imp f.keeps λ sh x v _=>uZ.fr f hk⟩
 |sl es=>exact uO.keeps (sh:= .sl es) f.keeps h
 |rsl es=>exact uO.keeps (sh:= .rsl es) f.keeps h
 |_=>exact h.elim
theorem yI.fr {K:aH->Prop} {w w':World} {g g':Gh} (f:Fr K w w' g g') {ow:aH} (hk:K ow) {tip:Bool} {sh:Sh} {x:El sh} {v:Value} (h:yI w g ow tip sh x v):yI w' g' ow tip sh x v:=by
 rcases h with h|⟨b,c,cur,et,hv,hl,hc,ho,hb,hs,he,hf⟩
 ·exact .inl h
 ·obtain⟨o1,o2,o3⟩:=f.own b ow hk ho;refine .inr ⟨b,c,cur,et,hv,hl,hc,o1,o2.trans hb,hs,he.fr f hk,λ o=>⟨λ h=>(hf o).1 (o3 o h),λ h=>f.keeps.sub _ _ ((hf o).2 h)⟩⟩
theorem jE.fr {K:aH->Prop} {w w':World} {g g':Gh} (f:Fr K w w' g g') {ow:aH} (hk:K ow) {c:CV} {v:Value} (h:jE w g ow c v):jE w' g' ow c v:=by
 unfold jE at h ⊢;split
 ·trivial
 ·rename_i e;rw[e]at h;exact jo.keeps f.keeps _ _ _ h
 ·rename_i e;rw[e]at h;simp only at h ⊢;split
  ·rename_i hs;rw[if_pos hs]at h;exact h.fr f hk
  ·rename_i hs;rw[if_neg hs]at h;split
   ·rename_i hm;rw[if_pos hm]at h;exact h.fr f hk
   ·rename_i hm;rw[if_neg hm]at h;exact jo.keeps f.keeps _ _ _ h
 ·rename_i e;rw[e]at h;simp only at h ⊢;split
  ·rename_i hs;rw[if_pos hs]at h;exact h.fr f hk
  ·rename_i hs;rw[if_neg hs]at h;exact jo.keeps f.keeps _ _ _ h
theorem jE.pure {w w':World} {g g':Gh} (k:Keeps w w' g.F g'.F) {ow ow':aH} {c:CV} {v:Value} (hp:c.isPure=true) (h:jE w g ow c v):jE w' g' ow' c v:=by
 have e:c.tg= .pure:=by unfold CV.isPure Tg.isPure at hp;split at hp<;>simp_all
 unfold jE at h ⊢;rw[e]at h ⊢;exact jo.keeps k _ _ _ h
def aF (w:World) (g:Gh) (mk:Nat->aH):Nat->List CV->List Value->Prop
 |_,[],vs=>vs= []
 |i,c::cs,vs=> ∃v ws,vs=v::ws/\jE w g (mk i) c v/\aF w g mk (i+1) cs ws
theorem aF.length {w:World} {g:Gh} {mk:Nat->aH}: ∀(cs:List CV) (i:Nat) (vs:List Value),aF w g mk i cs vs->vs.length=cs.length
 | [],_,_,h=>by simp only[aF]at h;simp[h]
 |c::cs,i,_,⟨v,ws,e,_,h⟩=>by simp[e,aF.length cs (i+1) ws h]
theorem aF.fr {K:aH->Prop} {w w':World} {g g':Gh} (f:Fr K w w' g g') {mk:Nat->aH}: ∀(cs:List CV) (i:Nat) (vs:List Value),(∀j,K (mk j))->aF w g mk i cs vs->aF w' g' mk i cs vs
 | [],_,_,_,h=>h
 |c::cs,i,_,hk,⟨v,ws,e,h1,h⟩=>⟨v,ws,e,h1.fr f (hk i),aF.fr f cs (i+1) ws hk h⟩
theorem aF.get {w:World} {g:Gh} {mk:Nat->aH}: ∀(cs:List CV) (i:Nat) (vs:List Value),aF w g mk i cs vs-> ∀j c,cs[j]? =some c-> ∃v,vs[j]? =some v/\jE w g (mk (i+j)) c v
 | [],_,_,_,j,c,hc=>by simp at hc
 |c::cs,i,_,⟨v,ws,e,h1,h⟩,0,d,hd=>by
  simp at hd;subst hd;exact⟨v,by simp[e],h1⟩
 |c::cs,i,_,⟨v,ws,e,h1,h⟩,j+1,d,hd=>by
  obtain⟨u,hu,hr⟩:=aF.get cs (i+1) ws h j d (by simpa using hd);exact⟨u,by simpa [e]using hu,by rw[show i+(j+1)=i+1+j by omega];exact hr⟩
theorem aF.of {w:World} {g:Gh} {mk:Nat->aH}: ∀(cs:List CV) (i:Nat) (vs:List Value),vs.length=cs.length->(∀j c v,cs[j]? =some c->vs[j]? =some v->jE w g (mk (i+j)) c v)->aF w g mk i cs vs
 | [],_,vs,hl,_=>by simpa [aF]using hl
 |c::cs,i,[],hl,_=>by simp at hl
 |c::cs,i,v::vs,hl,h=>⟨v,vs,rfl,by simpa using h 0 c v rfl rfl,aF.of cs (i+1) vs (by simpa using hl) λ j d u hd hu=>by
  have:=h (j+1) d u (by simpa using hd) (by simpa using hu)
  rwa [show i+(j+1)=i+1+j by omega]at this⟩
theorem aF.append {w:World} {g:Gh} {mk:Nat->aH}: ∀(cs:List CV) (i:Nat) (vs:List Value) (ds:List CV) (us:List Value),aF w g mk i cs vs->aF w g mk (i+cs.length) ds us->aF w g mk i (cs++ds) (vs++us)
 | [],_,_,_,_,h,k=>by simp only[aF]at h;subst h;simpa using k
 |c::cs,i,_,ds,us,⟨v,ws,e,h1,h⟩,k=>⟨v,ws++us,by simp[e],h1,aF.append cs (i+1) ws ds us h (by rw[show i+1+cs.length=i+(c::cs).length by simp;omega];exact k)⟩
end Go.AM
end
section
namespace Go.AM
open Go
def isAgg:Value->Bool| .agg _=>true|_=>false
def aC (a:Act) (w:World) (g:Gh):Root->List Value
 | .tmp n=>(a.eval (.tmp n)).cells.toList
 | .box n=>match w.heap[g.at_ n]? with
   |some (.cells cur _ _)=>cur.toList
   |_=>[]
def qm (s:St):Root->Nat
 | .tmp n=>(s.tm n).2
 | .box n=>match s.bx n with|some b=>b.inst|none=>0
structure Old (s:St) (p:Pl):Prop where
 inst:p.inst<=qm s p.root
 vers: ∀n b,p.root= .box n->s.bx n=some b->p.inst=b.inst-> ∀(i x:Nat) (c:CV) (v:Nat),p.vers[i]? =some x->b.cells[p.cell+i]? =some (c,v)->x<=v
def BZ (w:World) (g:Gh) (mk:Nat->aH) (i:Nat) (ag:Bool) (cs:List CV) (v:Value):Prop:=
 isAgg v=ag/\aF w g mk i cs v.cells.toList
def lI (w:World) (g:Gh) (mk:Nat->aH):Nat->List (Bool×List CV)->List Value->Prop
 |_,[],vs=>vs= []
 |i,(ag,cs)::ts,vs=> ∃v ws,vs=v::ws/\BZ w g mk i ag cs v/\lI w g mk (i+cs.length) ts ws
def zT (A:Option Addr) (c lo hi n:Nat):Value:= .slice (if c=lo then A else A.map (·.add (lo*n))) (hi-lo) (c-lo)
def PI (s:St) (a:Act) (w:World) (g:Gh) (p:Pl) (Φ:List Sh->Nat->Nat->List Value->Prop):Prop:=
 ∃i j,p.sub=some (i,j)/\ ∀es l,aW s p 1=some [⟨.dl es,.own,l⟩]->
  ∃b len k cur et f,(aC a w g p.root)[p.cell]? =some (.slice (some ⟨b,0,none⟩) len k)/\i<len/\w.heap[b]? =some (.cells cur et f)/\Φ es i j cur.toList
def Row1 (v:Value) (ag:Bool) (m:Nat) (es:List Sh) (i j:Nat) (cs:List Value):Prop:=isAgg v=ag/\v.cells.toList=(cs.drop (i*es.length+j)).take m
def ajf (v:Value) (k q:Nat) (es:List Sh) (i j:Nat) (cs:List Value):Prop:=
 ∃b' l' k' sh,es[j]? =some sh/\cs[i*es.length+j]? =some (.slice (some ⟨b',0,none⟩) l' k')/\k<l'/\v= .pointer (some ⟨b',k*sh.n+q,none⟩)
def afI (w:World) (g:Gh) (ow:aH) (q:CV) (v u:Value):Prop:=
 (∃b k l,u= .slice (some ⟨b,0,none⟩) (aQ q.sh q.x) k/\v= .slice (some ⟨b,0,none⟩) l k)\/uZ w g ow false q.sh q.x u
theorem afI.fr {K:aH->Prop} {w w':World} {g g':Gh} (f:Fr K w w' g g') {ow:aH} (hk:K ow) {q:CV} {v u:Value} (h:afI w g ow q v u):afI w' g' ow q v u:=
 h.imp id λ h=>h.fr f hk
def TV0 (s:St) (a:Act) (w:World) (g:Gh) (mk:Nat->aH):T->Value->Prop
 | .dead,_=>True
 | .undef,v=>v=undef
 | .nilc,_=>False
 | .val ag cs,v=>BZ w g mk 0 ag cs v
 | .ref p ag m,v=>Old s p/\p.vers.length=m/\p.sub=none/\ ∀cs,aW s p m=some cs->isAgg v=ag/\v.cells.toList=((aC a w g p.root).drop p.cell).take m
 | .rsub p z lo hi,v=>Old s p/\p.vers.length=1/\p.sub=none/\(z=true->lo=0)/\ ∀c,aW s p 1=some [c]->
  ∃A l k,(aC a w g p.root)[p.cell]? =some (.slice A l k)/\lo<=hi/\hi<=l/\l<=k/\v=zT A k lo hi c.sh.n
 | .addr p,v=>Old s p/\match p.sub with
  |none=> ∃n,p.root= .box n/\ ∀b,s.bx n=some b->b.inst=p.inst->v= .pointer (some ⟨g.at_ n,p.cell,none⟩)
  |some (i,j)=>p.vers.length=1/\ ∀c,aW s p 1=some [c]->
   ∃b l k,(aC a w g p.root)[p.cell]? =some (.slice (some ⟨b,0,none⟩) l k)/\i<l/\v= .pointer (some ⟨b,i*c.sh.n+j,none⟩)
 | .rowr p ag m,v=>Old s p/\p.vers.length=1/\PI s a w g p (Row1 v ag m)
 | .addr2 p k q,v=>Old s p/\p.vers.length=1/\PI s a w g p (ajf v k q)
 | .paddr cs off,v=> ∃(ad:Addr) (vs:List Value),v= .pointer (some ⟨ad.block,ad.off+off,none⟩)/\Nz w g.F ad vs/\bD cs=true/\aF w g mk 0 cs vs
 | .tup ts,v=> ∃vs,v= .tuple vs.toArray/\lI w g mk 0 ts vs
 | .fn f,v=>v= .func (.func f) #[] #[]
 | .clo _ _,_=>False
 | .ext p q c,v=>Old s p/\p.vers.length=1/\p.sub=none/\isAgg v=false/\jE w g (mk 0) c v/\Ye q.sh=true/\q.tg= .own/\c.sh=q.sh/\
  ∀e,aW s p 1=some [e]-> ∃u,(aC a w g p.root)[p.cell]? =some u/\afI w g (mk 1) q v u
def nN (s:St) (a:Act) (w:World) (g:Gh) (mk:Nat->aH):List T->List Value->Prop
 | [],vs=>vs= []
 |t::ts,vs=> ∃v ws,vs=v::ws/\(match t with| .addr _=>True| .paddr _ _=>True|_=>False)/\TV0 s a w g mk t v/\nN s a w g mk ts ws
def TV (s:St) (a:Act) (w:World) (g:Gh) (mk:Nat->aH) (t:T) (v:Value):Prop:=
 match t with
 | .clo f ts=> ∃vs,v= .func (.func f) #[] vs.toArray/\nN s a w g mk ts vs
 |t=>TV0 s a w g mk t v
def BR (w:World) (g:Gh) (n:Nat) (b:Bx):Prop:=
 ∃cur et,w.heap[g.at_ n]? =some (.cells cur et (0,0))/\g.own (g.at_ n)=some (.box n)/\(∀o,¬g.F (g.at_ n) o)/\aF w g (.cell n) 0 (b.cells.map (·.1)) cur.toList
structure Base (w0:World) (F0:Fz) (X:Nat->Prop) (w:World) (g:Gh):Prop where
 os:w.os=w0.os
 tape:w.tape=w0.tape
 output:w.output=w0.output
 size:w0.heap.size<=w.heap.size
 blk: ∀b,b<w0.heap.size-> ¬X b->w.heap[b]? =w0.heap[b]?
 own: ∀b ow,g.own b=some ow->(X b\/w0.heap.size<=b)/\b<w.heap.size
 keeps:Keeps w0 w F0 g.F
 fz: ∀b o,g.F b o->(F0 b o\/X b\/w0.heap.size<=b)/\b<w.heap.size
 frz: ∀b ow cs t f,g.own b=some ow->w.heap[b]? =some (.cells cs t f)->f=(0,0)
structure Ctx where
 w0:World
 F0:Fz
 X:Nat->Prop
 par:Nat->Option Value
 kept:Nat->Nat->Option Value
def KeptAt (s:St) (a:Act) (w:World) (g:Gh) (n j:Nat) (v:Value):Prop:= ∀cs,aW s ⟨.box n,0,[0],j,none⟩ 1=some cs->(aC a w g (.box n))[j]? =some v
def DOk (E:Env) (d:Nat):Prop:=E.fix d=false/\d<E.nt
structure Rel (E:Env) (C:Ctx) (s:St) (a:Act) (w:World) (g:Gh):Prop where
 tm: ∀n,TV s a w g (.tm n) (s.tm n).1 (a.eval (.tmp n))
 bx: ∀n b,s.bx n=some b->BR w g n b
 size:a.tmps.size=E.nt
 defers:a.defers= []
 glob: ∀gl cs,E.glob gl=some cs->bD cs=true/\ ∃vs,Nz w g.F ⟨gl,0,none⟩ vs/\aF w g .hand 0 cs vs
 base:Base C.w0 C.F0 C.X w g
 par: ∀n v,C.par n=some v->E.fix n=true->a.eval (.tmp n)=v
 aux: ∀n j v,C.kept n j=some v->(n,j)∈E.kept/\KeptAt s a w g n j v
theorem bg {α:Type} (f:Nat->α) (n:Nat) (v:α):put f n v n=v:=by simp[put]
theorem bF {α:Type} (f:Nat->α) (n:Nat) (v:α) {m:Nat} (h:m≠n):put f n v m=f m:=by
 have:Nat.beq m n=false:=by
  rw[←abU];intro hb;exact h (aal hb)
 simp[put,this]
theorem eval_put_same (a:Act) (d:Nat) (v:Value) (h:d<a.tmps.size):(a.put (some d) v).eval (.tmp d)=v:=by
 simp[Act.put,Act.eval,h]
theorem xB (a:Act) (d:Nat) (v:Value) {n:Nat} (h:n≠d):(a.put (some d) v).eval (.tmp n)=a.eval (.tmp n):=by
 simp only[Act.put,Act.eval,aa4,Array.getElem?_setIfInBounds];rw[if_neg (λ e=>h e.symm)]
theorem size_put (a:Act) (d:Option Tmp) (v:Value):(a.put d v).tmps.size=a.tmps.size:=by cases d<;>simp[Act.put]
theorem Ws (a:Act) (d:Option Tmp) (v:Value):(a.put d v).defers=a.defers:=by cases d<;>rfl
theorem FK {c':CV} {cs:List CV} (h: [c'].map CV.sh=cs.map CV.sh): ∃c,cs= [c]/\c'.sh=c.sh:=by
 match cs,h with
 | [],h=>simp at h
 | [c],h=>exact⟨c,rfl,by simpa using h⟩
 |_::_::_,h=>simp at h
structure BX (s s':St) (a a':Act) (w w':World) (g g':Gh) (r:Root):Prop where
 old: ∀p,p.root=r->Old s p->Old s' p
 cells: ∀p m cs',p.root=r->Old s p->p.vers.length=m->aW s' p m=some cs'->
  ∃cs,aW s p m=some cs/\cs'.map CV.sh=cs.map CV.sh/\((aC a' w' g' r).drop p.cell).take m=((aC a w g r).drop p.cell).take m
 at_: ∀n b' p,r= .box n->s'.bx n=some b'->p.root=r->Old s p->b'.inst=p.inst-> ∃b,s.bx n=some b/\b.inst=p.inst/\g'.at_ n=g.at_ n
 rows: ∀p es l',p.root=r->Old s p->p.vers.length=1->aW s' p 1=some [⟨.dl es,.own,l'⟩]-> ∃l,aW s p 1=some [⟨.dl es,.own,l⟩]/\
  ∀b len k,(aC a w g r)[p.cell]? =some (.slice (some ⟨b,0,none⟩) len k)->w'.heap[b]? =w.heap[b]?
theorem ng {α:Type} {l l':List α} {c:Nat} (h:(l.drop c).take 1=(l'.drop c).take 1):l[c]? =l'[c]? :=by
 have:=congrArg (λ x=>x[0]?) h;simpa [aaj,aan]using this
section
variable {s s':St} {a a':Act} {w w':World} {g g':Gh} {K:aH->Prop} {mk:Nat->aH}
theorem KeptAt.step {n j:Nat} {v:Value} (hr:BX s s' a a' w w' g g' (.box n)) (h:KeptAt s a w g n j v):KeptAt s' a' w' g' n j v:=λ cs hc=>by
 obtain⟨cs0,h0,_,hv⟩:=hr.cells ⟨.box n,0,[0],j,none⟩ 1 cs rfl ⟨abA _,λ _ _ _ _ _ i x c u hx _=>by
  cases i with
  |zero=>simp at hx;omega
  |succ i=>simp at hx⟩ rfl hc
 exact(ng hv).trans (h cs0 h0)
theorem lI.fr (f:Fr K w w' g g') (hk: ∀i,K (mk i)): ∀(ts:List (Bool×List CV)) (i:Nat) (vs:List Value),lI w g mk i ts vs->lI w' g' mk i ts vs
 | [],_,_,h=>h
 |(ag,cs)::ts,i,_,⟨v,ws,e,⟨h1,h2⟩,h⟩=>⟨v,ws,e,⟨h1,aF.fr f cs i _ hk h2⟩,lI.fr f hk ts _ ws h⟩
theorem PI.step {p:Pl} (hr:BX s s' a a' w w' g g' p.root) (ho:Old s p) (hv:p.vers.length=1) {Φ:List Sh->Nat->Nat->List Value->Prop} (h:PI s a w g p Φ):PI s' a' w' g' p Φ:=by
 obtain⟨i,j,hs,h⟩:=h;refine⟨i,j,hs,λ es l' hc=> ?_⟩;obtain⟨l,h1,h2⟩:=hr.rows p es l' rfl ho hv hc;obtain⟨_,_,_,hval⟩:=hr.cells p 1 _ rfl ho hv hc;obtain⟨b,len,k,cur,et,f,e1,e2,e3,e4⟩:=h es l h1;exact⟨b,len,k,cur,et,f,(ng hval).trans e1,e2,(h2 b len k e1).trans e3,e4⟩
theorem TV0.step (f:Fr K w w' g g') (hk: ∀i,K (mk i)) (hr: ∀r,BX s s' a a' w w' g g' r) {t:T} {v:Value} (h:TV0 s a w g mk t v):TV0 s' a' w' g' mk t v:=by
 cases t with
 |dead=>trivial
 |undef=>exact h
 |nilc=>exact h
 |val ag cs=>exact⟨h.1,aF.fr f cs 0 _ hk h.2⟩
 |ref p ag m=>
  obtain⟨ho,hv,hs,h⟩:=h;refine⟨(hr p.root).old p rfl ho,hv,hs,λ cs' hc'=> ?_⟩;obtain⟨cs,hc,_,hval⟩:=(hr p.root).cells p m cs' rfl ho hv hc';obtain⟨h1,h2⟩:=h cs hc;exact⟨h1,h2.trans hval.symm⟩
 |rsub p z lo hi=>
  obtain⟨ho,hv,hs,hz,h⟩:=h;refine⟨(hr p.root).old p rfl ho,hv,hs,hz,λ c' hc'=> ?_⟩;obtain⟨cs,hc,hsh,hval⟩:=(hr p.root).cells p 1 [c'] rfl ho hv hc';obtain⟨c,rfl,hsc⟩:=FK hsh;obtain⟨A,l,k,e,h1,h2,h3,h4⟩:=h c hc;exact⟨A,l,k,(ng hval).trans e,h1,h2,h3,by rw[hsc];exact h4⟩
 |addr p=>
  obtain⟨ho,h⟩:=h;refine⟨(hr p.root).old p rfl ho,?_⟩
  cases hsub:p.sub with
  |none=>
   rw[hsub]at h;obtain⟨n,hn,h⟩:=h;refine⟨n,hn,λ b' hb' hi=> ?_⟩;obtain⟨b,hb,hbi,hat⟩:=(hr p.root).at_ n b' p hn hb' rfl ho hi;rw[hat];exact h b hb hbi
  |some ij=>
   obtain⟨i,j⟩:=ij;rw[hsub]at h;obtain⟨hv,h⟩:=h;refine⟨hv,λ c' hc'=> ?_⟩;obtain⟨cs,hc,hsh,hval⟩:=(hr p.root).cells p 1 [c'] rfl ho hv hc';obtain⟨c,rfl,hsc⟩:=FK hsh;obtain⟨b,l,k,e,h1,h2⟩:=h c hc;exact⟨b,l,k,(ng hval).trans e,h1,by rw[hsc];exact h2⟩
 |rowr p ag m=>
  obtain⟨ho,hv,h⟩:=h;exact⟨(hr p.root).old p rfl ho,hv,h.step (hr p.root) ho hv⟩
 |addr2 p k q=>
  obtain⟨ho,hv,h⟩:=h;exact⟨(hr p.root).old p rfl ho,hv,h.step (hr p.root) ho hv⟩
 |paddr cs off=>
  obtain⟨ad,vs,e,h1,h2,h3⟩:=h;exact⟨ad,vs,e,h1.keeps f.keeps,h2,aF.fr f cs 0 vs hk h3⟩
 |tup ts=>
  obtain⟨vs,e,h⟩:=h;exact⟨vs,e,lI.fr f hk ts 0 vs h⟩
 |fn f=>exact h
 |clo f ts=>exact h.elim
 |ext p q c=>
  obtain⟨ho,hv,hs,h1,h2,h3,h4,h5,h6⟩:=h;refine⟨(hr p.root).old p rfl ho,hv,hs,h1,h2.fr f (hk 0),h3,h4,h5,λ e' he=> ?_⟩;obtain⟨cs,hc,hsh,hval⟩:=(hr p.root).cells p 1 [e'] rfl ho hv he;obtain⟨e,rfl,_⟩:=FK hsh;obtain⟨u,hu,hx⟩:=h6 e hc;exact⟨u,(ng hval).trans hu,hx.fr f (hk 1)⟩
theorem nN.step (f:Fr K w w' g g') (hk: ∀i,K (mk i)) (hr: ∀r,BX s s' a a' w w' g g' r): ∀(ts:List T) (vs:List Value),nN s a w g mk ts vs->nN s' a' w' g' mk ts vs
 | [],_,h=>h
 |t::ts,_,⟨v,ws,e,h0,h1,h⟩=>⟨v,ws,e,h0,TV0.step f hk hr h1,nN.step f hk hr ts ws h⟩
theorem TV.step (f:Fr K w w' g g') (hk: ∀i,K (mk i)) (hr: ∀r,BX s s' a a' w w' g g' r) {t:T} {v:Value} (h:TV s a w g mk t v):TV s' a' w' g' mk t v:=by
 cases t with
 |clo fn ts=>obtain⟨vs,e,h⟩:=h;exact⟨vs,e,nN.step f hk hr ts vs h⟩
 |dead=>exact TV0.step f hk hr (t:= .dead) (v:=v) h
 |undef=>exact TV0.step f hk hr (t:= .undef) h
 |nilc=>exact TV0.step f hk hr (t:= .nilc) (v:=v) h
 |val ag cs=>exact TV0.step f hk hr (t:= .val ag cs) h
 |ref p ag m=>exact TV0.step f hk hr (t:= .ref p ag m) h
 |rsub p z lo hi=>exact TV0.step f hk hr (t:= .rsub p z lo hi) h
 |addr p=>exact TV0.step f hk hr (t:= .addr p) h
 |rowr p ag m=>exact TV0.step f hk hr (t:= .rowr p ag m) h
 |addr2 p k q=>exact TV0.step f hk hr (t:= .addr2 p k q) h
 |paddr cs off=>exact TV0.step f hk hr (t:= .paddr cs off) h
 |tup ts=>exact TV0.step f hk hr (t:= .tup ts) h
 |fn f'=>exact TV0.step f hk hr (t:= .fn f') h
 |ext p q c=>exact TV0.step f hk hr (t:= .ext p q c) h
theorem BR.step {n:Nat} {b:Bx} (f:Fr K w w' g g') (hk: ∀i,K (.cell n i)) (hb:K (.box n)) (hat:g'.at_ n=g.at_ n) (h:BR w g n b):BR w' g' n b:=by
 obtain⟨cur,et,h1,h2,h3,h4⟩:=h;obtain⟨o1,o2,o3⟩:=f.own _ _ hb h2;exact⟨cur,et,by rw[hat];exact o2.trans h1,by rw[hat];exact o1,λ o ho=>h3 o (o3 o (by rw[hat]at ho;exact ho)),aF.fr f _ 0 _ hk h4⟩
end
theorem aF.uq {w w':World} {g g':Gh} (k:Keeps w w' g.F g'.F) {mk mk':Nat->aH}: ∀(cs:List CV) (i j:Nat) (vs:List Value),bD cs=true->aF w g mk i cs vs->aF w' g' mk' j cs vs
 | [],_,_,_,_,h=>h
 |c::cs,i,j,_,hp,⟨v,ws,e,h1,h⟩=>by
  simp only[bD,acA,aad]at hp;exact⟨v,ws,e,h1.pure k hp.1,aF.uq k cs (i+1) (j+1) ws hp.2 h⟩
theorem oJ {α β:Type} (f:α->β) (l:List α) (a b:Nat):((l.map f).drop a).take b=((l.drop a).take b).map f:=by
 simp[ab7,ab6]
theorem mQ (cs:List CV) (v:Nat):(cs.map λ c=>(c,v)).map (·.1)=cs:=by
 rw[abN];exact List.map_id cs
theorem BQ: ∀(vs ws:List Nat),Dw vs ws=true ↔ ∀(i x:Nat),vs[i]? =some x->ws[i]? =some x
 | [],ws=>by simp[Dw]
 |v::vs,[]=>by
  simp only[Dw,aa3,false_iff];intro h;have:=h 0 v rfl;simp at this
 |v::vs,w::ws=>by
  simp only[Dw,aad,BQ vs ws];constructor
  ·rintro⟨h1,h2⟩ i x hx
   cases i with
   |zero=>simp at hx ⊢;rw[←hx];exact(aal h1).symm
   |succ i=>simpa using h2 i x (by simpa using hx)
  ·intro h;refine⟨?_,λ i x hx=> ?_⟩
   ·have:=h 0 v rfl;simp at this;rw[this];exact acj v
   ·have:=h (i+1) x (by simpa using hx);simpa using this
theorem bI {s:St} {p:Pl} {n:Nat} {cs:List CV}:aW s p n=some cs ↔ ∃cells,aB s p.root=some (p.inst,cells)/\p.cell+n<=cells.length/\
 (∀(i x:Nat),p.vers[i]? =some x->(cells[p.cell+i]?).map (·.2)=some x)/\cs=((cells.drop p.cell).take n).map (·.1):=by
 unfold aW
 cases h:aB s p.root with
 |none=>simp
 |some ic=>
  obtain⟨inst,cells⟩:=ic
  have hand:(Nat.beq inst p.inst&&Nat.ble (p.cell+n) cells.length&&Dw p.vers ((cells.drop p.cell).map (·.2)))=true ↔
   inst=p.inst/\p.cell+n<=cells.length/\ ∀(i x:Nat),p.vers[i]? =some x->(cells[p.cell+i]?).map (·.2)=some x:=by
   rw[aad,aad,BQ];constructor
   ·rintro⟨⟨h1,h2⟩,h3⟩;exact⟨aal h1,aa6 h2,λ i x hx=>by have:=h3 i x hx;simpa [aan]using this⟩
   ·rintro⟨h1,h2,h3⟩;exact⟨⟨by rw[h1];exact acj _,Nat.ble_eq_true_of_le h2⟩,λ i x hx=>by simpa [aan]using h3 i x hx⟩
  simp only[];cases hb:(Nat.beq inst p.inst&&Nat.ble (p.cell+n) cells.length&&Dw p.vers ((cells.drop p.cell).map (·.2)))with
  |false=>
   simp only[cond_false];constructor
   ·intro h;cases h
   ·rintro⟨cs',e,h2,h3,h4⟩;cases e;have:=hand.2 ⟨rfl,h2,h3⟩;rw[hb]at this;cases this
  |true=>
   obtain⟨h1,h2,h3⟩:=hand.1 hb;simp only[cond_true,aae];constructor
   ·intro h;exact⟨cells,by rw[h1],h2,h3,h.symm⟩
   ·rintro⟨cs',e,_,_,h4⟩;cases e;exact h4.symm
def dJ:Root->Nat->aH
 | .tmp n=> .tm n
 | .box n=> .cell n
theorem vw (r:Root): ∀i j,dJ r i=dJ r j->i=j:=by cases r<;>simp[dJ]
section
variable {E:Env} {C:Ctx} {s s':St} {a a':Act} {w w':World} {g g':Gh} {K:aH->Prop}
theorem aF.sub {mk:Nat->aH} {cs:List CV} {i:Nat} {vs:List Value} (h:aF w g mk i cs vs) (k m:Nat):aF w g mk (i+k) ((cs.drop k).take m) ((vs.drop k).take m):=by
 refine aF.of _ _ _ (by simp[h.length]) λ j c v hc hv=> ?_;simp only[aaj,aan]at hc hv;split at hc
 ·rename_i hj;rw[if_pos hj]at hv;obtain⟨u,hu,hr⟩:=h.get cs i vs (k+j) c hc;rw[hu]at hv;cases hv
  rwa [show i+k+j=i+(k+j) by omega]
 ·cases hc
theorem Rel.root (h:Rel E C s a w g) {r:Root} {inst:Nat} {cells:List (CV×Nat)} (hc:aB s r=some (inst,cells)):aF w g (dJ r) 0 (cells.map (·.1)) (aC a w g r):=by
 cases r with
 |tmp n=>
  simp only[aB]at hc;split at hc
  ·rename_i ag cs v heq;cases hc;have:=h.tm n;rw[heq]at this;simp only[aC,dJ,mQ];exact this.2
  ·cases hc
 |box n=>
  simp only[aB]at hc;split at hc
  ·rename_i b heq;cases hc;obtain⟨cur,et,h1,_,_,h4⟩:=h.bx n b heq;simp only[aC,h1,dJ];exact h4
  ·cases hc
theorem Rel.pl (h:Rel E C s a w g) {p:Pl} {m:Nat} {cs:List CV} (hc:aW s p m=some cs):aF w g (dJ p.root) p.cell cs (((aC a w g p.root).drop p.cell).take m)/\cs.length=m:=by
 rw[bI]at hc;obtain⟨cells,e,hl,_,rfl⟩:=hc;have:=(h.root e).sub p.cell m;rw[aaW]at this;rw[←oJ];exact⟨this,by simp;omega⟩
theorem iZ (r:Root) (i j:Nat):dJ r i≠ .hand j:=by cases r<;>simp[dJ]
theorem Rel.adT (h:Rel E C s a w g) {p:Pl} {es:List Sh} {l:List (Option (ElA es))} (hc:aW s p 1=some [⟨.dl es,.own,l⟩]) {b len k:Nat}
 (hv:(aC a w g p.root)[p.cell]? =some (.slice (some ⟨b,0,none⟩) len k)):g.own b=some (dJ p.root p.cell):=by
 obtain⟨hr,_⟩:=h.pl hc;obtain⟨v,ws,e,h1,_⟩:=hr
 have e1:v= .slice (some ⟨b,0,none⟩) len k:=by
  have:=congrArg (λ l=>l[0]?) e;simp only[aaj,aan,aaU]at this;simp at this;rw[hv]at this;exact(aao this).symm
 subst e1;simp only[jE,Sh.pF,if_true]at h1;rcases h1 with⟨h1,_⟩|⟨b',c,cur,et,h1,_,_,ho,_⟩
 ·cases h1
 ·cases h1;exact ho
theorem Rel.vF (h:Rel E C s a w g) (f:Fr K w w' g g') {p:Pl} (hk:K (dJ p.root p.cell)) {es:List Sh} {l:List (Option (ElA es))} (hc:aW s p 1=some [⟨.dl es,.own,l⟩]) {b len k:Nat}
 (hv:(aC a w g p.root)[p.cell]? =some (.slice (some ⟨b,0,none⟩) len k)):w'.heap[b]? =w.heap[b]? :=(f.own _ _ hk (h.adT hc hv)).2.1
theorem Rel.gen (h:Rel E C s a w g) (f:Fr K w w' g g') (hb:Base C.w0 C.F0 C.X w' g') (hr: ∀r,BX s s' a a' w w' g g' r)
 (hsz:a'.tmps.size=a.tmps.size) (hdf:a'.defers=a.defers)
 (htm: ∀n,((∀i,K (.tm n i))/\(s'.tm n).1=(s.tm n).1/\a'.eval (.tmp n)=a.eval (.tmp n))\/TV s' a' w' g' (.tm n) (s'.tm n).1 (a'.eval (.tmp n)))
 (hbx: ∀n b,s'.bx n=some b->(s.bx n=some b/\(∀i,K (.cell n i))/\K (.box n)/\g'.at_ n=g.at_ n)\/BR w' g' n b) (hpar: ∀n,E.fix n=true->a'.eval (.tmp n)=a.eval (.tmp n):=by intro n _;rfl):Rel E C s' a' w' g':=by
 refine⟨λ n=> ?_,λ n b hn=> ?_,hsz.trans h.size,hdf.trans h.defers,λ gl cs hg=> ?_,hb,λ n v hv hf=>(hpar n hf).trans (h.par n v hv hf),λ n j v hv=>⟨(h.aux n j v hv).1,(h.aux n j v hv).2.step (hr _)⟩⟩
 ·rcases htm n with⟨hk,ht,hv⟩|ht
  ·rw[ht,hv];exact TV.step f hk hr (h.tm n)
  ·exact ht
 ·rcases hbx n b hn with⟨h1,hk,hk',hat⟩|h1
  ·exact BR.step f hk hk' hat (h.bx n b h1)
  ·exact h1
 ·obtain⟨h1,vs,h2,h3⟩:=h.glob gl cs hg;exact⟨h1,vs,h2.keeps f.keeps,aF.uq f.keeps cs 0 0 vs h1 h3⟩
theorem BX.same {r:Root} (hi:qm s' r=qm s r) (hc:aB s' r=aB s r) (hbx: ∀n,r= .box n->s'.bx n=s.bx n/\((s.bx n).isSome=true->g'.at_ n=g.at_ n))
 (hv:(aB s r).isSome=true->aC a' w' g' r=aC a w g r)
 (hd: ∀p es l,p.root=r->aW s p 1=some [⟨.dl es,.own,l⟩]-> ∀b len k,(aC a w g r)[p.cell]? =some (.slice (some ⟨b,0,none⟩) len k)->w'.heap[b]? =w.heap[b]?):BX s s' a a' w w' g g' r:=by
 have hpl: ∀p m cs',p.root=r->aW s' p m=some cs'->aW s p m=some cs':=by
  intro p m cs' hp h;rw[bI]at h ⊢;rw[hp,hc]at h;rw[hp];exact h
 refine⟨λ p hp ho=>⟨by have:=ho.inst;rw[hp]at this ⊢;omega,λ n b e hb hi=> ?_⟩,λ p m cs' hp ho _ h=>⟨cs',?_,rfl,?_⟩,λ n b' p hr hb hp ho hi=> ?_,λ p es l hp ho _ h=>⟨l,hpl p 1 _ hp h,hd p es l hp (hpl p 1 _ hp h)⟩⟩
 ·have:=hbx n (hp▸e);rw[this.1]at hb;exact ho.vers n b e hb hi
 ·rw[bI]at h ⊢;rw[hp,hc]at h;rw[hp];exact h
 ·rw[hv];rw[bI]at h;obtain⟨cells,e,_⟩:=h;rw[hp,hc]at e;rw[e];rfl
 ·have:=hbx n hr;rw[this.1]at hb;exact⟨b',hb,hi,this.2 (by rw[hb];rfl)⟩
theorem Rel.Il (h:Rel E C s a w g) (f:Fr K w w' g g') {n:Nat} (hk:K (.box n)) (hat:g'.at_ n=g.at_ n) (hs:(aB s (.box n)).isSome=true):aC a' w' g' (.box n)=aC a w g (.box n):=by
 simp only[aB]at hs
 cases hb:s.bx n with
 |none=>rw[hb]at hs;simp at hs
 |some b=>
  obtain⟨cur,et,_,h2,_,_⟩:=h.bx n b hb;obtain⟨_,o2,_⟩:=f.own _ _ hk h2;simp only[aC,hat,o2]
theorem Rel.world (h:Rel E C s a w g) (f:Fr (λ o=> ∀i,o≠ .hand i) w w' g g') (hb:Base C.w0 C.F0 C.X w' g') (hat:g'.at_=g.at_):Rel E C s a w' g':=
 h.gen f hb (λ r=>BX.same rfl rfl (λ n _=>⟨rfl,λ _=>by rw[hat]⟩) (λ hs=>by
  cases r with
  |tmp n=>rfl
  |box n=>exact h.Il f (λ i=>by simp) (by rw[hat]) hs) (λ p es l hp hc b len k hv=>h.vF f (λ i=>iZ _ _ _) hc (by rw[hp];exact hv))) rfl rfl
  (λ n=> .inl ⟨λ i j=>by simp,rfl,rfl⟩) (λ n b hn=> .inl ⟨hn,λ i j=>by simp,λ j=>by simp,by rw[hat]⟩)
theorem Rel.Jw (h:Rel E C s a w g) {d:Nat} {t:T} (f:Fr (λ o=>(∀i,o≠ .tm d i)/\ ∀i,o≠ .hand i) w w' g g') (hb:Base C.w0 C.F0 C.X w' g') (hat:g'.at_=g.at_)
 (hsh: ∀ag' cs',t= .val ag' cs'-> ∃ag cs,(s.tm d).1= .val ag cs/\cs'.map CV.sh=cs.map CV.sh/\
  ∀(i:Nat) es l',cs'[i]? =some ⟨.dl es,.own,l'⟩-> ∃l,cs[i]? =some ⟨.dl es,.own,l⟩/\ ∀b len k,(a.eval (.tmp d)).cells.toList[i]? =some (.slice (some ⟨b,0,none⟩) len k)->w'.heap[b]? =w.heap[b]?)
 (ht:TV (s.dM [.keep d t]) a w' g' (.tm d) t (a.eval (.tmp d))):Rel E C (s.dM [.keep d t]) a w' g':=by
 have hs:s.dM [.keep d t]= {s with tm:=put s.tm d (t,(s.tm d).2)}:=rfl;refine h.gen f hb (λ r=> ?_) rfl rfl (λ n=> ?_) (λ n b hn=> .inl ⟨hn,λ i=>⟨λ j=>by simp,λ j=>by simp⟩,⟨λ j=>by simp,λ j=>by simp⟩,by rw[hat]⟩)
 ·rw[hs]
  cases r with
  |tmp n=>
   by_cases hn:n=d
   ·subst hn
    have key: ∀(p:Pl) m cs',p.root= .tmp n->aW {s with tm:=put s.tm n (t,(s.tm n).2)} p m=some cs'-> ∃ag' cs1 ag cs,t= .val ag' cs1/\(s.tm n).1= .val ag cs/\cs'=(cs1.drop p.cell).take m/\p.cell+m<=cs1.length/\
     aW s p m=some ((cs.drop p.cell).take m)/\cs1.map CV.sh=cs.map CV.sh/\ ∀(i:Nat) es l',cs1[i]? =some ⟨.dl es,.own,l'⟩-> ∃l,cs[i]? =some ⟨.dl es,.own,l⟩/\ ∀b len k,(a.eval (.tmp n)).cells.toList[i]? =some (.slice (some ⟨b,0,none⟩) len k)->w'.heap[b]? =w.heap[b]? :=by
     intro p m cs' hp hc;rw[bI]at hc;obtain⟨cells,e,h1,h2,h3⟩:=hc;rw[hp]at e;simp only[aB,bg]at e;split at e
     ·rename_i ag' cs1 v heq;simp only[aas]at heq;obtain⟨e1,e2⟩:=heq;obtain⟨ag,cs,h4,h5,h6⟩:=hsh ag' cs1 e1;have hl:cs1.length=cs.length:=by have:=congrArg List.length h5;simpa using this
      cases e
      have hcs:aW s p m=some ((cs.drop p.cell).take m):=by
       rw[bI];refine⟨cs.map λ c=>(c,p.inst),?_,by simpa [←hl]using h1,λ i x hx=> ?_,by rw[←oJ,mQ]⟩
       ·rw[hp];simp only[aB];have:s.tm n=(.val ag cs,p.inst):=by rw[←h4,←e2]
        rw[this]
       ·have:=h2 i x hx;simp only[aar,Option.map_map]at this ⊢
        cases hc1:cs1[p.cell+i]? with
        |none=>rw[hc1]at this;simp at this
        |some c=>
         have hlt:p.cell+i<cs.length:=by
          rw[←hl];rcases aaE (p.cell+i) cs1.length with h|h
          ·exact h
          ·simp[aah h]at hc1
         rw[aac hlt];rw[hc1]at this;simpa using this
      refine⟨ag',cs1,ag,cs,e1,h4,?_,by simpa using h1,hcs,h5,h6⟩;rw[h3,←oJ,mQ]
     ·cases e
    refine⟨λ p hp ho=>⟨?_,λ k b e=>by rw[hp]at e;cases e⟩,λ p m cs' hp ho _ hc=> ?_,λ k b p e=>(by cases e),λ p es l' hp ho hv hc=> ?_⟩
    ·have:=ho.inst;rw[hp]at this ⊢;simp only[qm,bg]at this ⊢;exact this
    ·obtain⟨ag',cs1,ag,cs,e1,e2,rfl,_,hcs,h5,_⟩:=key p m cs' hp hc;refine⟨_,hcs,?_,rfl⟩;simp only[ab7,ab6,h5]
    ·obtain⟨ag',cs1,ag,cs,e1,e2,e3,hle,hcs,h5,h6⟩:=key p 1 _ hp hc
     have e4:cs1[p.cell]? =some ⟨.dl es,.own,l'⟩:=by
      have:=congrArg (λ l=>l[0]?) e3;simp only[aaj,aan,aaU]at this;simpa using this.symm
     obtain⟨l,e5,e6⟩:=h6 p.cell es l' e4;refine⟨l,?_,λ b len k hv=>e6 b len k hv⟩;rw[hcs]
     have hlt:p.cell<cs.length:=by
      rcases aaE p.cell cs.length with h|h
      ·exact h
      ·simp[aah h]at e5
     rw[aaI hlt];rw[aac hlt]at e5;rw[List.take_succ_cons,ace,aao e5]
   ·exact BX.same (by simp only[qm,bF _ _ _ hn]) (by simp only[aB,bF _ _ _ hn]) (λ k e=>by cases e) (λ _=>rfl) (λ p es l hp hc b len k hv=>h.vF f ⟨λ i e=>(by rw[hp]at e;cases e;exact hn rfl),λ i=>iZ _ _ _⟩ hc (by rw[hp];exact hv))
  |box n=>exact BX.same rfl rfl (λ k e=>⟨rfl,λ _=>by rw[hat]⟩) (h.Il f ⟨λ i=>by simp,λ i=>by simp⟩ (by rw[hat])) (λ p es l hp hc b len k hv=>h.vF f ⟨λ i e=>(by rw[hp]at e;cases e),λ i=>iZ _ _ _⟩ hc (by rw[hp];exact hv))
 ·by_cases hn:n=d
  ·subst hn;right;have:((s.dM [.keep n t]).tm n).1=t:=by rw[hs];simp[bg]
   rw[this];exact ht
  ·left;exact⟨λ i=>⟨λ j e=>by cases e;exact hn rfl,λ j=>by simp⟩,by rw[hs];simp[bF _ _ _ hn],rfl⟩
end
theorem Rel.OY {E:Env} {C:Ctx} {s:St} {a:Act} {w w':World} {g g':Gh} (h:Rel E C s a w g) (d:Nat) (t:T) (v:Value)
 (f:Fr (λ o=>(∀i,o≠ .tm d i)/\ ∀i,o≠ .hand i) w w' g g') (hat:g'.at_=g.at_): ∀r,BX s (s.dM [.tm d t]) a (a.put (some d) v) w w' g g' r:=by
 have hs:s.dM [.tm d t]= {s with tm:=put s.tm d (t,(s.tm d).2+1)}:=rfl;rw[hs];intro r
 cases r with
 |tmp n=>
  by_cases hn:n=d
  ·subst hn
   have key: ∀p m cs',p.root= .tmp n->Old s p->aW {s with tm:=put s.tm n (t,(s.tm n).2+1)} p m=some cs'->False:=by
    intro p m cs' hp ho hc;have hi:=ho.inst;rw[hp]at hi;simp only[qm]at hi;unfold aW at hc;rw[hp]at hc;simp only[aB,bg]at hc;split at hc
    ·rename_i inst cs heq;split at heq
     ·cases heq;simp only[cond_eq_ite,aad]at hc;split at hc
      ·rename_i hh;have:=aal hh.1.1;simp_all;omega
      ·cases hc
     ·cases heq
    ·cases hc
   refine⟨λ p hp ho=>⟨?_,λ k b e=>by rw[hp]at e;cases e⟩,λ p m cs' hp ho _ hc=>(key p m cs' hp ho hc).elim,λ k b p e=>(by cases e),λ p es l' hp ho _ hc=>(key p _ _ hp ho hc).elim⟩;have:=ho.inst;rw[hp]at this ⊢;simp only[qm,bg]at this ⊢;omega
  ·have hpl: ∀p m,p.root= .tmp n->aW {s with tm:=put s.tm d (t,(s.tm d).2+1)} p m=aW s p m:=by
    intro p m hp;unfold aW;rw[hp];simp only[aB,bF _ _ _ hn]
   refine⟨λ p hp ho=>⟨?_,λ k b e=>by rw[hp]at e;cases e⟩,λ p m cs' hp ho _ hc=>⟨cs',?_,rfl,?_⟩,λ k b p e=>(by cases e),λ p es l hp ho _ hc=>⟨l,(hpl p 1 hp).symm.trans hc,λ b len k hv=>h.vF f ⟨λ i e=>(by rw[hp]at e;cases e;exact hn rfl),λ i=>iZ _ _ _⟩ ((hpl p 1 hp).symm.trans hc) (by rw[hp];exact hv)⟩⟩
   ·have:=ho.inst;rw[hp]at this ⊢;simp only[qm,bF _ _ _ hn]at this ⊢;exact this
   ·unfold aW at hc ⊢;rw[hp]at hc ⊢;simp only[aB,bF _ _ _ hn]at hc ⊢;exact hc
   ·simp only[aC,xB _ _ _ hn]
 |box n=>
  have hpl: ∀p m,p.root= .box n->aW {s with tm:=put s.tm d (t,(s.tm d).2+1)} p m=aW s p m:=by
   intro p m hp;unfold aW;rw[hp];rfl
  refine⟨λ p hp ho=>⟨?_,λ k b e hb hi=>ho.vers k b e hb hi⟩,λ p m cs' hp ho _ hc=>⟨cs',?_,rfl,?_⟩,λ k b p e hb hp ho hi=>⟨b,hb,hi,(by rw[hat])⟩,λ p es l hp ho _ hc=>⟨l,(hpl p 1 hp).symm.trans hc,λ b len k hv=>h.vF f ⟨λ i e=>(by rw[hp]at e;cases e),λ i=>iZ _ _ _⟩ ((hpl p 1 hp).symm.trans hc) (by rw[hp];exact hv)⟩⟩
  ·have:=ho.inst;rw[hp]at this ⊢;exact this
  ·unfold aW at hc ⊢;rw[hp]at hc ⊢;exact hc
  ·have: ∃b,s.bx n=some b:=by
    unfold aW at hc;rw[hp]at hc;simp only[aB]at hc
    cases hbx:s.bx n with
    |none=>rw[hbx]at hc;simp at hc
    |some b=>exact⟨b,rfl⟩
   obtain⟨b,hbx⟩:=this;obtain⟨cur,et,h1,h2,_,_⟩:=h.bx n b hbx;obtain⟨_,o2,_⟩:=f.own _ _ ⟨λ i=>by simp,λ i=>by simp⟩ h2;simp only[aC,hat,o2]
theorem ads (a:Act) (d:Nat):a.put (some d) (a.eval (.tmp d))=a:=by
 have:a.tmps.setIfInBounds d (a.eval (.tmp d))=a.tmps:=by
  apply Array.ext_getElem?;intro i;simp only[Array.getElem?_setIfInBounds,Act.eval,aa4];split
  ·rename_i e;subst e;by_cases h:d<a.tmps.size
   ·simp[h]
   ·simp[h]
  ·rfl
 show{a with tmps:=a.tmps.setIfInBounds d _}=a;rw[this]
theorem Rel.adP {E:Env} {C:Ctx} {s:St} {a:Act} {w w':World} {g g':Gh} (h:Rel E C s a w g) {d:Nat} {t:T} (f:Fr (λ o=>(∀i,o≠ .tm d i)/\ ∀i,o≠ .hand i) w w' g g') (hb:Base C.w0 C.F0 C.X w' g') (hat:g'.at_=g.at_)
 (ht:TV (s.dM [.tm d t]) a w' g' (.tm d) t (a.eval (.tmp d))):Rel E C (s.dM [.tm d t]) a w' g':=by
 have hr:=h.OY d t (a.eval (.tmp d)) f hat;rw[ads]at hr;refine h.gen f hb hr rfl rfl (λ n=> ?_) (λ n b hn=> .inl ⟨hn,λ i=>⟨λ j=>by simp,λ j=>by simp⟩,⟨λ j=>by simp,λ j=>by simp⟩,by rw[hat]⟩);have hs:s.dM [.tm d t]= {s with tm:=put s.tm d (t,(s.tm d).2+1)}:=rfl;by_cases hn:n=d
 ·subst hn;right;have:((s.dM [.tm n t]).tm n).1=t:=by rw[hs];simp[bg]
  rw[this];exact ht
 ·left;exact⟨λ i=>⟨λ j e=>by cases e;exact hn rfl,λ j=>by simp⟩,by rw[hs];simp[bF _ _ _ hn],rfl⟩
theorem Rel.U4 {E:Env} {C:Ctx} {s:St} {a:Act} {w w':World} {g g':Gh} (h:Rel E C s a w g) {d:Nat} (hd:DOk E d) {t:T} {v:Value}
 (f:Fr (λ o=>(∀i,o≠ .tm d i)/\ ∀i,o≠ .hand i) w w' g g') (hb:Base C.w0 C.F0 C.X w' g') (hat:g'.at_=g.at_)
 (ht:TV (s.dM [.tm d t]) (a.put (some d) v) w' g' (.tm d) t v):Rel E C (s.dM [.tm d t]) (a.put (some d) v) w' g':=by
 have hs:s.dM [.tm d t]= {s with tm:=put s.tm d (t,(s.tm d).2+1)}:=rfl;have hds:d<a.tmps.size:=by rw[h.size];exact hd.2
 have hr:=h.OY d t v f hat
 refine⟨λ n=> ?_,λ n b hbx=> ?_,by rw[size_put];exact h.size,by rw[Ws];exact h.defers,λ gl cs hg=> ?_,hb,λ n u hu hf=>by
  rw[xB _ _ _ (λ e=>by rw[e,hd.1]at hf;cases hf)];exact h.par n u hu hf,λ n j u hu=>⟨(h.aux n j u hu).1,(h.aux n j u hu).2.step (hr _)⟩⟩
 ·by_cases hn:n=d
  ·subst hn;rw[eval_put_same _ _ _ hds];have:((s.dM [.tm n t]).tm n).1=t:=by rw[hs];simp[bg]
   rw[this];exact ht
  ·rw[xB _ _ _ hn];have:((s.dM [.tm d t]).tm n).1=(s.tm n).1:=by rw[hs];simp[bF _ _ _ hn]
   rw[this];exact TV.step f (λ i=>⟨λ j e=>by cases e;exact hn rfl,λ j=>by simp⟩) hr (h.tm n)
 ·exact BR.step f (λ i=>⟨λ j=>by simp,λ j=>by simp⟩) ⟨λ j=>by simp,λ j=>by simp⟩ (by rw[hat]) (h.bx n b hbx)
 ·obtain⟨h1,vs,h2,h3⟩:=h.glob gl cs hg;exact⟨h1,vs,h2.keeps f.keeps,aF.uq f.keeps cs 0 0 vs h1 h3⟩
end Go.AM
end
section
namespace Go.AM
open Go
section
variable {E:Env} {C:Ctx} {s s':St} {a a':Act} {w w':World} {g g':Gh}
theorem Pn {α:Type} {l l':List α} {c m:Nat} (h: ∀i,i<m->l[c+i]? =l'[c+i]?):(l.drop c).take m=(l'.drop c).take m:=by
 apply aaP;intro i;simp only[aaj,aan];split
 ·rename_i hi;exact h i hi
 ·rfl
theorem Rel.afa (h:Rel E C s a w g) {n:Nat} {b':Bx} (f:Fr (λ o=>(∀i,o≠ .cell n i)/\o≠ .box n/\ ∀i,o≠ .hand i) w w' g g') (hb:Base C.w0 C.F0 C.X w' g') (hat: ∀m,m≠n->g'.at_ m=g.at_ m)
 (hk:qm s (.box n)<b'.inst\/ ∃b,s.bx n=some b/\b'.inst=b.inst/\b'.cells.length=b.cells.length/\g'.at_ n=g.at_ n/\
  ∀(i:Nat) (c:CV) (v:Nat),b.cells[i]? =some (c,v)-> ∃(c':CV) (v':Nat),b'.cells[i]? =some (c',v')/\c'.sh=c.sh/\v<=v'/\(v'=v->(aC a w' g' (.box n))[i]? =(aC a w g (.box n))[i]? /\
   ∀es l',c'=⟨.dl es,.own,l'⟩-> ∃l,c=⟨.dl es,.own,l⟩/\ ∀bl len k,(aC a w g (.box n))[i]? =some (.slice (some ⟨bl,0,none⟩) len k)->w'.heap[bl]? =w.heap[bl]?))
 (hr:BR w' g' n b'):Rel E C (s.dM [.bx n b']) a w' g':=by
 have hs:s.dM [.bx n b']= {s with bx:=put s.bx n (some b')}:=rfl;refine h.gen f hb (λ r=> ?_) rfl rfl (λ m=> .inl ⟨λ i=>⟨λ j=>by simp,by simp,λ j=>by simp⟩,by rw[hs],rfl⟩) (λ m b hm=> ?_)
 ·rw[hs]
  cases r with
  |tmp m=>exact BX.same rfl rfl (λ k e=>by cases e) (λ _=>rfl) (λ p es l hp hc b len k hv=>h.vF f ⟨λ i=>by rw[hp];simp[dJ],by rw[hp];simp[dJ],λ i=>iZ _ _ _⟩ hc (by rw[hp];exact hv))
  |box m=>
   by_cases hm:m=n
   ·subst hm;rcases hk with hk|⟨b,hbs,hi,hl,hat',hc⟩
    ·refine⟨λ p hp ho=>⟨?_,λ k b1 e h1 h2=> ?_⟩,λ p k cs' hp ho _ hc=> ?_,λ k b1 p e h1 hp ho h2=> ?_,λ p es l' hp ho _ hc=> ?_⟩
     ·have:=ho.inst;rw[hp]at this ⊢;simp only[qm,bg]at hk this ⊢;omega
     ·exfalso;rw[hp]at e;cases e;simp only[bg,aae]at h1;subst h1;have:=ho.inst;rw[hp]at this;omega
     ·exfalso;rw[bI]at hc;obtain⟨cells,e,_⟩:=hc;rw[hp]at e;simp only[aB,bg,aae,aas]at e;have:=ho.inst;rw[hp]at this;omega
     ·exfalso;cases e;simp only[bg,aae]at h1;subst h1;have:=ho.inst;rw[hp]at this;omega
     ·exfalso;rw[bI]at hc;obtain⟨cells,e,_⟩:=hc;rw[hp]at e;simp only[aB,bg,aae,aas]at e;have:=ho.inst;rw[hp]at this;omega
    ·have keyA: ∀(p:Pl) (k:Nat) cs',p.root= .box m->Old s p->p.vers.length=k->aW {s with bx:=put s.bx m (some b')} p k=some cs'->
      ((∀i,i<k-> ∃c c' v,b.cells[p.cell+i]? =some (c,v)/\b'.cells[p.cell+i]? =some (c',v)/\c'.sh=c.sh/\p.vers[i]? =some v/\(aC a w' g' (.box m))[p.cell+i]? =(aC a w g (.box m))[p.cell+i]? /\
        ∀es l',c'=⟨.dl es,.own,l'⟩-> ∃l,c=⟨.dl es,.own,l⟩/\ ∀bl len k,(aC a w g (.box m))[p.cell+i]? =some (.slice (some ⟨bl,0,none⟩) len k)->w'.heap[bl]? =w.heap[bl]?)/\
      aW s p k=some (((b.cells.drop p.cell).take k).map (·.1))/\cs'=((b'.cells.drop p.cell).take k).map (·.1)):=by
      intro p k cs' hp ho hv hcc;rw[bI]at hcc;obtain⟨cells,e,h1,h2,h3⟩:=hcc;rw[hp]at e;simp only[aB,bg]at e;simp only[aae,aas]at e;obtain⟨e1,e2⟩:=e;subst e2
      have key: ∀i,i<k-> ∃c c' v,b.cells[p.cell+i]? =some (c,v)/\b'.cells[p.cell+i]? =some (c',v)/\c'.sh=c.sh/\p.vers[i]? =some v/\(aC a w' g' (.box m))[p.cell+i]? =(aC a w g (.box m))[p.cell+i]? /\
       ∀es l',c'=⟨.dl es,.own,l'⟩-> ∃l,c=⟨.dl es,.own,l⟩/\ ∀bl len k,(aC a w g (.box m))[p.cell+i]? =some (.slice (some ⟨bl,0,none⟩) len k)->w'.heap[bl]? =w.heap[bl]? :=by
       intro i hik;have hlt:p.cell+i<b.cells.length:=by omega
       obtain⟨c',v',h4,h5,h6,h7⟩:=hc (p.cell+i) (b.cells[p.cell+i].1) (b.cells[p.cell+i].2) (by rw[aac hlt]);have hx:p.vers[i]? =some (p.vers[i]'(by omega)):=aac _;have h8:=h2 i _ hx;rw[h4]at h8;simp only[aaK,aae]at h8;have h9:=ho.vers m b hp hbs (by rw[←e1,hi]) i _ _ _ hx (by rw[aac hlt]);have h10:v'=b.cells[p.cell+i].2:=by omega
       subst h10;exact⟨_,c',_,by rw[aac hlt],h4,h5,by rw[hx,←h8],(h7 rfl).1,(h7 rfl).2⟩
      refine⟨key,?_,h3⟩;rw[bI];refine⟨b.cells,by rw[hp];simp only[aB,hbs];rw[←hi,e1],by omega,λ i x hx=> ?_,rfl⟩
      have hik:i<k:=by
       rw[←hv];rcases aaE i p.vers.length with h|h
       ·exact h
       ·simp[aah h]at hx
      obtain⟨c,c',v,k1,_,_,k2,_⟩:=key i hik;rw[k1];rw[hx]at k2;simpa using k2.symm
     refine⟨λ p hp ho=>⟨?_,λ k b1 e h1 h2 i x c v hx hv=> ?_⟩,λ p k cs' hp ho hv hcc=> ?_,λ k b1 p e h1 hp ho h2=> ?_,λ p es l' hp ho hv hcc=> ?_⟩
     ·have:=ho.inst;rw[hp]at this ⊢;simp only[qm,bg,hbs]at this ⊢;omega
     ·rw[hp]at e;cases e;simp only[bg,aae]at h1;subst h1
      have hlt:p.cell+i<b.cells.length:=by
       rw[←hl];rcases aaE (p.cell+i) b'.cells.length with h|h
       ·exact h
       ·simp[aah h]at hv
      obtain⟨c',v',h4,_,h5,_⟩:=hc (p.cell+i) (b.cells[p.cell+i].1) (b.cells[p.cell+i].2) (by rw[aac hlt]);rw[hv]at h4;cases h4;have:=ho.vers m b hp hbs (by rw[h2,hi]) i x _ _ hx (by rw[aac hlt]);omega
     ·obtain⟨key,hpl,h3⟩:=keyA p k cs' hp ho hv hcc;have hvals:=Pn (m:=k) (λ i hik=>by obtain⟨_,_,_,_,_,_,_,h,_⟩:=key i hik;exact h);refine⟨((b.cells.drop p.cell).take k).map (·.1),hpl,?_,hvals⟩
      ·rw[h3];simp only[abN];apply aaP;intro i;simp only[aar,aaj,aan];by_cases hik:i<k
       ·rw[if_pos hik,if_pos hik];obtain⟨c,c',v,k1,k2,k3,_⟩:=key i hik;rw[k1,k2];simp[k3]
       ·rw[if_neg hik,if_neg hik]
     ·cases e;simp only[bg,aae]at h1;subst h1;exact⟨b,hbs,by rw[←hi,h2],hat'⟩
     ·obtain⟨key,hpl,h3⟩:=keyA p 1 _ hp ho hv hcc;obtain⟨c,c',v,k1,k2,_,_,_,k3⟩:=key 0 (by omega);rw[aaU]at k1 k2 k3
      have e4:c'=⟨.dl es,.own,l'⟩:=by
       have:=congrArg (λ l=>l[0]?) h3;simp only[aar,aaj,aan,aaU,k2]at this;simpa using this.symm
      obtain⟨l,e5,e6⟩:=k3 es l' e4;refine⟨l,?_,e6⟩;rw[hpl]
      have hlt:p.cell<b.cells.length:=by
       rcases aaE p.cell b.cells.length with h|h
       ·exact h
       ·simp[aah h]at k1
      rw[aaI hlt];rw[aac hlt]at k1;rw[List.take_succ_cons,ace,aao k1,abf,e5];rfl
   ·refine BX.same (by simp only[qm,bF _ _ _ hm]) (by simp only[aB,bF _ _ _ hm]) (λ k e=> ?_) ?_ ?_
    ·cases e;exact⟨bF _ _ _ hm,λ _=>hat m hm⟩
    ·exact h.Il f ⟨λ i=>by simp,λ e=>by cases e;exact hm rfl,λ i=>by simp⟩ (hat m hm)
    ·exact λ p es l hp hc b len k hv=>h.vF f ⟨λ i e=>(by rw[hp]at e;cases e;exact hm rfl),by rw[hp];simp[dJ],λ i=>iZ _ _ _⟩ hc (by rw[hp];exact hv)
 ·rw[hs]at hm;by_cases hmn:m=n
  ·subst hmn;simp only[bg,aae]at hm;subst hm;exact .inr hr
  ·simp only[bF _ _ _ hmn]at hm;exact .inl ⟨hm,λ i=>⟨λ j e=>by cases e;exact hmn rfl,by simp,λ j=>by simp⟩,⟨λ j=>by simp,λ e=>by cases e;exact hmn rfl,λ j=>by simp⟩,hat m hmn⟩
def Gh.ren (g:Gh) (ρ:aH->aH):Gh:={g with own:=λ b=>(g.own b).map ρ}
theorem Fr.ren {K:aH->Prop} (w:World) (g:Gh) {ρ:aH->aH} (h: ∀o,K o->ρ o=o):Fr K w w g (g.ren ρ):=
 ⟨Keeps.refl _ _,λ b ow k e=>⟨by simp[Gh.ren,e,h ow k],rfl,λ _ h=>h⟩⟩
theorem Base.ren {w0:World} {F0:Fz} {X:Nat->Prop} (h:Base w0 F0 X w g) (ρ:aH->aH):Base w0 F0 X w (g.ren ρ):=
 ⟨h.os,h.tape,h.output,h.size,h.blk,λ b ow e=>by
  simp only[Gh.ren,aaG]at e;obtain⟨o,e,_⟩:=e;exact h.own b o e,h.keeps,h.fz,λ b ow cs t f e hc=>by
  simp only[Gh.ren,aaG]at e;obtain⟨o,e,_⟩:=e;exact h.frz b o cs t f e hc⟩
theorem uZ.ren {ρ:aH->aH} {ow:aH} {tip:Bool} {sh:Sh} {x:El sh} {v:Value} (h:uZ w g ow tip sh x v):uZ w (g.ren ρ) (ρ ow) tip sh x v:=by
 rcases h with h|⟨b,c,cur,et,hv,hl,hc,ho,hb,hs,he,hf⟩
 ·exact .inl h
 ·exact .inr ⟨b,c,cur,et,hv,hl,hc,by simp[Gh.ren,ho],hb,hs,he,hf⟩
theorem V7.ren {ρ:aH->aH} {ow:aH} {b:Nat} {tip:Bool} {sh:Sh} {x:El sh} {cs:List Value} (h:V7 w g ow b tip sh x cs):V7 w (g.ren ρ) (ρ ow) b tip sh x cs:=by
 cases sh with
 |dl es=>exact⟨h.1,iM.imp (g:=g) (g':=g.ren ρ) (ow':=ρ ow) (show Keeps w w g.F g.F from Keeps.refl _ _) (λ sh x v _=>uZ.ren) h.2⟩
 |_=>exact h
theorem yI.ren {ρ:aH->aH} {ow:aH} {tip:Bool} {sh:Sh} {x:El sh} {v:Value} (h:yI w g ow tip sh x v):yI w (g.ren ρ) (ρ ow) tip sh x v:=by
 rcases h with h|⟨b,c,cur,et,hv,hl,hc,ho,hb,hs,he,hf⟩
 ·exact .inl h
 ·exact .inr ⟨b,c,cur,et,hv,hl,hc,by simp[Gh.ren,ho],hb,hs,he.ren,hf⟩
theorem SS.ren {ρ:aH->aH} {ow:aH} {sh:Sh} {x:El sh} {v:Value} (h:SS w g ow sh x v):SS w (g.ren ρ) (ρ ow) sh x v:=by
 cases sh with
 |mp k e=>
  rcases h with h|⟨b,l,hx,hv,ho,hm,hf⟩
  ·exact .inl h
  ·exact .inr ⟨b,l,hx,hv,by simp[Gh.ren,ho],hm,hf⟩
 |_=>exact h.elim
theorem jE.ren {ρ:aH->aH} {ow:aH} {c:CV} {v:Value} (h:jE w g ow c v):jE w (g.ren ρ) (ρ ow) c v:=by
 unfold jE at h ⊢;split
 ·trivial
 ·rename_i e;rw[e]at h;exact h
 ·rename_i e;rw[e]at h;simp only at h ⊢;split
  ·rename_i hs;rw[if_pos hs]at h;exact h.ren
  ·rename_i hs;rw[if_neg hs]at h;split
   ·rename_i hm;rw[if_pos hm]at h;exact h.ren
   ·rename_i hm;rw[if_neg hm]at h;exact h
 ·rename_i e;rw[e]at h;simp only at h ⊢;split
  ·rename_i hs;rw[if_pos hs]at h;exact h.ren
  ·rename_i hs;rw[if_neg hs]at h;exact h
theorem aF.ren {ρ:aH->aH} {mk mk':Nat->aH}: ∀(cs:List CV) (i j:Nat) (vs:List Value),(∀k,k<cs.length->ρ (mk (i+k))=mk' (j+k))->aF w g mk i cs vs->aF w (g.ren ρ) mk' j cs vs
 | [],_,_,_,_,h=>h
 |c::cs,i,j,_,hr,⟨v,ws,e,h1,h⟩=>⟨v,ws,e,by have:=h1.ren (ρ:=ρ);rw[show ρ (mk i)=mk' j from hr 0 (by simp)]at this;exact this,
  aF.ren cs (i+1) (j+1) ws (λ k hk=>by have:=hr (k+1) (by simp;omega);rw[show i+(k+1)=i+1+k by omega,show j+(k+1)=j+1+k by omega]at this;exact this) h⟩
theorem aF.left {mk:Nat->aH} (k:Keeps w w' g.F g'.F): ∀(cs:List CV) (i:Nat) (vs:List Value),aF w g mk i cs vs->aF w' g' mk i (cs.map CV.left) vs
 | [],_,_,h=>h
 |c::cs,i,_,⟨v,ws,e,h1,h⟩=>⟨v,ws,e,by
  unfold CV.left
  cases hp:c.isPure with
  |true=>simp only[cond_true];exact h1.pure k hp
  |false=>simp only[cond_false];trivial,aF.left k cs (i+1) ws h⟩
end
end Go.AM
end
section
namespace Go.AM
open Go
section
variable {E:Env} {C:Ctx} {s s':St} {a a':Act} {w w':World} {g g':Gh}
def Gh.freeze (g:Gh) (b m:Nat):Gh:={g with F:=λ b' o=>g.F b' o\/(b'=b/\o<m)}
theorem cell_of_heap {b:Nat} {cur:Array Value} {et:TypeId} {f:Nat×Nat} (h:w.heap[b]? =some (.cells cur et f)) (o:Nat):w.cell? ⟨b,o,none⟩=cur[o]? :=by
 simp[World.cell?,h]
theorem lt_of_heap {b:Nat} {o:Obj} (h:w.heap[b]? =some o):b<w.heap.size:=(abo.1 h).1
theorem Base.freeze {w0:World} {F0:Fz} {X:Nat->Prop} (h:Base w0 F0 X w g) {b:Nat} {ow:aH} (ho:g.own b=some ow) (m:Nat):Base w0 F0 X w (g.freeze b m):=
 ⟨h.os,h.tape,h.output,h.size,h.blk,h.own,h.keeps.trans ⟨λ _ _ hf=> .inl hf,λ _ _ _=>rfl⟩,λ b' o hf=>by
  rcases hf with hf|⟨rfl,_⟩
  ·exact h.fz b' o hf
  ·obtain⟨h1,h2⟩:=h.own _ _ ho;exact⟨.inr h1,h2⟩,h.frz⟩
theorem yI.freeze {w0:World} {F0:Fz} {X:Nat->Prop} (hb:Base w0 F0 X w g) {ow:aH} {tip:Bool} {sh:Sh} (hsl:sh.oW=true) {x:El sh} {v:Value} (h:yI w g ow tip sh x v):
 ∃g',Fr (λ o=>o≠ow) w w g g'/\Base w0 F0 X w g'/\g'.own=g.own/\g'.at_=g.at_/\jo w g'.F sh x v/\yI w g' ow true sh x v:=by
 rcases h with⟨hv,hl⟩|⟨b,c,cur,et,hv,hl,hc,ho,hh,hs,he,hf⟩
 ·refine⟨g,Fr.refl _ _ _,hb,rfl,rfl,?_,.inl ⟨hv,hl⟩⟩;rw[wQ hsl];exact⟨none,0,by rw[hv,hl],by omega,.inl hl⟩
 ·have he:=(pV hsl).1 he;have k:Keeps w w g.F (g.freeze b (aQ sh x*sh.n)).F:=⟨λ _ _ hf=> .inl hf,λ _ _ _=>rfl⟩;have hlen:=he.length
  have hrow:Nz w (g.freeze b (aQ sh x*sh.n)).F ⟨b,0,none⟩ (cur.toList.take (aQ sh x*sh.n)):=by
   intro j hj;rw[hlen]at hj;refine⟨?_,.inr ⟨rfl,by simpa using hj⟩⟩;rw[cell_of_heap hh,aaj,if_pos hj];simp
  refine⟨g.freeze b (aQ sh x*sh.n),⟨k,λ b' ow' hne e=>⟨e,rfl,λ o hf'=> ?_⟩⟩,hb.freeze ho _,rfl,rfl,?_,?_⟩
  ·rcases hf' with hf'|⟨rfl,_⟩
   ·exact hf'
   ·rw[ho]at e;cases e;exact absurd rfl hne
  ·rw[wQ hsl];exact⟨_,c,hv,hl,.inr ⟨_,_,rfl,rfl,hrow,he.keeps k⟩⟩
  ·refine .inr ⟨b,c,cur,et,hv,hl,hc,ho,hh,hs,(pV hsl).2 (he.keeps k),λ o=> ?_⟩;simp only[Gh.freeze,hf o,true_and];constructor
   ·rintro(⟨_,h⟩|h)
    ·exact h
    ·exact h
   ·intro h;exact .inr h
theorem y9 {ow:aH} {c:CV} {v:Value} (hs:c.sh.pF=false) (hm:c.sh.Ie=false) (hd:c.tg≠ .dead) (h:jE w g ow c v):jo w g.F c.sh c.x v:=by
 unfold jE at h;split at h
 ·rename_i e;exact absurd e hd
 ·exact h
 ·simpa [hs,hm]using h
 ·simpa [hs]using h
theorem jE.weak {w0:World} {F0:Fz} {X:Nat->Prop} (hb:Base w0 F0 X w g) {ow:aH} {c:CV} {v:Value} {tg:Tg} (hle:Tg.le tg c.tg=true) (hdl:c.sh.ZL tg=true) (h:jE w g ow c v):
 ∃g',Fr (λ o=>o≠ow) w w g g'/\Base w0 F0 X w g'/\g'.own=g.own/\g'.at_=g.at_/\jE w g' ow (c.to tg) v/\jE w g' ow (leftAs c tg) v:=by
 obtain⟨sh,ct,x⟩:=c;have hpure:tg= .pure->ct≠ .dead:=by rintro rfl;cases ct<;>simp[Tg.le]at hle ⊢
 have notSl:sh.pF=false->sh.Ie=false->ct≠ .dead->jo w g.F sh x v:=λ hs hm hd=>y9 (c:=⟨sh,ct,x⟩) hs hm hd h;by_cases hpl:sh.oW=true
 ·have hsl:=fD hpl
  cases tg with
  |dead=>exact⟨g,Fr.refl _ _ _,hb,rfl,rfl,trivial,h⟩
  |pure=>
   cases ct with
   |dead=>simp[Tg.le]at hle
   |pure=>exact⟨g,Fr.refl _ _ _,hb,rfl,rfl,h,h⟩
   |own=>
    simp only[jE,hsl,if_true]at h;obtain⟨g',f,b',o',a',p,t⟩:=h.freeze hb hpl;exact⟨g',f,b',o',a',p,by simp only[leftAs,CV.to,jE,hsl,if_true];exact t⟩
   |tip=>
    simp only[jE,hsl,if_true]at h;obtain⟨g',f,b',o',a',p,t⟩:=h.freeze hb hpl;exact⟨g',f,b',o',a',p,by simp only[leftAs,jE,hsl,if_true];exact t⟩
  |tip=>
   cases ct with
   |dead=>simp[Tg.le]at hle
   |pure=>simp[Tg.le]at hle
   |tip=>exact⟨g,Fr.refl _ _ _,hb,rfl,rfl,h,trivial⟩
   |own=>
    simp only[jE,hsl,if_true]at h;obtain⟨g',f,b',o',a',p,t⟩:=h.freeze hb hpl;exact⟨g',f,b',o',a',by simp only[CV.to,jE,hsl,if_true];exact t,trivial⟩
  |own=>
   cases ct with
   |own=>exact⟨g,Fr.refl _ _ _,hb,rfl,rfl,h,trivial⟩
   |dead=>simp[Tg.le]at hle
   |pure=>simp[Tg.le]at hle
   |tip=>simp[Tg.le]at hle
 by_cases hsl:sh.pF=true
 ·rcases Ue hsl with e|⟨es,rfl⟩
  ·exact absurd e hpl
  ·cases tg with
   |dead=>exact⟨g,Fr.refl _ _ _,hb,rfl,rfl,trivial,h⟩
   |own=>
    cases ct with
    |own=>exact⟨g,Fr.refl _ _ _,hb,rfl,rfl,h,trivial⟩
    |dead=>simp[Tg.le]at hle
    |pure=>simp[Tg.le]at hle
    |tip=>simp[Tg.le]at hle
   |pure=>simp[Sh.ZL]at hdl
   |tip=>simp[Sh.ZL]at hdl
 by_cases hmp:sh.Ie=true
 ·cases sh with
  |mp k e=>
   cases tg with
   |dead=>exact⟨g,Fr.refl _ _ _,hb,rfl,rfl,trivial,h⟩
   |own=>
    cases ct with
    |own=>exact⟨g,Fr.refl _ _ _,hb,rfl,rfl,h,trivial⟩
    |dead=>simp[Tg.le]at hle
    |pure=>simp[Tg.le]at hle
    |tip=>simp[Tg.le]at hle
   |pure=>simp[Sh.ZL]at hdl
   |tip=>simp[Sh.ZL]at hdl
  |_=>simp[Sh.Ie]at hmp
 ·have hmp':sh.Ie=false:=by simpa using hmp
  have hsl':sh.pF=false:=by simpa using hsl
  refine⟨g,Fr.refl _ _ _,hb,rfl,rfl,?_,?_⟩
  ·cases tg with
   |dead=>trivial
   |pure=>exact notSl hsl' hmp' (hpure rfl)
   |own=>cases ct<;>simp[Tg.le]at hle;simp only[CV.to,jE,hsl',hmp',aa3,if_false];exact notSl hsl' hmp' (by simp)
   |tip=>cases ct<;>simp[Tg.le]at hle<;>(simp only[CV.to,jE,hsl',aa3,if_false];exact notSl hsl' hmp' (by simp))
  ·cases tg with
   |dead=>trivial
   |own=>trivial
   |tip=>trivial
   |pure=>
    have hp:=notSl hsl' hmp' (hpure rfl)
    cases ct with
    |dead=>exact absurd rfl (hpure rfl)
    |pure=>exact hp
    |own=>simp only[leftAs,CV.to,jE,hsl',aa3,if_false];exact hp
    |tip=>simp only[leftAs,jE,hsl',aa3,if_false];exact hp
theorem BD {w0:World} {F0:Fz} {X:Nat->Prop} {mk:Nat->aH} (hinj: ∀i j,mk i=mk j->i=j): ∀(cs:List CV) (want:List (Sh×Tg)) (ds:List CV) (i:Nat) (vs:List Value) (g:Gh),
 Base w0 F0 X w g->weaken cs want=some ds->aF w g mk i cs vs->
 ∃g',Fr (λ o=> ∀j,i<=j->j<i+cs.length->o≠mk j) w w g g'/\Base w0 F0 X w g'/\g'.own=g.own/\g'.at_=g.at_/\aF w g' mk i ds vs/\aF w g' mk i (gW cs want) vs/\ds.length=cs.length/\
  ds.map CV.sh=cs.map CV.sh/\(gW cs want).map CV.sh=cs.map CV.sh
 | [],[],ds,i,vs,g,hb,hw,h=>by
   simp only[weaken,aae]at hw;subst hw;exact⟨g,Fr.refl _ _ _,hb,rfl,rfl,h,h,rfl,rfl,rfl⟩
 | [],_::_,ds,i,vs,g,hb,hw,h=>by simp[weaken]at hw
 |_::_,[],ds,i,vs,g,hb,hw,h=>by simp[weaken]at hw
 |c::cs,(sh,tg)::want,ds,i,vs,g,hb,hw,⟨v,ws,e,h1,h⟩=>by
  simp only[weaken,cond_eq_ite,aad]at hw;split at hw
  ·rename_i hc;obtain⟨d',hd',rfl⟩:=aaG.1 hw;have hdl:c.sh.ZL tg=true:=by rw[Sh.eq_of_beq hc.1.1];exact hc.2
   obtain⟨g1,f1,b1,o1,a1,p1,q1⟩:=h1.weak hb hc.1.2 hdl;have hne: ∀j,mk (i+1+j)≠mk i:=λ j e=>by have:=hinj _ _ e;omega
   have h2:aF w g1 mk (i+1) cs ws:=by
    refine aF.of cs (i+1) ws h.length λ j c v hc hv=> ?_;obtain⟨u,hu,hr⟩:=h.get cs (i+1) ws j c hc;rw[hu]at hv;cases hv;exact hr.fr f1 (hne j)
   obtain⟨g2,f2,b2,o2,a2,p2,q2,l2,m2,n2⟩:=BD hinj cs want d' (i+1) ws g1 b1 hd' h2;have k2: ∀j,i+1<=j->j<i+1+cs.length->mk i≠mk j:=λ j hj _ e=>by have:=hinj _ _ e;omega
   refine⟨g2,(f1.mono λ o ho=>by simpa using ho i (aaq _) (by simp)).trans (f2.mono λ o ho j hj hj'=>ho j (by omega) (by simp;omega)),b2,o2.trans o1,a2.trans a1,⟨v,ws,e,p1.fr f2 k2,p2⟩,?_,by simp[l2],by simp[CV.to,m2],?_⟩
   ·refine⟨v,ws,e,?_,q2⟩
    cases hp:c.isPure with
    |true=>simp only[cond_true];exact h1.pure (f1.keeps.trans f2.keeps) hp
    |false=>simp only[cond_false];exact q1.fr f2 k2
   ·simp only[gW,abf,n2,aa5,and_true]
    cases c.isPure with
    |true=>rfl
    |false=>
     simp only[cond_false];cases tg<;>simp only[leftAs,CV.kill];cases c.tg<;>simp[CV.to]
  ·cases hw
end
end Go.AM
end
section
namespace Go.AM
open Go
section
variable {E:Env} {C:Ctx} {s s':St} {a a':Act} {w w':World} {g g':Gh}
theorem qZ {cs ds:List CV} {j:Nat} (h:j+ds.length<=cs.length):(setCells cs j ds).length=cs.length:=by
 simp[setCells];omega
theorem kC {cs ds:List CV} {j:Nat} (h:j+ds.length<=cs.length) (i:Nat):(setCells cs j ds)[i]? =if j<=i/\i<j+ds.length then ds[i-j]? else cs[i]? :=by
 unfold setCells;have hj:min j cs.length=j:=by omega
 by_cases h1:i<j
 ·rw[if_neg (by omega),aaA,aax (by simp;omega),aaj,if_pos h1]
 ·by_cases h2:i<j+ds.length
  ·rw[if_pos ⟨by omega,h2⟩,aax (by simp;omega),aaz (by simp;omega)];simp[hj]
  ·rw[if_neg (by omega),aaz (by simp;omega)];simp only[aap,aaB,hj,aan];congr 1;omega
theorem aF.setCells {mk:Nat->aH} {cs ds:List CV} {vs us:List Value} {i j:Nat} (hl:j+ds.length<=cs.length) (hlu:us.length=ds.length) (h:aF w g mk i cs vs)
 (K:aH->Prop) (f:Fr K w w' g g') (hk: ∀k,k<cs.length-> ¬(j<=k/\k<j+ds.length)->K (mk (i+k))) (hd:aF w' g' mk (i+j) ds us):
 aF w' g' mk i (setCells cs j ds) (vs.take j++us++vs.drop (j+us.length)):=by
 have hvl:=h.length;refine aF.of _ _ _ (by rw[qZ hl];simp;omega) λ k c v hc hv=> ?_;rw[kC hl]at hc;split at hc
 ·rename_i hjk;obtain⟨u,hu,hr⟩:=hd.get ds (i+j) us (k-j) c hc
  have:(vs.take j++us++vs.drop (j+us.length))[k]? =us[k-j]? :=by
   rw[aax (by simp;omega),aaz (by simp;omega)];congr 1;simp;omega
  rw[this,hu]at hv;cases hv
  rwa [show i+j+(k-j)=i+k by omega]at hr
 ·rename_i hjk
  have hkl:k<cs.length:=by
   rcases aaE k cs.length with h|h
   ·exact h
   ·simp[aah h]at hc
  obtain⟨u,hu,hr⟩:=h.get cs i vs k c hc
  have:(vs.take j++us++vs.drop (j+us.length))[k]? =vs[k]? :=by
   by_cases h1:k<j
   ·rw[aaA,aax (by simp;omega),aaj,if_pos h1]
   ·rw[aaz (by simp;omega)];simp only[aap,aaB,aan];congr 1;omega
  rw[this,hu]at hv;cases hv;exact hr.fr f (hk k hkl hjk)
theorem Dv {α:Type} (vs:List α) (j m:Nat):vs.take j++(vs.drop j).take m++vs.drop (j+((vs.drop j).take m).length)=vs:=by
 rw[aaA]
 have:(vs.drop j).take m++vs.drop (j+((vs.drop j).take m).length)=vs.drop j:=by
  have e:vs.drop (j+((vs.drop j).take m).length)=(vs.drop j).drop ((vs.drop j).take m).length:=by rw[List.drop_drop]
  rw[e]
  conv=>rhs;rw[←abm m (vs.drop j)]
  congr 1;by_cases hm:m<=(vs.drop j).length
  ·rw[aaB,abK hm]
  ·rw[aaB,Nat.min_eq_right (by omega),acF,abn (by omega)]
 rw[this,abm]
def zu (a:Act) (w w':World) (g:Gh) (r:Root) (c:Nat) (cs ds:List CV):Prop:=
 ∀(i:Nat) es l',ds[i]? =some ⟨.dl es,.own,l'⟩-> ∃l,cs[i]? =some ⟨.dl es,.own,l⟩/\ ∀b len k,(aC a w g r)[c+i]? =some (.slice (some ⟨b,0,none⟩) len k)->w'.heap[b]? =w.heap[b]?
theorem zu.of {a:Act} {w w':World} {g:Gh} {r:Root} {c:Nat} {cs ds:List CV} (h: ∀d,d∈ds->d.tg= .own->d.sh.oW=true\/d.sh.pF=false):zu a w w' g r c cs ds:=by
 intro i es l' hi;rcases h _ (aak hi) rfl with h|h<;>simp[Sh.oW,Sh.pF]at h
theorem jQ (h:Rel E C s a w g) {p:Pl} {cs ds:List CV} {us:List Upd} (hc:aW s p ds.length=some cs) (hu:jB s p ds false=some us) (hsh:ds.map CV.sh=cs.map CV.sh)
 (f:Fr (λ o=>(∀j,p.cell<=j->j<p.cell+ds.length->o≠dJ p.root j)/\ ∀j,o≠ .hand j) w w' g g') (hb:Base C.w0 C.F0 C.X w' g') (hat:g'.at_=g.at_)
 (hds:aF w' g' (dJ p.root) p.cell ds (((aC a w g p.root).drop p.cell).take ds.length)) (hdl:zu a w w' g p.root p.cell cs ds):Rel E C (s.dM us) a w' g':=by
 rw[bI]at hc;obtain⟨cells,e,hl,_,rfl⟩:=hc
 have other: ∀(i:Nat) es l v,cells[i]? =some (⟨.dl es,.own,l⟩,v)-> ¬(p.cell<=i/\i<p.cell+ds.length)-> ∀b len k,(aC a w g p.root)[i]? =some (.slice (some ⟨b,0,none⟩) len k)->w'.heap[b]? =w.heap[b]? :=by
  intro i es l v hi hn b len k hv
  have hlt:i<cells.length:=by
   rcases aaE i cells.length with h|h
   ·exact h
   ·simp[aah h]at hi
  have hpl:aW s ⟨p.root,p.inst,[],i,none⟩ 1=some [⟨.dl es,.own,l⟩]:=by
   rw[bI];refine⟨cells,e,hlt,λ j x hx=>by simp at hx,?_⟩;rw[aaI hlt];rw[aac hlt]at hi;simp[aao hi]
  refine h.vF f ⟨λ j h1 h2 e=> ?_,λ j=>iZ _ _ _⟩ hpl hv;have:=vw _ _ _ e;simp only at this;subst this;exact hn ⟨h1,h2⟩
 unfold jB at hu
 cases hr:p.root with
 |tmp n=>
  rw[hr]at e hu f hds;simp only[aB]at e;simp only[]at hu;split at e
  ·rename_i ag cs1 v heq;rw[heq]at hu;simp only[cond_eq_ite,aa3,if_false]at hu;split at hu
   ·cases hu;cases e;have hcl:p.cell+ds.length<=cs1.length:=by simpa using hl
    have ht:=h.tm n;rw[heq]at ht;refine h.Jw (f.mono λ o ho=>⟨λ j _ _=>ho.1 j,ho.2⟩) hb hat (λ ag' cs' e=> ?_) ?_
    ·cases e;refine⟨ag,cs1,by rw[heq],?_,λ i es l' hi=> ?_⟩
     ·apply aaP;intro i;simp only[aar,kC hcl];split
      ·rename_i hi;have:=congrArg (λ l=>l[i-p.cell]?) hsh;simp only[←oJ,mQ,aar,aaj,aan]at this;rw[if_pos (by omega),show p.cell+(i-p.cell)=i by omega]at this;exact this
      ·rfl
     ·rw[kC hcl]at hi;split at hi
      ·rename_i hj;obtain⟨l,e1,e2⟩:=hdl _ es l' hi;refine⟨l,?_,λ b len k hv=>e2 b len k (by rw[hr,show p.cell+(i-p.cell)=i by omega];exact hv)⟩;simp only[aar,aaj,aan]at e1;rw[if_pos (by omega),show p.cell+(i-p.cell)=i by omega]at e1;simpa using e1
      ·rename_i hj;exact⟨l',hi,λ b len k hv=>other i es l' _ (by rw[aar,hi];rfl) hj b len k (by rw[hr];exact hv)⟩
    ·refine⟨ht.1,?_⟩;have hvl:=ht.2.length;have:=aF.setCells (w':=w') (g':=g') (us:=(((a.eval (.tmp n)).cells.toList.drop p.cell).take ds.length)) hcl (by simp[hvl];omega) ht.2 _ f (λ k hk hn=>⟨λ j h1 h2 e=>by simp[dJ]at e;omega,λ j=>by simp⟩) (by rw[aaW];exact hds)
     rwa [Dv]at this
   ·cases hu
  ·cases e
 |box n=>
  rw[hr]at e hu f hds;simp only[aB]at e;simp only[]at hu;split at e
  ·rename_i b heq;rw[heq]at hu;simp only[cond_eq_ite,aa3,if_false]at hu;split at hu
   ·cases hu;simp only[aae,aas]at e;obtain⟨e1,e2⟩:=e;subst e2;obtain⟨cur,et,h1,h2,h3,h4⟩:=h.bx n b heq;obtain⟨o1,o2,o3⟩:=f.own _ _ ⟨λ j _ _=>by simp[dJ],λ j=>by simp⟩ h2;have hvals:aC a w g (.box n)=cur.toList:=by simp only[aC,h1]
    have hcl:p.cell+ds.length<=(b.cells.map (·.1)).length:=by simpa using hl
    have hzip:((ds.zip (b.cells.drop p.cell)).map λ x=>((x.1,x.2.2):CV×Nat)).length=ds.length:=by simp;omega
    have hget: ∀(i:Nat) (c:CV) (v:Nat),b.cells[i]? =some (c,v)->
     ∃c',(b.cells.take p.cell++(ds.zip (b.cells.drop p.cell)).map (λ x=>((x.1,x.2.2):CV×Nat))++b.cells.drop (p.cell+ds.length))[i]? =some (c',v)/\
      (setCells (b.cells.map (·.1)) p.cell ds)[i]? =some c'/\c'.sh=c.sh:=by
     intro i c v hi
     have hil:i<b.cells.length:=by
      rcases aaE i b.cells.length with h|h
      ·exact h
      ·simp[aah h]at hi
     rw[kC hcl];by_cases h5:i<p.cell
     ·refine⟨c,?_,by rw[if_neg (by omega)];simp[hi],rfl⟩;rw[aaA,aax (by simp;omega),aaj,if_pos h5,hi]
     ·by_cases h6:i<p.cell+ds.length
      ·have hdl:i-p.cell<ds.length:=by omega
       refine⟨ds[i-p.cell],?_,by rw[if_pos (by omega)];exact aac hdl,?_⟩
       ·rw[aax (by simp;omega),aaz (by simp;omega)];have e1:i-(b.cells.take p.cell).length=i-p.cell:=by simp;omega
        have hz:(ds.zip (b.cells.drop p.cell))[i-p.cell]? =some (ds[i-p.cell],(c,v)):=
         acd.2 ⟨aac hdl,(by rw[aan,show p.cell+(i-p.cell)=i by omega];exact hi)⟩
        rw[e1,aar,hz];rfl
       ·have:=congrArg (λ l=>l[i-p.cell]?) hsh;simp only[abN,aar,aaj,aan]at this;rw[if_pos hdl,show p.cell+(i-p.cell)=i by omega,hi,aac hdl]at this;simpa using this
      ·refine⟨c,?_,by rw[if_neg (by omega)];simp[hi],rfl⟩;rw[aaz (by simp;omega),aan];have e1:p.cell+ds.length+(i-(b.cells.take p.cell++(ds.zip (b.cells.drop p.cell)).map (λ x=>((x.1,x.2.2):CV×Nat))).length)=i:=by simp;omega
       rw[e1,hi]
    have hlen:(b.cells.take p.cell++(ds.zip (b.cells.drop p.cell)).map (λ x=>((x.1,x.2.2):CV×Nat))++b.cells.drop (p.cell+ds.length)).length=b.cells.length:=by simp;omega
    have hmap:(b.cells.take p.cell++(ds.zip (b.cells.drop p.cell)).map (λ x=>((x.1,x.2.2):CV×Nat))++b.cells.drop (p.cell+ds.length)).map (·.1)=setCells (b.cells.map (·.1)) p.cell ds:=by
     apply aaP;intro i;rw[aar];rcases aaE i b.cells.length with hi|hi
     ·obtain⟨c',k1,k2,_⟩:=hget i b.cells[i].1 b.cells[i].2 (aac hi);rw[k1,k2];rfl
     ·rw[aah (by rw[hlen];exact hi),aah (by rw[qZ hcl];simpa using hi)];rfl
    refine h.afa (f.mono λ o ho=>⟨λ j _ _ e=> ?_,ho.2.2⟩) hb (λ m _=>by rw[hat]) (.inr ⟨b,heq,rfl,hlen,by rw[hat],λ i c v hi=> ?_⟩) ?_
    ·exact ho.1 j (by simpa [dJ]using e)
    ·obtain⟨c',k1,k2,k3⟩:=hget i c v hi;refine⟨c',v,k1,k3,aaq _,λ _=>⟨by simp only[aC,hat,o2],λ es l' e=> ?_⟩⟩;rw[kC hcl]at k2;split at k2
     ·rename_i hj;rw[e]at k2;obtain⟨l,e1,e2⟩:=hdl _ es l' k2;refine⟨l,?_,λ b len k hv=>e2 b len k (by rw[hr,show p.cell+(i-p.cell)=i by omega];exact hv)⟩;simp only[aar,aaj,aan]at e1;rw[if_pos (by omega),show p.cell+(i-p.cell)=i by omega,hi]at e1;simpa using e1
     ·rename_i hj;rw[aar,hi]at k2;have k2:c=c':=by simpa using k2
      subst k2;exact⟨l',e,λ b len k hv=>other i es l' v (by rw[hi,e]) hj b len k (by rw[hr];exact hv)⟩
    ·refine⟨cur,et,by rw[hat];exact o2.trans h1,by rw[hat];exact o1,λ o ho=>h3 o (o3 o (by rw[hat]at ho;exact ho)),?_⟩;simp only[hmap];rw[hvals]at hds;have hvl:=h4.length;have:=aF.setCells (w':=w') (g':=g') (us:=((cur.toList.drop p.cell).take ds.length)) hcl (by simp at hvl ⊢;omega) h4 _ f (λ k hk hn=>⟨λ j h1 h2 e=>by simp[dJ]at e;omega,λ j=>by simp⟩) (by rw[aaW];exact hds)
     rwa [Dv]at this
   ·cases hu
  ·cases e
end
end Go.AM
end
section
namespace Go.AM
open Go
section
variable {E:Env} {C:Ctx} {s s':St} {a a':Act} {w w':World} {g g':Gh}
def VF:Operand->Nat->aH
 | .tmp n=> .tm n
 |_=> .hand
theorem Eb {α:Type} {o:Option α} {x:α} (h:(Dyn.of o).run=some x):o=some x:=by
 cases o with
 |none=>simp[Dyn.of,Dyn.run]at h
 |some y=>simpa [Dyn.of,Dyn.run]using h
theorem aU {α β:Type} {d:Dyn α} {q:α->Dyn β} {x:β} (h:(d.bind q).run=some x): ∃y,d.run=some y/\(q y).run=some x:=by
 rw[Dyn.run_bind]at h;exact aaZ.1 h
theorem zh (w:World) (g:Gh) (mk:Nat->aH) {c:CV} {v:Value} (hc:c.tg= .pure) (hv:isAgg v=false) (h:jo w g.F c.sh c.x v) (hcell:v.cells= #[v]):BZ w g mk 0 false [c] v:=
 ⟨hv,v,[],by rw[hcell],by unfold jE;rw[hc];exact h,rfl⟩
theorem Z8 (w:World) (g:Gh) (s:St) (a:Act) (mk:Nat->aH) (v:Value):(MH v= .nilc/\v= .slice none 0 0)\/TV s a w g mk (MH v) v:=by
 cases v with
 |int k n=>exact .inr (zh w g mk rfl rfl rfl rfl)
 |bool b=>exact .inr (zh w g mk rfl rfl rfl rfl)
 |string b=>exact .inr (zh w g mk rfl rfl rfl rfl)
 |slice A l c=>
  unfold MH;split
  ·rename_i h;cases h
  ·rename_i h;cases h
  ·rename_i h;cases h
  ·rename_i h;cases h;exact .inl ⟨rfl,rfl⟩
  ·exact .inr trivial
 |_=>exact .inr trivial
theorem Rel.at_ (h:Rel E C s a w g) (x:Operand):(at_ E s x= .nilc/\a.eval x= .slice none 0 0)\/TV s a w g (VF x) (at_ E s x) (a.eval x):=by
 cases x with
 |tmp n=>exact .inr (h.tm n)
 |const v=>exact Z8 w g s a _ v
 |global gl=>
  right;simp only[Go.AM.at_]
  cases hg:E.glob gl with
  |none=>trivial
  |some cs=>
   obtain⟨h1,vs,h2,h3⟩:=h.glob gl cs hg;exact⟨⟨gl,0,none⟩,vs,rfl,h2,h1,h3⟩
 |func f=>exact .inr rfl
theorem aeF (cs:List CV):(cs.map CV.left).map CV.sh=cs.map CV.sh:=by
 induction cs with
 |nil=>rfl
 |cons c cs ih=>
  simp only[abf,ih,aa5,and_true];unfold CV.left;cases c.isPure<;>rfl
theorem QY (h:Rel E C s a w g) {hs:List CV} {hv:List Value} (hh:aF w g .hand 0 hs hv) {p:Pl} {m:Nat} {cs:List CV} {us:List Upd} (hc:aW s p m=some cs)
 (hu:jB s p (cs.map CV.left) false=some us):
 ∃g',Rel E C (s.dM us) a w g'/\aF w g' .hand 0 (hs++cs) (hv++((aC a w g p.root).drop p.cell).take m)/\g'.at_=g.at_/\Keeps w w g.F g'.F:=by
 obtain⟨hp,hl⟩:=h.pl hc
 let ρ:aH->aH:=λ o=>match p.root,o with
  | .tmp n,.tm k j=>if k=n/\p.cell<=j/\j<p.cell+m then .hand (hs.length+(j-p.cell))else o
  | .box n,.cell k j=>if k=n/\p.cell<=j/\j<p.cell+m then .hand (hs.length+(j-p.cell))else o
  |_,o=>o
 have hfix: ∀o,(∀j,p.cell<=j->j<p.cell+(cs.map CV.left).length->o≠dJ p.root j)->ρ o=o:=by
  intro o ho;simp only[aaN,hl]at ho;simp only[ρ]
  cases hr:p.root with
  |tmp n=>
   cases o<;>simp only;rename_i k j;split
   ·rename_i hk;exact absurd (by rw[hr,hk.1];rfl) (ho j hk.2.1 hk.2.2)
   ·rfl
  |box n=>
   cases o<;>simp only;rename_i k j;split
   ·rename_i hk;exact absurd (by rw[hr,hk.1];rfl) (ho j hk.2.1 hk.2.2)
   ·rfl
 have hhand: ∀i,ρ (.hand i)= .hand i:=λ i=>hfix _ (λ j _ _=>by cases p.root<;>simp[dJ])
 have hmove: ∀k,k<m->ρ (dJ p.root (p.cell+k))= .hand (hs.length+k):=by
  intro k hk;simp only[ρ]
  cases hr:p.root with
  |tmp n=>simp only[dJ];rw[if_pos ⟨trivial,by omega,by omega⟩];congr 1;omega
  |box n=>simp only[dJ];rw[if_pos ⟨trivial,by omega,by omega⟩];congr 1;omega
 refine⟨g.ren ρ,?_,?_,rfl,Keeps.refl _ _⟩
 ·refine jQ h (ds:=cs.map CV.left) (by simpa [hl]using hc) hu (aeF cs) (Fr.ren w g λ o ho=>hfix o ho.1) (h.base.ren ρ) rfl ?_ ?_;have:=aF.left (w':=w) (g':=g.ren ρ) (mk:=dJ p.root) (Keeps.refl w g.F) cs p.cell _ hp;simpa [hl]using this;refine zu.of λ d hd=> ?_;obtain⟨c,_,rfl⟩:=aaL.1 hd;intro e;unfold CV.left at e
  cases hp:c.isPure with
  |true=>
   rw[hp]at e;have e:c.tg= .own:=e;simp[CV.isPure,Tg.isPure,e]at hp
  |false=>rw[hp]at e;cases e
 ·refine aF.append hs 0 hv cs _ (aF.ren hs 0 0 hv (λ k _=>by simpa using hhand (0+k)) hh) ?_;rw[aaW];exact aF.ren cs p.cell hs.length _ (λ k hk=>hmove k (by omega)) hp
theorem Nr (fresh:Bool): ∀(ds:List CV) (cs:List (CV×Nat)) (j:Nat),j+ds.length<=cs.length->
 setMany cs (II fresh j ds (cs.drop j))=cs.take j++((ds.zip (cs.drop j)).map λ x=>(x.1,bif fresh then x.2.2+1 else x.2.2))++cs.drop (j+ds.length)
 | [],cs,j,_=>by simp[II,setMany]
 |d::ds,cs,j,h=>by
  have hj:j<cs.length:=by simp at h;omega
  rw[aaI hj];simp only[II,setMany,List.zip_cons_cons,abf];have e1:cs.drop (j+1)=(cs.set j (d,bif fresh then cs[j].2+1 else cs[j].2)).drop (j+1):=by rw[List.drop_set_of_lt (by omega)]
  have:=Nr fresh ds (cs.set j (d,bif fresh then cs[j].2+1 else cs[j].2)) (j+1) (by simp at h ⊢;omega);rw[←e1]at this;rw[this]
  have e2:(cs.set j (d,bif fresh then cs[j].2+1 else cs[j].2)).take (j+1)=cs.take j++[(d,bif fresh then cs[j].2+1 else cs[j].2)]:=by
   rw[aaD,List.take_set_of_le (aaq _)];simp[hj]
  have e3:(cs.set j (d,bif fresh then cs[j].2+1 else cs[j].2)).drop (j+1+ds.length)=cs.drop (j+(d::ds).length):=by
   rw[List.drop_set_of_lt (by omega)];congr 1;simp;omega
  rw[e2,e3];simp
theorem Oa {p:Pl} {ds:List CV} {fresh:Bool} {us:List Upd} (h:jB s p ds fresh=some us):s.dM (KY s p ds fresh us)=s.dM us:=by
 unfold jB at h;unfold KY
 cases hr:p.root with
 |tmp n=>rfl
 |box n=>
  rw[hr]at h;simp only[]at h ⊢
  cases hb:s.bx n with
  |none=>rw[hb]at h;cases h
  |some b=>
   rw[hb]at h;simp only[cond_eq_ite,aad]at h;split at h
   ·rename_i hc;cases h;have hl:=aa6 hc.2;simp only[yK,hb,St.dM,acw,List.foldl_nil,Upd.on,aaK];rw[Nr fresh ds b.cells p.cell hl];cases fresh<;>rfl
   ·cases h
theorem wZ (cs ds:List CV) (h:ds.length=cs.length):setCells cs 0 ds=ds:=by
 simp[setCells,h]
theorem V4 (h:Rel E C s a w g) {hs:List CV} {hv:List Value} (hh:aF w g .hand 0 hs hv) {p:Pl} {m:Nat} {cs:List CV} {us:List Upd} (hp:p.sub=none)
 (hc:aW s p m=some cs) (hu:Aq s p cs=some us):
 ∃g',Rel E C (s.dM us) a w g'/\aF w g' .hand 0 (hs++cs) (hv++((aC a w g p.root).drop p.cell).take m)/\g'.at_=g.at_/\Keeps w w g.F g'.F:=by
 unfold Aq at hu
 cases hpu:bD cs with
 |true=>
  rw[hpu]at hu;simp only[cond_true,aae]at hu;subst hu;obtain⟨h1,h2⟩:=h.pl hc;exact⟨g,h,aF.append hs 0 hv cs _ hh (aF.uq (Keeps.refl _ _) cs p.cell _ _ hpu h1),rfl,Keeps.refl _ _⟩
 |false=>
  rw[hpu]at hu;simp only[cond_false,hp,aaG]at hu;obtain⟨us0,hu,rfl⟩:=hu;rw[Oa hu];exact QY h hh hc hu
end
end Go.AM
end
section
namespace Go.AM
open Go
section
variable {E:Env} {C:Ctx} {s s':St} {a a':Act} {w w':World} {g g':Gh}
theorem kF {c:CV} {sh:Sh} {y:El sh} (h:jD c sh=some y): ∃e:c.sh=sh,y=cast (congrArg El e) c.x:=by
 unfold jD at h;split at h
 ·rename_i hb;exact⟨Sh.eq_of_beq hb,(aao h).symm⟩
 ·cases h
theorem yL {c:CV} {sh:Sh} {y:El sh} (h:jD c sh=some y) {v:Value} (hp:jo w g.F c.sh c.x v):jo w g.F sh y v:=by
 obtain⟨e,rfl⟩:=kF h;obtain⟨csh,ct,cx⟩:=c;cases e;exact hp
theorem qH {ow:aH} {c:CV} {v:Value} (hc:c.tg= .pure):jE w g ow c v ↔ jo w g.F c.sh c.x v:=by
 unfold jE;rw[hc]
theorem cells_ok (mk:Nat->aH): ∀(es:List Sh) (x:ElA es) (i:Nat) (vs:List Value),dO w g.F es x vs->aF w g mk i (cellsOf es x) vs
 | [],_,_,_,h=>h
 | [s],x,i,vs,h=>by
   simp only[dO]at h;obtain⟨v,e,h⟩:=h;exact⟨v,[],e,h,rfl⟩
 |s::t::ss,x,i,vs,h=>by
  simp only[dO]at h;obtain⟨v,ws,e,h1,h2⟩:=h;exact⟨v,ws,e,h1,cells_ok mk (t::ss) x.2 (i+1) ws h2⟩
theorem rW: ∀(es:List Sh) (x:ElA es),bD (cellsOf es x)=true
 | [],_=>rfl
 | [s],x=>rfl
 |s::t::ss,x=>by
  have:=rW (t::ss) x.2;simp only[bD,cellsOf,acA,aad]at this ⊢;exact⟨rfl,this⟩
theorem sO: ∀(es:List Sh) (x:ElA es),(cellsOf es x).map CV.sh=es
 | [],_=>rfl
 | [s],x=>rfl
 |s::t::ss,x=>by simp[cellsOf,sO (t::ss) x.2]
theorem rQ {cs:List CV} (h:bD cs=true): ∀c,c∈cs->c.tg= .pure:=by
 intro c hc;have:=aaV.1 h c hc;unfold CV.isPure Tg.isPure at this;split at this<;>simp_all
theorem AB (sh t:Sh) (ss:List Sh) (c:CV) (cs:List CV):fZ (sh::t::ss) (c::cs)=(match jD c sh,fZ (t::ss) cs with
 |some y,some z=>some (y,z)
 |_,_=>none):=rfl
theorem aP {α:Type} {o:Option α} {x:α} (h:o=some x) (e:o=none):False:=by rw[e]at h;cases h
theorem oK {sh t:Sh} {ss:List Sh} {c:CV} {cs:List CV} {x:ElA (sh::t::ss)} (h:fZ (sh::t::ss) (c::cs)=some x):
 ∃y z,jD c sh=some y/\fZ (t::ss) cs=some z/\x=(y,z):=by
 rw[AB]at h
 cases hy:jD c sh with
 |none=>rw[hy]at h;cases h
 |some y=>
  cases hz:fZ (t::ss) cs with
  |none=>rw[hy,hz]at h;cases h
  |some z=>rw[hy,hz]at h;exact⟨y,z,rfl,rfl,(aao h).symm⟩
theorem BP (mk:Nat->aH): ∀(es:List Sh) (cs:List CV) (x:ElA es) (i:Nat) (vs:List Value),fZ es cs=some x->(∀c,c∈cs->c.tg= .pure)->aF w g mk i cs vs->dO w g.F es x vs
 | [],[],_,_,_,_,_,h=>h
 | [],_::_,_,_,_,ho,_,_=>(aP ho rfl).elim
 | [s],[],_,_,_,ho,_,_=>(aP ho rfl).elim
 | [s],[c],x,i,vs,ho,hp,h=>by
   obtain⟨v,ws,e,h1,h2⟩:=h;have h2:ws= []:=h2;subst h2;exact⟨v,e,yL ho ((qH (hp c (by simp))).1 h1)⟩
 | [s],_::_::_,_,_,_,ho,_,_=>(aP ho rfl).elim
 |s::t::ss,[],_,_,_,ho,_,_=>(aP ho rfl).elim
 |s::t::ss,c::cs,x,i,vs,ho,hp,h=>by
  obtain⟨v,ws,e,h1,h2⟩:=h;obtain⟨y,z,hy,hz,rfl⟩:=oK ho;exact⟨v,ws,e,yL hy ((qH (hp c (by simp))).1 h1),BP mk (t::ss) cs z (i+1) ws hz (λ c hc=>hp c (by simp[hc])) h2⟩
theorem FI: ∀(es:List Sh) (cs:List CV) (x:ElA es),fZ es cs=some x->cs.map CV.sh=es
 | [],[],_,_=>rfl
 | [],_::_,_,ho=>(aP ho rfl).elim
 | [s],[],_,ho=>(aP ho rfl).elim
 | [s],[c],x,ho=>by
   obtain⟨e,_⟩:=kF ho;simp[e]
 | [s],_::_::_,_,ho=>(aP ho rfl).elim
 |s::t::ss,[],_,ho=>(aP ho rfl).elim
 |s::t::ss,c::cs,x,ho=>by
  obtain⟨y,z,hy,hz,_⟩:=oK ho;obtain⟨e,_⟩:=kF hy;have:=FI (t::ss) cs z hz;simp[e,this]
theorem BM: ∀(es:List Sh) (cs:List CV),fZ es (cs.map (·.to .pure))=fZ es cs
 | [],[]=>rfl
 | [],_::_=>rfl
 | [s],[]=>rfl
 | [s],[c]=>rfl
 | [s],_::_::_=>rfl
 |s::t::ss,[]=>rfl
 |s::t::ss,c::cs=>by
  have ih:=BM (t::ss) cs;have:jD (c.to .pure) s=jD c s:=rfl;rw[abf,AB,AB,this,ih]
theorem zq (mk:Nat->aH) (ss:List Sh) (t:RT (ElA ss)) (i:Nat) (vs:List Value) (h:pz w g.F (dO w g.F ss) t vs):aF w g mk i (rC ss t) vs:=by
 cases t with
 |mk x kids=>
  unfold pz at h;obtain⟨c1,v,e,h1,h2⟩:=h;rw[e];exact aF.append _ i c1 _ _ (cells_ok mk ss x i c1 h1) ⟨v,[],rfl,by simp only[jE,jo];exact h2,rfl⟩
theorem wz (ss:List Sh) (t:RT (ElA ss)):bD (rC ss t)=true:=by
 have:=rW ss t.a;simp only[bD,rC,acv,aad]at this ⊢;exact⟨this,rfl⟩
theorem Vb (mk:Nat->aH) (ss:List Sh) (cs:List CV) (t:RT (ElA ss)) (i:Nat) (vs:List Value) (ho:vO ss cs=some t) (hp: ∀c,c∈cs->c.tg= .pure) (h:aF w g mk i cs vs):pz w g.F (dO w g.F ss) t vs:=by
 unfold vO at ho;cases hx:fZ ss (cs.take ss.length)with
 |none=>rw[hx]at ho;cases ho
 |some x=>
  rw[hx]at ho
  match hk:cs.drop ss.length with
  | []=>rw[hk]at ho;cases ho
  |_::_::_=>rw[hk]at ho;cases ho
  | [k]=>
    rw[hk]at ho;simp only[]at ho;cases hks:jD k (.rsl ss)with
    |none=>rw[hks]at ho;cases ho
    |some ks=>
     rw[hks]at ho;cases ho
     have hl:cs.length=ss.length+1:=by
      have:=congrArg List.length hk;simp at this;omega
     have hvl:=h.length;unfold pz;have h1:=h.sub 0 ss.length;have h2:=h.sub ss.length 1;simp only[abu,aaU]at h1;rw[hk]at h2;obtain⟨v,ws,e,h3,h4⟩:=h2;simp only[List.take_nil,aF]at h4;subst h4;refine⟨vs.take ss.length,v,?_,BP mk ss _ x i _ hx (λ c hc=>hp c (abv hc)) h1,?_⟩
     ·rw[←e];have:(vs.drop ss.length).take 1=vs.drop ss.length:=aaF (by simp;omega);rw[this,abm]
     ·have hkp:k.tg= .pure:=hp k (abH (by rw[hk];simp));exact yL hks ((qH hkp).1 h3)
theorem Q7 (ss:List Sh) (cs:List CV):vO ss (cs.map (·.to .pure))=vO ss cs:=by
 unfold vO;rw[←ab7,BM,←ab6];cases fZ ss (cs.take ss.length)with
 |none=>rfl
 |some x=>
  match cs.drop ss.length with
  | []=>rfl
  | [k]=>rfl
  |_::_::_=>rfl
theorem ML {w0:World} {F0:Fz} {X:Nat->Prop} {mk:Nat->aH} (hinj: ∀i j,mk i=mk j->i=j) {cs:List CV} {i:Nat} {vs:List Value} (hb:Base w0 F0 X w g) (hd:Cb cs=true) (h:aF w g mk i cs vs):
 ∃g',Fr (λ o=> ∀j,i<=j->j<i+cs.length->o≠mk j) w w g g'/\Base w0 F0 X w g'/\g'.own=g.own/\g'.at_=g.at_/\aF w g' mk i (cs.map (·.to .pure)) vs:=by
 have hw: ∀cs:List CV,Cb cs=true->weaken cs (cs.map λ c=>(c.sh,.pure))=some (cs.map (·.to .pure)):=by
  intro cs hd
  induction cs with
  |nil=>rfl
  |cons c cs ih=>
   simp only[Cb,acA,aad]at hd
   have hsh: ∀sh:Sh,Sh.beq sh sh=true:=by
    intro sh
    induction sh using Sh.rec (motive_2:=λ aZ=>Sh.Ia aZ aZ=true)with
    |int k=>simp[Sh.beq]
    |bool=>rfl
    |str=>rfl
    |sl es ih=>simpa [Sh.beq]using ih
    |rsl es ih=>simpa [Sh.beq]using ih
    |dl es ih=>simpa [Sh.beq]using ih
    |mp k e ih1 ih2=>simp[Sh.beq,ih1,ih2]
    |nil=>rfl
    |cons s ss ih1 ih2=>simp[Sh.Ia,ih1,ih2]
   have hle:Tg.le .pure c.tg=true:=by
    obtain⟨sh,ct,x⟩:=c;cases ct<;>simp_all [Tg.le]
   have hdl:c.sh.ZL .pure=true:=by
    have h1:=hd.1.2;have h2:=hd.1.1.2;cases hs:c.sh<;>first|rfl|(rw[hs]at h1 h2;cases h1<;>cases h2)
   simp only[abf,weaken,hsh,hle,hdl,Bool.and_self,cond_true,ih hd.2,aaK]
 obtain⟨g',f,b,o,at',r,_⟩:=BD hinj cs _ _ i vs g hb (hw cs hd) h;exact⟨g',f,b,o,at',r⟩
theorem oP {ow:aH} {c:CV} {v:Value} (hs:c.sh.pF=true) (hd:c.tg≠ .dead) (h:jE w g ow c v):
 (∃A k,v= .slice A 0 k/\aQ c.sh c.x=0)\/
 ∃(ad:Addr) (k:Nat) (cs:List Value),v= .slice (some ad) (aQ c.sh c.x) k/\aQ c.sh c.x<=k/\ad.spot=none/\(c.sh.oW=true->uO w g.F c.sh c.x cs)/\(∀j,j<cs.length->w.cell? ⟨ad.block,ad.off+j,none⟩=cs[j]?)/\
  (c.tg≠ .own->Nz w g.F ad cs)/\(c.tg≠ .pure->ad.off=0):=by
 have own: ∀tip,yI w g ow tip c.sh c.x v->(c.tg≠ .own->tip=true)->c.tg≠ .pure->
  (∃A k,v= .slice A 0 k/\aQ c.sh c.x=0)\/
  ∃(ad:Addr) (k:Nat) (cs:List Value),v= .slice (some ad) (aQ c.sh c.x) k/\aQ c.sh c.x<=k/\ad.spot=none/\(c.sh.oW=true->uO w g.F c.sh c.x cs)/\(∀j,j<cs.length->w.cell? ⟨ad.block,ad.off+j,none⟩=cs[j]?)/\
   (c.tg≠ .own->Nz w g.F ad cs)/\(c.tg≠ .pure->ad.off=0):=by
  intro tip h ht hnp;rcases h with⟨hv,hl⟩|⟨b,k,cur,et,hv,hl,hc,ho,hh,hsz,he,hf⟩
  ·exact .inl ⟨none,0,hv,hl⟩
  ·have hlen:=he.length
   have hcell: ∀j,j<(cur.toList.take (aQ c.sh c.x*c.sh.n)).length->w.cell? ⟨b,j,none⟩=(cur.toList.take (aQ c.sh c.x*c.sh.n))[j]? :=by
    intro j hj;rw[hlen]at hj;rw[cell_of_heap hh,aaj,if_pos hj];simp
   refine .inr ⟨⟨b,0,none⟩,k,_,hv,hl,rfl,λ hpl=>(pV hpl).1 he,λ j hj=>by simpa using hcell j hj,λ hno j hj=> ?_,λ _=>rfl⟩;refine⟨by simpa using hcell j hj,(hf _).2 ⟨ht hno,by rw[hlen]at hj;simpa using hj⟩⟩
 unfold jE at h;split at h
 ·rename_i e;exact absurd e hd
 ·rename_i e
  have hpl:c.sh.oW=true:=by
   rcases Ue hs with e|⟨es,e⟩
   ·exact e
   ·obtain⟨csh,ct,cx⟩:=c;simp only at e;subst e;exact h.elim
  rw[wQ hpl]at h;obtain⟨A,k,hv,hl,h⟩:=h;rcases h with h|⟨ad,cs,ha,hsp,hr,he⟩
  ·exact .inl ⟨A,k,by rw[hv,h],h⟩
  ·exact .inr ⟨ad,k,cs,by rw[hv,ha],hl,hsp,λ _=>he,λ j hj=>(hr j hj).1,λ _=>hr,λ hn=>absurd e hn⟩
 ·rename_i e;rw[if_pos hs]at h;exact own false h (λ hn=>absurd e hn) (by rw[e];simp)
 ·rename_i e;rw[if_pos hs]at h;exact own true h (λ _=>rfl) (by rw[e];simp)
theorem Ed {ow:aH} {c:CV} {v:Value} (h:jE w g ow c v) {i:Nat} {ds:List CV} (he:(xW c i).run=some ds):
 c.sh.pF=true/\c.tg≠ .dead/\bD ds=true/\ds.length=c.sh.n/\i<aQ c.sh c.x/\ ∃(ad:Addr) (k:Nat) (vs:List Value),v= .slice (some ad) (aQ c.sh c.x) k/\ad.spot=none/\vs.length=c.sh.n/\
  (∀mk j,aF w g mk j ds vs)/\(∀j,j<c.sh.n->w.cell? ⟨ad.block,ad.off+(i*c.sh.n+j),none⟩=vs[j]?)/\
  (c.tg≠ .own->Nz w g.F ⟨ad.block,ad.off+i*c.sh.n,none⟩ vs)/\(c.tg≠ .pure->ad.off=0):=by
 obtain⟨sh,ct,x⟩:=c
 have hd:ct≠ .dead:=by
  rintro rfl;cases sh<;>exact aP he rfl
 have go: ∀{α:Type} {n:Nat} {R:α->List Value->Prop} {L:List α->List Value->Prop} (hr:Ir n R L) (l:List α) (e:α) (cs:List Value),L l cs->at? l i=some e->sh.n=n->
  i<l.length/\((cs.drop (i*n)).take n).length=n/\R e ((cs.drop (i*n)).take n)/\(∀j,j<n->((cs.drop (i*n)).take n)[j]? =cs[i*n+j]? /\i*n+j<cs.length):=by
  intro α n R L hr l e cs hl ha hn
  have hi:i<l.length:=by
   rcases aaE i l.length with h|h
   ·exact h
   ·simp[at?,aah h]at ha
  have hg:=hr.get l cs hl i e ha;have hlen:=hr.length l cs hl;have hm:i*n+n<=cs.length:=by rw[hlen,←abr];exact aaw _ hi
  refine⟨hi,hr.len _ _ hg,hg,λ j hj=>⟨?_,by omega⟩⟩;rw[aaj,if_pos hj,aan]
 cases sh with
 |sl es=>
  have he': ∃e,at? x i=some e/\ds=cellsOf es e:=by
   have hr:(at? (α:=ElA es) x i).bind (λ e=>some (cellsOf es e))=some ds:=by
    cases ct
    ·exact he
    ·exact he
    ·exact he
    ·exact absurd rfl hd
   obtain⟨e,h1,h2⟩:=aaZ.1 hr;exact⟨e,h1,(aao h2).symm⟩
  obtain⟨e,ha,rfl⟩:=he';have hp:=rW es e;have hdl:(cellsOf es e).length=es.length:=by have:=congrArg List.length (sO es e);simpa using this
  rcases oP rfl hd h with⟨A,k,_,h0⟩|⟨ad,k,cs,hv,_,hsp,hels,hcell,hrow,hoff⟩
  ·exfalso;have h0':List.length x=0:=h0;simp[at?,aav h0']at ha
  ·obtain⟨hi,hl,hg,hj⟩:=go (jC (w:=w) (F:=g.F) es) x e cs (hels rfl) ha rfl;refine⟨rfl,hd,hp,hdl,hi,ad,k,_,hv,hsp,hl,λ mk j=>cells_ok mk es e j _ hg,λ j hjn=> ?_,λ hno j hjn=> ?_,hoff⟩
   ·obtain⟨e1,e2⟩:=hj j hjn;rw[e1];exact hcell _ e2
   ·rw[hl]at hjn;obtain⟨e1,e2⟩:=hj j hjn;rw[e1];have:=hrow hno _ e2;rw[abC];exact this
 |rsl ss=>
  have he': ∃e,at? x i=some e/\ds=rC ss e:=by
   have hr:(at? (α:=RT (ElA ss)) x i).bind (λ e=>some (rC ss e))=some ds:=by
    cases ct
    ·exact he
    ·exact he
    ·exact he
    ·exact absurd rfl hd
   obtain⟨e,h1,h2⟩:=aaZ.1 hr;exact⟨e,h1,(aao h2).symm⟩
  obtain⟨e,ha,rfl⟩:=he';have hp:=wz ss e;have hdl:(rC ss e).length=ss.length+1:=by have:=congrArg List.length (sO ss e.a);simp[rC]at this ⊢;exact this
  rcases oP rfl hd h with⟨A,k,_,h0⟩|⟨ad,k,cs,hv,_,hsp,hels,hcell,hrow,hoff⟩
  ·exfalso;have h0':List.length x=0:=h0;simp[at?,aav h0']at ha
  ·obtain⟨hi,hl,hg,hj⟩:=go (jR (w:=w) (F:=g.F) ss) x e cs (hels rfl) ha rfl;refine⟨rfl,hd,hp,hdl,hi,ad,k,_,hv,hsp,hl,λ mk j=>zq mk ss e j _ hg,λ j hjn=> ?_,λ hno j hjn=> ?_,hoff⟩
   ·obtain⟨e1,e2⟩:=hj j hjn;rw[e1];exact hcell _ e2
   ·rw[hl]at hjn;obtain⟨e1,e2⟩:=hj j hjn;rw[e1];have:=hrow hno _ e2;rw[abC];exact this
 |int k=>exact(aP he rfl).elim
 |bool=>exact(aP he rfl).elim
 |str=>exact(aP he rfl).elim
 |dl _=>exact(aP he rfl).elim
 |mp _ _=>exact(aP he rfl).elim
end
end Go.AM
end
section
namespace Go.AM
open Go
section
variable {E:Env} {C:Ctx} {s s':St} {a a':Act} {w w':World} {g g':Gh}
def FV:(sh:Sh)->El sh->Nat->Nat->El sh
 | .sl _,l,lo,hi=>List.drop lo (List.take hi l)
 | .rsl _,l,lo,hi=>List.drop lo (List.take hi l)
 |_,x,_,_=>x
theorem ru {c d:CV} {lo hi:Nat} (h:xg c lo hi=some d):c.sh.oW=true/\c.tg≠ .dead/\d=⟨c.sh,c.tg,FV c.sh c.x lo hi⟩:=by
 obtain⟨sh,ct,x⟩:=c
 cases sh with
 |sl es=>cases ct<;>first|exact(aP h rfl).elim|exact⟨rfl,by simp,(aao h).symm⟩
 |rsl ss=>cases ct<;>first|exact(aP h rfl).elim|exact⟨rfl,by simp,(aao h).symm⟩
 |int k=>exact(aP h rfl).elim
 |bool=>exact(aP h rfl).elim
 |str=>exact(aP h rfl).elim
 |dl _=>exact(aP h rfl).elim
 |mp _ _=>exact(aP h rfl).elim
theorem YE {α:Type} (l:List α) (lo hi:Nat) (h:hi<=l.length):((l.take hi).drop lo).length=hi-lo:=by simp;omega
theorem Bv {sh:Sh} (hs:sh.oW=true) (x:El sh) {lo hi:Nat} (h:hi<=aQ sh x):aQ sh (FV sh x lo hi)=hi-lo:=by
 cases sh with
 |sl es=>exact YE (α:=ElA es) x lo hi h
 |rsl ss=>exact YE (α:=RT (ElA ss)) x lo hi h
 |_=>simp[Sh.oW]at hs
theorem uO.sub {F:Fz} {sh:Sh} {x:El sh} {cs:List Value} (h:uO w F sh x cs) (lo hi:Nat):uO w F sh (FV sh x lo hi) ((cs.take (hi*sh.n)).drop (lo*sh.n)):=by
 cases sh with
 |sl es=>exact(jC es).drop _ _ lo ((jC es).take _ _ hi h)
 |rsl ss=>exact(jR ss).drop _ _ lo ((jR ss).take _ _ hi h)
 |_=>exact h.elim
theorem jo.sub {F:Fz} {sh:Sh} (hs:sh.oW=true) {x:El sh} {A:Option Addr} {l k:Nat} (h:jo w F sh x (.slice A l k)) {lo hi:Nat} (h1:lo<=hi) (h2:hi<=l):
 jo w F sh (FV sh x lo hi) (zT A k lo hi sh.n):=by
 rw[wQ hs]at h ⊢;obtain⟨A',k',hv,hl,h⟩:=h;cases hv;have hlen:=Bv hs x (lo:=lo) h2;rw[hlen];refine⟨_,_,rfl,by omega,?_⟩;by_cases h0:hi-lo=0
 ·exact .inl h0
 ·rcases h with h|⟨ad,cs,rfl,hsp,hr,he⟩
  ·omega
  ·have hcs:=he.length;have hb:hi*sh.n<=cs.length:=by rw[hcs];exact aaw _ h2
   have hlh:lo*sh.n<=hi*sh.n:=aaw _ h1;refine .inr ⟨ad.add (lo*sh.n),_,?_,?_,?_,he.sub lo hi⟩
   ·rw[if_neg (by omega)];rfl
   ·unfold Addr.add;split
    ·exact hsp
    ·rfl
   ·intro j hj;simp only[aa7,aaB]at hj
    have hadd:(ad.add (lo*sh.n)).block=ad.block/\(ad.add (lo*sh.n)).off=ad.off+lo*sh.n:=by
     unfold Addr.add;split
     ·rename_i e;rw[e];exact⟨rfl,rfl⟩
     ·exact⟨rfl,rfl⟩
    obtain⟨e1,e2⟩:=hr (lo*sh.n+j) (by omega);rw[hadd.1,hadd.2,abC];refine⟨?_,e2⟩;rw[e1,aan,aaj,if_pos (by omega)]
theorem yI.front {ow:aH} {sh:Sh} (hs:sh.oW=true) {x:El sh} {A:Option Addr} {l k:Nat} (h:yI w g ow false sh x (.slice A l k)) {hi:Nat} (h2:hi<=l):
 yI w g ow false sh (FV sh x 0 hi) (zT A k 0 hi sh.n):=by
 rcases h with⟨hv,hl⟩|⟨b,c,cur,et,hv,hl,hc,ho,hh,hsz,he,hf⟩
 ·cases hv;have:hi=0:=by omega
  subst this;left;refine⟨by simp[zT],?_⟩;rw[Bv hs x (by omega)]
 ·cases hv;have hlen:=Bv hs x (lo:=0) h2;right;refine⟨b,k,cur,et,?_,by rw[hlen];omega,hc,ho,hh,hsz,?_,λ o=> ?_⟩
  ·rw[hlen];simp[zT,Addr.add]
  ·have:=((pV hs).1 he).sub 0 hi;rw[pV hs,hlen,Nat.sub_zero];rw[Nat.zero_mul,abu,abS,abK (aaw _ h2)]at this;exact this
  ·simp[hf o]
theorem xQ {p:Pl} {c:CV} {i j:Nat} (h:KN s p=some (c,i,j)):p.sub=some (i,j)/\ ∃(es:List Sh) (l:List (Option (ElA es))),c=⟨.dl es,.own,l⟩/\aW s p 1=some [⟨.dl es,.own,l⟩]:=by
 unfold KN at h;split at h
 ·rename_i i' j' hs;split at h
  ·rename_i es l hc;cases h;exact⟨hs,es,l,rfl,hc⟩
  ·cases h
 ·cases h
theorem Nb {α:Type} {l:List (Option α)} {i:Nat} {e:α} (h:rowAt? l i=some e):l[i]? =some (some e):=by
 unfold rowAt? at h
 cases hl:l[i]? with
 |none=>rw[hl]at h;cases h
 |some o=>rw[hl]at h;simp at h;rw[h]
theorem oG (es:List Sh) (e:ElA es):(mX es e).length=es.length:=by
 have:=congrArg List.length (sO es e);simpa [mX]using this
theorem Ba {es:List Sh} {l:List (Option (ElA es))} {i j n:Nat} {cs:List CV} (h:(FT ⟨.dl es,.own,l⟩ i j n).run=some cs):
 ∃e,l[i]? =some (some e)/\j+n<=es.length/\cs=((mX es e).drop j).take n:=by
 obtain⟨e,h1,h2⟩:=aaZ.1 (show(rowAt? (α:=ElA es) l i).bind _=some cs from h);simp only[oG]at h2
 cases hb:Nat.ble (j+n) es.length with
 |false=>rw[hb]at h2;exact(aP h2 rfl).elim
 |true=>rw[hb]at h2;exact⟨e,Nb h1,aa6 hb,(aao h2).symm⟩
theorem qB.top {ow:aH} {B:Option Nat} {sh:Sh} {x:El sh} {v:Value} (h:qB w g ow B sh x v):jE w g ow ⟨sh,sh.top,x⟩ v:=by
 unfold qB at h;split at h
 ·rename_i hs;have e:sh.top= .own:=by cases sh<;>first|rfl|simp[Sh.pF]at hs
  rw[e];simp only[jE,if_pos hs];exact(oC h.1).2 h.2.1
 ·rename_i hs;have e:sh.top= .pure:=by cases sh<;>first|rfl|(simp[Sh.pF]at hs;done)|exact h.elim
  rw[e];exact h
theorem xk {es:List Sh} {e:ElA es} {k:Nat} {c:CV} (h:(mX es e)[k]? =some c): ∃c0,(cellsOf es e)[k]? =some c0/\c=⟨c0.sh,c0.sh.top,c0.x⟩:=by
 simp only[mX,aar,aaG]at h;obtain⟨c0,h1,h2⟩:=h;exact⟨c0,h1,h2.symm⟩
theorem Rel.IV (h:Rel E C s a w g) {p:Pl} {es:List Sh} {l:List (Option (ElA es))} (hc:aW s p 1=some [⟨.dl es,.own,l⟩]) {i:Nat} (hi:i<l.length):
 ∃b k cur et,(aC a w g p.root)[p.cell]? =some (.slice (some ⟨b,0,none⟩) l.length k)/\((aC a w g p.root).drop p.cell).take 1= [.slice (some ⟨b,0,none⟩) l.length k]/\l.length<=k/\k<=maxLen/\g.own b=some (dJ p.root p.cell)/\w.heap[b]? =some (.cells cur et (0,0))/\
  cur.size=k*es.length/\iM w g (dJ p.root p.cell) b es l (cur.toList.take (l.length*es.length))/\(∀o,¬g.F b o)/\ ∀u,u∈cur.toList.take (l.length*es.length)->u.oneCell'=true:=by
 obtain⟨hr,_⟩:=h.pl hc;obtain⟨v,ws,e,h1,hw⟩:=hr;simp only[aF]at hw;subst hw
 have e1:(aC a w g p.root)[p.cell]? =some v:=by
  have:=congrArg (λ l=>l[0]?) e;simp only[aaj,aan,aaU]at this;simpa using this
 simp only[jE,Sh.pF,if_true]at h1;rcases h1 with⟨_,hl⟩|⟨b,k,cur,et,hv,hlk,hk,ho,hh,hsz,he,hf⟩
 ·have hl:l.length=0:=hl;omega
 ·subst hv;exact⟨b,k,cur,et,e1,e,hlk,hk,ho,hh,hsz,he.2,(λ o hF=>by have:=((hf o).1 hF).1;cases this),he.1.2⟩
theorem iM.row {ow:aH} {es:List Sh} {l:List (Option (ElA es))} {cs:List Value} {B:Nat->Option Nat}
 (h4: ∀i x,l[i]? =some (some x)->XA w g ow (λ j=>B (i*es.length+j)) es x ((cs.drop (i*es.length)).take es.length))
 {i:Nat} {e:ElA es} (he:l[i]? =some (some e)) {k:Nat} {c:CV} (hk:(cellsOf es e)[k]? =some c): ∃v,cs[i*es.length+k]? =some v/\qB w g ow (B (i*es.length+k)) c.sh c.x v/\k<es.length:=by
 obtain⟨r1,r2⟩:=h4 i e he
 have hkl:k<es.length:=by
  have:=congrArg List.length (sO es e);simp only[aaN]at this;rw[←this];rcases aaE k (cellsOf es e).length with h|h
  ·exact h
  ·simp[aah h]at hk
 have hv:((cs.drop (i*es.length)).take es.length)[k]? =some (((cs.drop (i*es.length)).take es.length)[k]'(by rw[r1];exact hkl)):=aac _;refine⟨_,?_,r2 k c _ hk hv,hkl⟩;rw[←hv,aaj,if_pos hkl,aan]
theorem Rel.X7 (h:Rel E C s a w g) {p:Pl} {es:List Sh} {l:List (Option (ElA es))} (hc:aW s p 1=some [⟨.dl es,.own,l⟩]) {i j m:Nat} {e:ElA es} (he:l[i]? =some (some e)) (hjm:j+m<=es.length):
 ∃b k cur et,(aC a w g p.root)[p.cell]? =some (.slice (some ⟨b,0,none⟩) l.length k)/\i<l.length/\w.heap[b]? =some (.cells cur et (0,0))/\
  aF w g (λ _=>dJ p.root p.cell) 0 (((mX es e).drop j).take m) ((cur.toList.drop (i*es.length+j)).take m)/\((cur.toList.drop (i*es.length+j)).take m).length=m:=by
 have hi:i<l.length:=by
  rcases aaE i l.length with h|h
  ·exact h
  ·simp[aah h]at he
 obtain⟨b,k,cur,et,e1,e2,hlk,hk,ho,hheap,hsz,⟨hcl,B,hB1,hB2,hB3⟩,hF,hone⟩:=h.IV hc hi;have hN:i*es.length+es.length<=l.length*es.length:=by rw[←abr];exact aaw _ hi
 have hN2:l.length*es.length<=cur.size:=by rw[hsz];exact aaw _ hlk
 have hlen:((cur.toList.drop (i*es.length+j)).take m).length=m:=by simp;omega
 refine⟨b,k,cur,et,e1,hi,hheap,aF.of _ _ _ ?_ λ q c0 u hc0 hu0=> ?_,hlen⟩
 ·rw[hlen];simp only[aaB,aa7,oG];omega
 ·simp only[aaj,aan]at hc0 hu0;split at hc0
  ·rename_i hq;rw[if_pos hq]at hu0;obtain⟨c1,hc1,rfl⟩:=xk hc0;obtain⟨u',hu',hcd,hqN⟩:=iM.row hB3 he hc1;rw[aaj,if_pos (by omega)]at hu';rw[show i*es.length+j+q=i*es.length+(j+q) by omega,hu']at hu0;cases hu0;exact qB.top hcd
  ·cases hc0
theorem WV (es:List Sh) (e:ElA es) (j m:Nat):CY (((mX es e).drop j).take m)=true:=by
 unfold CY;rw[aaV];intro c hc;have:=abH (abv hc);obtain⟨c0,_,rfl⟩:=aaL.1 this;show(match c0.sh.top with| .dead=>false|_=>true)=true
 cases c0.sh<;>rfl
open Classical in
theorem Po (h:Rel E C s a w g) {hs:List CV} {hv:List Value} (hh:aF w g .hand 0 hs hv) {p:Pl} {ag:Bool} {n:Nat} {v:Value} {mk:Nat->aH} (hvv:TV0 s a w g mk (.rowr p ag n) v)
 {c:CV} {i j:Nat} (hd:KN s p=some (c,i,j)) {cs:List CV} (hp:(FT c i j n).run=some cs) {c':CV} (hm:moveRow c i=some c') {us:List Upd} (hu:jB s p [c'] false=some us):
 ∃g',Rel E C (s.dM us) a w g'/\isAgg v=ag/\aF w g' .hand 0 (hs++cs) (hv++v.cells.toList)/\g'.at_=g.at_/\Keeps w w g.F g'.F/\(∀b n,g.own b=some (.box n)->g'.own b=some (.box n)):=by
 obtain⟨hsub,es,l,rfl,hc⟩:=xQ hd;obtain⟨e,he,hjn,rfl⟩:=Ba hp
 have hi:i<l.length:=by
  rcases aaE i l.length with h|h
  ·exact h
  ·simp[aah h]at he
 obtain⟨b,k,cur,et,e1,e2,hlk,hk,ho,hheap,hsz,⟨hcl,B,hB1,hB2,hB3⟩,hF,hone⟩:=h.IV hc hi;obtain⟨_,_,i',j',hsub',hrow⟩:=hvv;rw[hsub]at hsub';cases hsub';obtain⟨b2,len2,k2,cur2,et2,f2,m1,_,m3,hag,hvc⟩:=hrow es l hc;rw[e1]at m1;cases m1;rw[hheap]at m3;cases m3
 let N:=es.length
 let mine:Nat->Nat->Prop:=λ x q=>j<=q/\q<j+n/\ ∃c0 u,(cellsOf es e)[q]? =some c0/\c0.sh.pF=true/\(cur.toList.take (l.length*N))[i*N+q]? =some u/\blk u=some x
 have hmB: ∀x q,mine x q->B (i*N+q)=some x/\g.own x=some (dJ p.root p.cell)/\q<N:=by
  rintro x q ⟨_,_,c0,u,h1,h2,h3,h4⟩;obtain⟨u',h5,h6,h7⟩:=iM.row hB3 he h1;rw[h3]at h5;cases h5;unfold qB at h6;rw[if_pos h2]at h6;exact⟨by rw[←h6.2.2,h4],h6.2.1.mg h4,h7⟩
 have hmU: ∀x q q',mine x q->mine x q'->q=q':=by
  intro x q q' h1 h2;have:=hB2 _ _ x (hmB x q h1).1 (hmB x q' h2).1;omega
 let own':Nat->Option aH:=λ x=>if hx: ∃q,mine x q then some (.hand (hs.length+(hx.choose-j)))else g.own x
 let g':Gh:={g with own:=own'}
 have own_other: ∀x,(¬ ∃q,mine x q)->g'.own x=g.own x:=λ x hx=>by simp only[g',own',dif_neg hx]
 have own_mine: ∀x q,mine x q->g'.own x=some (.hand (hs.length+(q-j))):=λ x q hx=>by
  have hex: ∃q,mine x q:=⟨q,hx⟩;simp only[g',own',dif_pos hex];rw[hmU x _ q hex.choose_spec hx]
 have f:Fr (λ o=>o≠dJ p.root p.cell) w w g g':=⟨Keeps.refl _ _,λ x ow hk ho=>by
  refine⟨?_,rfl,λ o h=>h⟩;rw[own_other];exact ho;rintro⟨q,hx⟩;rw[(hmB x q hx).2.1]at ho;cases ho;exact hk rfl⟩
 have hb':Base C.w0 C.F0 C.X w g':=⟨h.base.os,h.base.tape,h.base.output,h.base.size,h.base.blk,λ x ow hx=>by
  by_cases hm: ∃q,mine x q
  ·obtain⟨q,hq⟩:=hm;exact h.base.own x _ (hmB x q hq).2.1
  ·rw[own_other x hm]at hx;exact h.base.own x ow hx,h.base.keeps,h.base.fz,λ x ow cs t f hx hc=>by
  by_cases hm: ∃q,mine x q
  ·obtain⟨q,hq⟩:=hm;exact h.base.frz x _ cs t f (hmB x q hq).2.1 hc
  ·rw[own_other x hm]at hx;exact h.base.frz x ow cs t f hx hc⟩
 have hbm: ¬ ∃q,mine b q:=by
  rintro⟨q,hx⟩;exact hB1 _ (hmB b q hx).1
 simp only[moveRow,aae]at hm;subst hm;refine⟨g',?_,hag,?_,rfl,f.keeps,λ x m ho=>(f.own x _ (by cases p.root<;>simp[dJ]) ho).1⟩
 ·refine jQ h (ds:=[⟨.dl es,.own,List.set l i none⟩]) hc hu rfl (f.mono λ o ho=>ho.1 p.cell (aaq _) (by simp)) hb' rfl ?_ ?_
  ·show aF w g' _ _ _ (((aC a w g p.root).drop p.cell).take 1);rw[e2];refine⟨_,[],rfl,?_,rfl⟩;simp only[jE,Sh.pF,if_true];have hll:(List.set l i none).length=l.length:=aa0;refine .inr ⟨b,k,cur,et,by simp only[aQ];rw[hll],by simp only[aQ];rw[hll];exact hlk,hk,by rw[own_other b hbm];exact ho,hheap,hsz,⟨⟨rfl,by simp only[aQ,Sh.n];rw[hll];exact hone⟩,?_⟩,λ o=>⟨λ hf=>(hF o hf).elim,λ hf=>by cases hf.1⟩⟩;simp only[aQ,Sh.n];rw[hll];refine⟨by rw[hll];exact hcl,B,hB1,hB2,λ i' x hx=> ?_⟩
   have hne:i'≠i:=by
    rintro rfl;rw[aby hi]at hx;cases hx
   rw[abk (Ne.symm hne)]at hx;refine XA.imp (g:=g) (g':=g') (Keeps.refl w g.F) (λ q sh u hq hqB y hy=> ?_) (hB3 i' x hx);refine uZ.owner (g:=g) (g':=g') rfl (λ x' hx'=> ?_) hy;rw[own_other];exact hy.mg hx';rintro⟨q',hm⟩;have h1:=(hmB x' q' hm).1;have h2:=(hmB x' q' hm).2.2;have h3:=hB2 _ _ x' h1 (hqB.trans hx')
   have h4:i=i':=by
    have hN:0<N:=by omega
    have a1:(i*N+q')/N=i:=by rw[aco,Nat.mul_add_div hN,acI h2,aaU]
    have a2:(i'*N+q)/N=i':=by rw[aco,Nat.mul_add_div hN,acI hq,aaU]
    rw[←a1,←a2];exact congrArg (· /N) h3
   exact hne h4.symm
  ·intro q es' l' hq
   have hq0:q=0:=by
    rcases ab8 q with h|h
    ·exact h
    ·rw[aah (by simp;omega)]at hq;cases hq
   subst hq0;simp only[aaM,aae]at hq;obtain⟨rfl,_,_⟩:=hq;exact⟨l,rfl,λ _ _ _ _=>rfl⟩
 ·refine aF.append hs 0 hv _ _ (hh.fr (f.mono (K':=λ o=> ∃q,o= .hand q) λ o ⟨q,e⟩=>by rw[e];exact(iZ _ _ _).symm) _ _ _ (λ q=>⟨q,rfl⟩)) ?_;rw[aaW,hvc];refine aF.of _ _ _ ?_ λ q c0 u hc0 hu0=> ?_
  ·simp only[aaB,aa7,oG,aa2,hsz];have:i*es.length+es.length<=k*es.length:=by rw[←abr];exact aaw _ (by omega)
   omega
  ·simp only[aaj,aan]at hc0 hu0;split at hc0
   ·rename_i hq;rw[if_pos hq]at hu0;obtain⟨c1,hc1,rfl⟩:=xk hc0;obtain⟨u',hu',hcd,hqN⟩:=iM.row hB3 he hc1
    have hlt:i*es.length+(j+q)<l.length*es.length:=by
     have:i*es.length+es.length<=l.length*es.length:=by rw[←abr];exact aaw _ hi
     omega
    have hu2:=hu';rw[aaj,if_pos hlt]at hu2;rw[show i*es.length+j+q=i*es.length+(j+q) by omega,hu2]at hu0;cases hu0;refine qB.top (B:=B (i*es.length+(j+q))) ?_;unfold qB at hcd ⊢;split
    ·rename_i hsl;rw[if_pos hsl]at hcd;refine⟨hcd.1,uZ.owner (g:=g) (g':=g') rfl (λ x hx=> ?_) hcd.2.1,hcd.2.2⟩;rw[own_mine x (j+q) ⟨by omega,by omega,c1,u,hc1,hsl,hu',hx⟩];congr 2;omega
    ·rename_i hsl;rw[if_neg hsl]at hcd;exact hcd
   ·cases hc0
theorem gy {p:Pl} (hp:p.sub=none) {n:Nat} {cs:List CV} (h:(content s p n).run=some cs):aW s p n=some cs:=by
 unfold content at h;rw[hp]at h;exact Eb h
theorem qP {hs:List CV} {hv:List Value} {c:CV} {v:Value}:aF w g .hand 0 (hs++[c]) (hv++[v]) ↔ hv.length=hs.length/\aF w g .hand 0 hs hv/\jE w g (.hand hs.length) c v:=by
 constructor
 ·intro h;have hl:hv.length=hs.length:=by have:=h.length;simp at this;omega
  have h1:=h.sub 0 hs.length;simp only[abu,aaU]at h1
  have h1':aF w g .hand 0 hs hv:=by
   have e1:(hs++[c]).take hs.length=hs:=by simp
   have e2:(hv++[v]).take hs.length=hv:=by rw[←hl];simp
   rwa [e1,e2]at h1
  obtain⟨u,hu,hr⟩:=h.get _ 0 _ hs.length c (by simp);rw[←hl]at hu;simp at hu;exact⟨hl,h1',by rw[hu];simpa using hr⟩
 ·rintro⟨hl,h1,h2⟩;exact aF.append hs 0 hv [c] [v] h1 ⟨v,[],rfl,by simpa using h2,rfl⟩
theorem aJ {v:Value} (h:isAgg v=false):v.cells= #[v]:=by cases v<;>simp[isAgg]at h<;>rfl
theorem FX {ow:aH} {sh:Sh} (hsl:sh.pF=true):jE w g ow (H8 sh) (.slice none 0 0):=by
 cases sh with
 |sl es=>exact .inl ⟨rfl,rfl⟩
 |rsl ss=>exact .inl ⟨rfl,rfl⟩
 |dl es=>exact .inl ⟨rfl,rfl⟩
 |_=>simp[Sh.pF]at hsl
theorem DZ (h:Rel E C s a w g) {hs:List CV} {hv:List Value} (hh:aF w g .hand 0 hs hv) {x:Operand} {exp:List Sh} {ag:Bool} {cs:List CV} {us:List Upd}
 (ht:(BA E s x exp).run=some (ag,cs,us)):
 ∃g',Rel E C (s.dM us) a w g'/\isAgg (a.eval x)=ag/\aF w g' .hand 0 (hs++cs) (hv++(a.eval x).cells.toList)/\g'.at_=g.at_/\Keeps w w g.F g'.F:=by
 have hat:=h.at_ x;unfold BA at ht
 cases hx:at_ E s x with
 |val ag' cs'=>
  rw[hx]at ht hat;rcases hat with⟨e,_⟩|hat
  ·cases e
  ·simp only[]at ht
   cases hp:bD cs' with
   |true=>
    rw[hp]at ht;simp only[cond_true,Dyn.run,aae,aas]at ht;obtain⟨rfl,rfl,rfl⟩:=ht;exact⟨g,h,hat.1,aF.append hs 0 hv _ _ hh (aF.uq (Keeps.refl _ _) _ 0 _ _ hp hat.2),rfl,Keeps.refl _ _⟩
   |false=>
    rw[hp]at ht;simp only[cond_false]at ht
    cases x with
    |tmp n=>
     simp only[Dyn.run,aae,aas]at ht;obtain⟨rfl,rfl,rfl⟩:=ht;have hx':(s.tm n).1= .val ag' cs':=hx
     have hpl:aW s ⟨.tmp n,(s.tm n).2,[],0,none⟩ cs'.length=some cs':=by
      rw[bI];refine⟨cs'.map λ c=>(c,(s.tm n).2),?_,by simp,by simp,by rw[←oJ,mQ];simp⟩;have e:s.tm n=(.val ag' cs',(s.tm n).2):=by rw[←hx']
      simp only[aB];rw[e]
     have hput:jB s ⟨.tmp n,(s.tm n).2,[],0,none⟩ (cs'.map CV.left) false=some [.keep n (.val ag' (cs'.map CV.left))]:=by
      have e:s.tm n=(.val ag' cs',(s.tm n).2):=by rw[←hx']
      simp only[jB];rw[e];simp only[cond_false,acj,cond_true,wZ _ _ (aaN _)]
     obtain⟨g',r,k,e,kp⟩:=QY h hh hpl hput;have hlen:=hat.2.length
     have:((aC a w g (.tmp n)).drop 0).take cs'.length=(a.eval (.tmp n)).cells.toList:=by
      simp only[aC,abu];exact aaF (by omega)
     rw[this]at k;exact⟨g',r,hat.1,k,e,kp⟩
    |const v=>exact(aP ht rfl).elim
    |global gl=>exact(aP ht rfl).elim
    |func f=>exact(aP ht rfl).elim
 |ref p ag' n=>
  rw[hx]at ht hat;rcases hat with⟨e,_⟩|hat
  ·cases e
  ·obtain⟨_,_,hsub,hat⟩:=hat;obtain⟨cs',hc,ht⟩:=aU ht;have hc:=gy hsub hc
   cases hk:Aq s p cs' with
   |none=>rw[hk]at ht;exact(aP ht rfl).elim
   |some us'=>
    rw[hk]at ht;simp only[Dyn.run,aae,aas]at ht;obtain⟨rfl,rfl,rfl⟩:=ht;obtain⟨g',r,k,e,kp⟩:=V4 h hh hsub hc hk;obtain⟨h1,h2⟩:=hat _ hc;rw[←h2]at k;exact⟨g',r,h1,k,e,kp⟩
 |rsub p z lo hi=>
  rw[hx]at ht hat;rcases hat with⟨e,_⟩|hat
  ·cases e
  ·obtain⟨_,_,hsub,hz,hat⟩:=hat;obtain⟨cs',hc,ht⟩:=aU ht;have hc:=gy hsub hc
   match cs',hc,ht with
   | [],_,ht=>exact(aP ht rfl).elim
   |_::_::_,_,ht=>exact(aP ht rfl).elim
   | [c],hc,ht=>
     simp only[]at ht
     cases hd:xg c lo hi with
     |none=>rw[hd]at ht;exact(aP ht rfl).elim
     |some d=>
      cases hk:Aq s p [c]with
      |none=>rw[hd,hk]at ht;exact(aP ht rfl).elim
      |some us'=>
       rw[hd,hk]at ht;simp only[Dyn.run,aae,aas]at ht;obtain⟨rfl,rfl,rfl⟩:=ht;obtain⟨hpl,hnd,rfl⟩:=ru hd;have hsl:=fD hpl;obtain⟨A,l,k,e1,h1,h2,h3,h4⟩:=hat c hc;obtain⟨g',r,hcs,e,kp⟩:=V4 h hh hsub hc hk
       have ev:((aC a w g p.root).drop p.cell).take 1= [.slice A l k]:=by
        have hlt:p.cell<(aC a w g p.root).length:=by
         rcases aaE p.cell (aC a w g p.root).length with h|h
         ·exact h
         ·simp[aah h]at e1
        rw[aaI hlt];rw[aac hlt]at e1;rw[List.take_succ_cons,ace,aao e1]
       rw[ev]at hcs;have hag:isAgg (a.eval x)=false:=by rw[h4];rfl
       rw[aJ hag];obtain⟨l1,l2,l3⟩:=qP.1 hcs;obtain⟨csh,ct,cx⟩:=c;by_cases hzo:z=true/\ct= .own
       ·obtain⟨rfl,rfl⟩:=hzo;have hlo:=hz rfl;subst hlo;simp only[jE,if_pos hsl]at l3;refine⟨g',r,hag,qP.2 ⟨l1,l2,?_⟩,e,kp⟩;simp only[Tg.Ep,acL,cond_true,jE,if_pos hsl];rw[h4];exact l3.front hpl h2
       ·have hcond:(bif z&&ct.Ep then(⟨csh,ct,FV csh cx lo hi⟩:CV)else(⟨csh,ct,FV csh cx lo hi⟩:CV).to .pure)=⟨csh,.pure,FV csh cx lo hi⟩:=by
         cases z with
         |false=>rfl
         |true=>cases ct<;>first|rfl|exact absurd ⟨rfl,rfl⟩ hzo
        have hle:Tg.le .pure ct=true:=by cases ct<;>first|rfl|exact absurd rfl hnd
        obtain⟨g2,f2,b2,o2,a2,c2,_⟩:=l3.weak r.base hle (by cases csh<;>first|rfl|simp[Sh.oW]at hpl)
        have r2:Rel E C (s.dM us') a w g2:=r.world (f2.mono λ o ho=>ho _) b2 a2;refine⟨g2,r2,hag,?_,a2.trans e,kp.trans f2.keeps⟩;show aF w g2 .hand 0 (hs++[bif z&&ct.Ep then(⟨csh,ct,FV csh cx lo hi⟩:CV)else(⟨csh,ct,FV csh cx lo hi⟩:CV).to .pure]) (hv++[a.eval x]);rw[hcond,qP];refine⟨l1,?_,?_⟩
        ·refine aF.of hs 0 hv l1 λ j c v hc hv=> ?_;obtain⟨u,hu,hr⟩:=l2.get hs 0 _ j c hc;rw[hu]at hv;cases hv;refine hr.fr f2 ?_
         have:j<hs.length:=by
          rcases aaE j hs.length with h|h
          ·exact h
          ·simp[aah h]at hc
         simp;omega
        ·rw[h4];exact jo.sub hpl c2 h1 h2
 |nilc=>
  rw[hx]at ht hat;rcases hat with⟨_,hval⟩|hat
  ·match exp,ht with
   | [],ht=>exact(aP ht rfl).elim
   |_::_::_,ht=>exact(aP ht rfl).elim
   | [sh],ht=>
     simp only[]at ht
     cases hsl:sh.pF with
     |false=>rw[hsl]at ht;exact(aP ht rfl).elim
     |true=>
      rw[hsl]at ht;simp only[cond_true,Dyn.run,aae,aas]at ht;obtain⟨rfl,rfl,rfl⟩:=ht;rw[hval];refine⟨g,h,rfl,qP.2 ⟨hh.length,hh,?_⟩,rfl,Keeps.refl _ _⟩;exact FX hsl
  ·exact hat.elim
 |dead=>rw[hx]at ht;exact(aP ht rfl).elim
 |undef=>rw[hx]at ht;exact(aP ht rfl).elim
 |addr p=>rw[hx]at ht;exact(aP ht rfl).elim
 |rowr p ag' n=>
  rw[hx]at ht hat;rcases hat with⟨e,_⟩|hat
  ·cases e
  ·simp only[]at ht
   cases hd:KN s p with
   |none=>rw[hd]at ht;exact(aP ht rfl).elim
   |some cij=>
    obtain⟨c,i,j⟩:=cij;rw[hd]at ht;obtain⟨cs',hp,ht⟩:=aU ht
    cases hm:moveRow c i with
    |none=>rw[hm]at ht;exact(aP ht rfl).elim
    |some c'=>
     rw[hm]at ht;simp only[]at ht
     cases hu:jB s p [c'] false with
     |none=>rw[hu]at ht;exact(aP ht rfl).elim
     |some us'=>
      rw[hu]at ht;simp only[Dyn.run,aae,aas]at ht;obtain⟨rfl,rfl,rfl⟩:=ht;obtain⟨g',q1,q2,q3,q4,q5,_⟩:=Po (mk:=VF x) h hh hat hd hp hm hu;exact⟨g',q1,q2,q3,q4,q5⟩
 |addr2 p k q=>rw[hx]at ht;exact(aP ht rfl).elim
 |paddr cs' off=>rw[hx]at ht;exact(aP ht rfl).elim
 |tup ts=>rw[hx]at ht;exact(aP ht rfl).elim
 |fn f=>rw[hx]at ht;exact(aP ht rfl).elim
 |clo f ts=>rw[hx]at ht;exact(aP ht rfl).elim
 |ext p q c=>rw[hx]at ht;exact(aP ht rfl).elim
end
end Go.AM
end
section
namespace Go.AM
open Go
def zeroV:Sh->Value
 | .int k=> .int k 0
 | .bool=> .bool false
 | .str=> .string ByteArray.empty
 | .mp _ _=> .map none
 |_=> .slice none 0 0
def OB:Sh->Value->Bool
 | .int k,.int k' n=>decide (k=k')&&decide (n=0)
 | .bool,.bool b=> !b
 | .str,.string b=>match b.data.toList with| []=>true|_=>false
 | .sl _,.slice none 0 0=>true
 | .rsl _,.slice none 0 0=>true
 | .mp _ _,.map none=>true
 |_,_=>false
theorem acQ {sh:Sh} {v:Value} (h:OB sh v=true):v=zeroV sh:=by
 unfold OB at h;split at h
 ·simp only[aad,decide_eq_true_eq]at h;simp[zeroV,h.1,h.2]
 ·rename_i b;cases b<;>simp_all [zeroV]
 ·rename_i b;split at h
  ·rename_i e;obtain⟨⟨l⟩⟩:=b;simp at e;subst e;rfl
  ·cases h
 ·rfl
 ·rfl
 ·rfl
 ·cases h
def xw:List Sh->List Value->Bool
 | [],[]=>true
 |s::ss,v::vs=>OB s v&&xw ss vs
 |_,_=>false
theorem Vp: ∀{ss:List Sh} {vs:List Value},xw ss vs=true->vs=ss.map zeroV
 | [],[],_=>rfl
 | [],_::_,h=>by simp[xw]at h
 |_::_,[],h=>by simp[xw]at h
 |s::ss,v::vs,h=>by
  simp only[xw,aad]at h;rw[acQ h.1,Vp h.2];rfl
theorem SN: ∀{ss:List Sh} {vs:List Value},xw ss vs=true->(ss.all λ s=> !s.acW)=true
 | [],[],_=>rfl
 | [],_::_,h=>by simp[xw]at h
 |_::_,[],h=>by simp[xw]at h
 |s::ss,v::vs,h=>by
  simp only[xw,aad]at h;simp only[acA,SN h.2,ab4];cases s<;>first|rfl|(have:=h.1;simp[OB]at this)
def vX:Sh->List Sh
 | .sl es=>es
 | .rsl ss=>ss++[.rsl ss]
 | .dl es=>es
 |_=>[]
theorem jZ (sh:Sh):(vX sh).length=sh.n:=by cases sh<;>simp[vX,Sh.n]
def places (P:Program) (fs:List Field):Option (List (Nat×Nat)):=fs.mapM λ f=>(P.info? f.type).map λ i=>(f.offset,i.size)
def o8 (P:Program) (ty:TypeId->Option TyI) (i:TyI):TypeDesc->Bool
 | .slice e=> !i.ag&&decide (i.elem=some e)&&(match i.cells with
   | [sh]=>sh.oW&&(match ty e with|some j=>Sh.Ia j.cells (vX sh)&&((j.cells.all λ s=> !s.Ie)&&Nat.ble j.cells.length 8)|none=>false)
   |_=>false)
 | .struct fs=>i.ag&&decide (i.elem=none)&&(match places P fs.toList with
   |some l=>decide (l=i.fields)&&decide (fs.toList.map (·.type)=i.ftys)&&l.all λ x=> !decide (x.2=0)&&decide (x.1+x.2<=i.cells.length)
   |none=>false)
 | .int k=> !i.ag&&decide (i.elem=none)&&Sh.Ia i.cells [.int k]
 | .bool=> !i.ag&&decide (i.elem=none)&&Sh.Ia i.cells [.bool]
 | .string=> !i.ag&&decide (i.elem=none)&&Sh.Ia i.cells [.str]
 | .map kt et=> !i.ag&&decide (i.elem=none)&&decide (i.ftys= [kt,et])&&(match i.cells,ty kt,ty et with
   | [.mp k e],some j,some l=>k.scalar&&e.scalar&& !j.ag&& !l.ag&&Sh.Ia j.cells [k]&&Sh.Ia l.cells [e]
   |_,_,_=>false)
 |_=>false
def afz (P:Program) (ty:TypeId->Option TyI) (t:TypeId) (i:TyI):Bool:=
 match P.info? t,P.underlying t with
 |some info,some d=>match info.zero with
  |some z=>(isAgg z==i.ag)&&xw i.cells z.cells.toList&&decide (info.size=i.cells.length)&&(decide (info.bytes<=128)||Nat.blt 8 i.cells.length)&&o8 P ty i d
  |none=>false
 |_,_=>false
def wE (P:Program) (ty:TypeId->Option TyI):Prop:= ∀t i,ty t=some i->afz P ty t i=true
theorem jy: ∀{a b:List Sh},Sh.Ia a b=true->a=b
 | [],[],_=>rfl
 | [],_::_,h=>by simp[Sh.Ia]at h
 |_::_,[],h=>by simp[Sh.Ia]at h
 |s::ss,t::ts,h=>by
  simp only[Sh.Ia,aad]at h;rw[Sh.eq_of_beq h.1,jy h.2]
structure GZ (P:Program) (ty:TypeId->Option TyI) (t:TypeId) (i:TyI) (info:TypeInfo) (d:TypeDesc) (z:Value):Prop where
 inf:P.info? t=some info
 und:P.underlying t=some d
 zero:info.zero=some z
 agg:isAgg z=i.ag
 cells:z.cells.toList=i.cells.map zeroV
 size:info.size=i.cells.length
 bytes:i.cells.length<=8->info.bytes<=128
 desc:o8 P ty i d=true
 noDl:(i.cells.all λ s=> !s.acW)=true
theorem wE.at_ {P:Program} {ty:TypeId->Option TyI} (h:wE P ty) {t:TypeId} {i:TyI} (hi:ty t=some i): ∃info d z,GZ P ty t i info d z:=by
 have:=h t i hi;unfold afz at this;split at this
 ·rename_i info d h1 h2;split at this
  ·rename_i z hz;simp only[aad,beq_iff_eq,decide_eq_true_eq]at this;obtain⟨⟨⟨⟨k1,k2⟩,k3⟩,k4⟩,k5⟩:=this
   have k4:i.cells.length<=8->info.bytes<=128:=λ hl=>by
    simp only[abO,decide_eq_true_eq]at k4;rcases k4 with k4|k4
    ·exact k4
    ·have:=(Nat.blt_eq ..).mp k4;omega
   exact⟨info,d,z,h1,h2,hz,k1,Vp k2,k3,k4,k5,SN k2⟩
  ·cases this
 ·cases this
section
variable {P:Program} {ty:TypeId->Option TyI} {t:TypeId} {i:TyI} {info:TypeInfo} {d:TypeDesc} {z:Value}
theorem GZ.isRow (h:GZ P ty t i info d z):d.isRow=i.ag:=by
 have:=h.desc;unfold o8 at this;split at this<;>simp_all [TypeDesc.isRow]
theorem GZ.one (h:GZ P ty t i info d z) (ha:i.ag=false): ∃sh,i.cells= [sh]:=by
 have:=h.desc;unfold o8 at this;split at this
 ·simp only[aad]at this;obtain⟨_,h2⟩:=this;split at h2
  ·exact⟨_,by assumption⟩
  ·cases h2
 ·simp[ha]at this
 ·simp only[aad]at this;exact⟨_,jy this.2⟩
 ·simp only[aad]at this;exact⟨_,jy this.2⟩
 ·simp only[aad]at this;exact⟨_,jy this.2⟩
 ·simp only[aad]at this;obtain⟨_,h2⟩:=this;split at h2
  ·rename_i hcm _ _;exact⟨_,hcm⟩
  ·cases h2
 ·cases this
theorem GZ.slice (h:GZ P ty t i info d z) {sh:Sh} (hc:i.cells= [sh]) (hs:sh.pF=true) (ha:i.ag=false): ∃e j,d= .slice e/\i.elem=some e/\ty e=some j/\j.cells=vX sh:=by
 have:=h.desc;unfold o8 at this;split at this
 ·rename_i e;simp only[aad,decide_eq_true_eq]at this;obtain⟨⟨_,h1⟩,h2⟩:=this;rw[hc]at h2;simp only[aad]at h2;obtain⟨_,h3⟩:=h2;split at h3
  ·rename_i j hj;exact⟨e,j,rfl,h1,hj,jy (by simp only[aad]at h3;exact h3.1)⟩
  ·cases h3
 ·simp[ha]at this
 ·simp only[aad]at this;have:=jy this.2;rw[hc]at this;cases this;cases hs
 ·simp only[aad]at this;have:=jy this.2;rw[hc]at this;cases this;cases hs
 ·simp only[aad]at this;have:=jy this.2;rw[hc]at this;cases this;cases hs
 ·simp only[aad]at this;obtain⟨_,h2⟩:=this;split at h2
  ·rename_i hcm _ _;rw[hc]at hcm;cases hcm;cases hs
  ·cases h2
 ·cases this
theorem GZ.elem (h:GZ P ty t i info d z) {e:TypeId} (he:i.elem=some e): ∃sh j,d= .slice e/\i.ag=false/\i.cells= [sh]/\sh.oW=true/\ty e=some j/\j.cells=vX sh:=by
 have:=h.desc;unfold o8 at this;split at this
 ·rename_i e';simp only[aad,decide_eq_true_eq]at this;obtain⟨⟨h0,h1⟩,h2⟩:=this;rw[he]at h1;cases h1;split at h2
  ·rename_i sh hc;simp only[aad]at h2;obtain⟨h3,h4⟩:=h2;split at h4
   ·rename_i j hj;exact⟨sh,j,rfl,by simpa using h0,hc,h3,hj,jy (by simp only[aad]at h4;exact h4.1)⟩
   ·cases h4
  ·cases h2
 all_goals first|cases this|simp_all
theorem GZ.aiI (h:GZ P ty t i info d z) {e:TypeId} {j:TyI} (he:i.elem=some e) (hj:ty e=some j):(j.cells.all λ s=> !s.Ie)=true:=by
 have:=h.desc;unfold o8 at this;split at this
 ·rename_i e';simp only[aad,decide_eq_true_eq]at this;obtain⟨⟨h0,h1⟩,h2⟩:=this;rw[he]at h1;cases h1;split at h2
  ·rw[hj]at h2;simp only[aad]at h2;exact h2.2.2.1
  ·cases h2
 all_goals simp_all
theorem GZ.short (h:GZ P ty t i info d z) {e:TypeId} {j:TyI} (he:i.elem=some e) (hj:ty e=some j):j.cells.length<=8:=by
 have:=h.desc;unfold o8 at this;split at this
 ·rename_i e';simp only[aad,decide_eq_true_eq]at this;obtain⟨⟨h0,h1⟩,h2⟩:=this;rw[he]at h1;cases h1;split at h2
  ·rw[hj]at h2;simp only[aad]at h2;exact aa6 h2.2.2.2
  ·cases h2
 all_goals simp_all
theorem GZ.mp (h:GZ P ty t i info d z) {k e:Sh} (hc:i.cells= [.mp k e]) (ha:i.ag=false): ∃kt et j l,d= .map kt et/\ty kt=some j/\ty et=some l/\k.scalar=true/\e.scalar=true/\j.ag=false/\l.ag=false/\j.cells= [k]/\l.cells= [e]:=by
 have:=h.desc;unfold o8 at this;split at this
 case h_6 kt et=>
  simp only[aad,decide_eq_true_eq]at this;obtain⟨_,h2⟩:=this;split at h2
  ·rename_i k' e' j l hcm hj hl;rw[hc]at hcm;cases hcm;simp only[aad,abj]at h2;obtain⟨⟨⟨⟨⟨h3,h4⟩,h5⟩,h6⟩,h7⟩,h8⟩:=h2;exact⟨kt,et,j,l,rfl,hj,hl,h3,h4,h5,h6,jy h7,jy h8⟩
  ·cases h2
 case h_1=>
  simp only[aad]at this;obtain⟨_,h2⟩:=this;rw[hc]at h2;simp[Sh.oW]at h2
 case h_2=>simp[ha]at this
 case h_7=>cases this
 all_goals (simp only[aad]at this;have:=jy this.2;rw[hc]at this;cases this)
theorem GZ.int (h:GZ P ty t i info d z) {k:IntKind} (hc:i.cells= [.int k]) (ha:i.ag=false):d= .int k:=by
 have:=h.desc;unfold o8 at this;split at this
 ·simp only[aad]at this;obtain⟨_,h2⟩:=this;rw[hc]at h2;simp[Sh.oW]at h2
 ·simp[ha]at this
 ·simp only[aad]at this;have:=jy this.2;rw[hc]at this;cases this;rfl
 ·simp only[aad]at this;have:=jy this.2;rw[hc]at this;cases this
 ·simp only[aad]at this;have:=jy this.2;rw[hc]at this;cases this
 ·simp only[aad]at this;obtain⟨_,h2⟩:=this;split at h2
  ·rename_i hcm _ _;rw[hc]at hcm;cases hcm
  ·cases h2
 ·cases this
theorem GZ.bool (h:GZ P ty t i info d z) (hc:i.cells= [.bool]) (ha:i.ag=false):d= .bool:=by
 have:=h.desc;unfold o8 at this;split at this
 ·simp only[aad]at this;obtain⟨_,h2⟩:=this;rw[hc]at h2;simp[Sh.oW]at h2
 ·simp[ha]at this
 ·simp only[aad]at this;have:=jy this.2;rw[hc]at this;cases this
 ·rfl
 ·simp only[aad]at this;have:=jy this.2;rw[hc]at this;cases this
 ·simp only[aad]at this;obtain⟨_,h2⟩:=this;split at h2
  ·rename_i hcm _ _;rw[hc]at hcm;cases hcm
  ·cases h2
 ·cases this
theorem GZ.str (h:GZ P ty t i info d z) (hc:i.cells= [.str]) (ha:i.ag=false):d= .string:=by
 have:=h.desc;unfold o8 at this;split at this
 ·simp only[aad]at this;obtain⟨_,h2⟩:=this;rw[hc]at h2;simp[Sh.oW]at h2
 ·simp[ha]at this
 ·simp only[aad]at this;have:=jy this.2;rw[hc]at this;cases this
 ·simp only[aad]at this;have:=jy this.2;rw[hc]at this;cases this
 ·rfl
 ·simp only[aad]at this;obtain⟨_,h2⟩:=this;split at h2
  ·rename_i hcm _ _;rw[hc]at hcm;cases hcm
  ·cases h2
 ·cases this
theorem GZ.struct (h:GZ P ty t i info d z) (ha:i.ag=true): ∃fs,d= .struct fs/\places P fs.toList=some i.fields/\fs.toList.map (·.type)=i.ftys/\ ∀x,x∈i.fields->x.2≠0/\x.1+x.2<=i.cells.length:=by
 have:=h.desc;unfold o8 at this;split at this
 ·simp[ha]at this
 ·rename_i fs;simp only[aad]at this;obtain⟨_,h2⟩:=this;split at h2
  ·rename_i l hl;simp only[aad,decide_eq_true_eq]at h2;obtain⟨⟨rfl,h4⟩,h3⟩:=h2;refine⟨fs,rfl,hl,h4,λ x hx=> ?_⟩;have:=aaV.1 h3 x hx;simpa using this
  ·cases h2
 all_goals first|cases this|simp_all
end
end Go.AM
end
section
namespace Go.AM
open Go
section
variable {P:Program} {E:Env} {C:Ctx} {s s':St} {a a':Act} {w w':World} {g g':Gh} {o:Oper} {Q:Exit->Act->World->Prop}
def T.BH:T->Bool
 | .val _ cs=>bD cs
 | .tup ts=>ts.all λ x=>bD x.2
 | .nilc=>false
 | .ext _ _ _=>false
 |_=>true
theorem lI.uq (k:Keeps w w' g.F g'.F) {mk mk':Nat->aH}: ∀(ts:List (Bool×List CV)) (i j:Nat) (vs:List Value),(ts.all λ x=>bD x.2)=true->lI w g mk i ts vs->lI w' g' mk' j ts vs
 | [],_,_,_,_,h=>h
 |(ag,cs)::ts,i,j,_,hp,⟨v,ws,e,⟨h1,h2⟩,h⟩=>by
  simp only[acA,aad]at hp;exact⟨v,ws,e,⟨h1,aF.uq k cs i j _ hp.1 h2⟩,lI.uq k ts _ _ ws hp.2 h⟩
theorem TV0.copy {mk mk':Nat->aH} {t:T} {v:Value} (hc:t.BH=true) (h:TV0 s a w g mk t v):TV0 s a w g mk' t v:=by
 cases t with
 |val ag cs=>exact⟨h.1,aF.uq (Keeps.refl _ _) cs 0 0 _ hc h.2⟩
 |tup ts=>obtain⟨vs,e,h⟩:=h;exact⟨vs,e,lI.uq (Keeps.refl _ _) ts 0 0 vs hc h⟩
 |paddr cs off=>obtain⟨ad,vs,e,h1,h2,h3⟩:=h;exact⟨ad,vs,e,h1,h2,aF.uq (Keeps.refl _ _) cs 0 0 vs h2 h3⟩
 |nilc=>exact h
 |dead=>exact h
 |undef=>exact h
 |ref p ag m=>exact h
 |rsub p z lo hi=>exact h
 |addr p=>exact h
 |rowr p ag m=>exact h
 |addr2 p k q=>exact h
 |fn f=>exact h
 |clo f ts=>exact h
 |ext p q c=>cases hc
theorem nN.copy {mk mk':Nat->aH}: ∀(ts:List T) (vs:List Value),nN s a w g mk ts vs->nN s a w g mk' ts vs
 | [],_,h=>h
 |t::ts,_,⟨v,ws,e,h0,h1,h⟩=>⟨v,ws,e,h0,h1.copy (by cases t<;>first|rfl|exact h0.elim),nN.copy ts ws h⟩
theorem TV.copy {mk mk':Nat->aH} {t:T} {v:Value} (hc:t.BH=true) (h:TV s a w g mk t v):TV s a w g mk' t v:=by
 cases t with
 |clo f ts=>obtain⟨vs,e,h⟩:=h;exact⟨vs,e,h.copy⟩
 |dead=>exact h
 |undef=>exact h
 |nilc=>exact h
 |val ag cs=>exact TV0.copy (s:=s) (a:=a) (t:= .val ag cs) hc h
 |ref p ag m=>exact h
 |rsub p z lo hi=>exact h
 |addr p=>exact h
 |rowr p ag m=>exact h
 |addr2 p k q=>exact h
 |paddr cs off=>exact TV0.copy (s:=s) (a:=a) (t:= .paddr cs off) hc h
 |tup ts=>exact TV0.copy (s:=s) (a:=a) (t:= .tup ts) hc h
 |fn f=>exact h
 |ext p q c=>cases hc
theorem Rel.O8 (h:Rel E C s a w g) {d:Nat} (hd:DOk E d) {t:T} {v:Value} {mk:Nat->aH} (hc:t.BH=true) (ht:TV s a w g mk t v):
 Rel E C (s.dM [.tm d t]) (a.put (some d) v) w g:=by
 refine h.U4 hd (Fr.refl _ _ _) h.base rfl ?_;exact TV.copy hc (TV.step (K:=λ _=>True) (Fr.refl _ _ _) (λ i=>trivial) (h.OY d t v (Fr.refl _ _ _) rfl) (TV.copy (mk':= .hand) hc ht))
theorem bK (h:Rel E C s a w g) {d:Nat} (hdst:o.dst=some d) (hd:DOk E d) {t:T} {v:Value} {mk:Nat->aH} (hr:(execOp a.eval o).run P w= .ok (.value v) w)
 (hc:t.BH=true) (ht:TV s a w g mk t v):o.wp P a w (λ a' w'=> ∃g',Rel E C (s.dM [.tm d t]) a' w' g') Q:=by
 unfold Oper.wp;rw[hr,Oper.upon_value,hdst];exact⟨g,h.O8 hd hc ht⟩
theorem oH (k:IntKind) (n:Int):TV s a w g .hand (L6 k n) (.int k n):=zh w g .hand rfl rfl rfl rfl
theorem sV (b:Bool):TV s a w g .hand (Xu b) (.bool b):=zh w g .hand rfl rfl rfl rfl
theorem ZC (b:ByteArray):TV s a w g .hand (aiu b) (.string b):=zh w g .hand rfl rfl rfl rfl
theorem BZ.one {mk:Nat->aH} {c:CV} {v:Value} {ag:Bool} (h:BZ w g mk 0 ag [c] v): ∃u,v.cells.toList= [u]/\jE w g (mk 0) c u/\(ag=false->u=v):=by
 obtain⟨h1,u,ws,e,h2,h3⟩:=h;simp only[aF]at h3;subst h3;refine⟨u,e,h2,λ ha=> ?_⟩;rw[ha]at h1;rw[aJ h1]at e;simpa using e.symm
theorem Rel.xI (h:Rel E C s a w g) {d:Nat} (hd:DOk E d) {ag:Bool} {cs:List CV} {v:Value} (ha:isAgg v=ag) (hh:aF w g .hand 0 cs v.cells.toList):
 ∃g',Rel E C (s.dM [.tm d (.val ag cs)]) (a.put (some d) v) w g'/\g'.at_=g.at_/\Keeps w w g.F g'.F:=by
 let ρ:aH->aH:=λ o=>match o with| .hand i=> .tm d i|o=>o
 refine⟨g.ren ρ,h.U4 hd (Fr.ren w g λ o ho=> ?_) (h.base.ren ρ) rfl ⟨ha,?_⟩,rfl,Keeps.refl _ _⟩
 ·simp only[ρ];cases o<;>simp_all
 ·exact aF.ren cs 0 0 _ (λ k _=>by simp[ρ]) hh
theorem dS (s:St) (us vs:List Upd):s.dM (us++vs)=(s.dM us).dM vs:=by simp[St.dM,List.foldl_append]
theorem Xo (h:Rel E C s a w g) {d:Nat} (hdst:o.dst=some d) (hd:DOk E d) {x:Operand} {exp:List Sh} {ag:Bool} {cs:List CV} {us:List Upd}
 (ht:(BA E s x exp).run=some (ag,cs,us)) (hr:(execOp a.eval o).run P w= .ok (.value (a.eval x)) w):
 o.wp P a w (λ a' w'=> ∃g',Rel E C (s.dM (us++[.tm d (.val ag cs)])) a' w' g') Q:=by
 obtain⟨g1,r1,k1,k2,_,_⟩:=DZ h (hs:=[]) (hv:=[]) rfl ht;obtain⟨g2,r2,_,_⟩:=r1.xI hd k1 (by simpa using k2);unfold Oper.wp;rw[hr,Oper.upon_value,hdst,dS];exact⟨g2,r2⟩
theorem aN {x:Operand} {t:T} (h:Rel E C s a w g) (hx:at_ E s x=t) (hn:t≠ .nilc):TV s a w g (VF x) t (a.eval x):=by
 rcases h.at_ x with⟨e,_⟩|h
 ·rw[hx]at e;exact absurd e hn
 ·rw[hx]at h;exact h
theorem sG (h:Rel E C s a w g) {x:Operand} {k:IntKind} {n:Int} (hx:qU E s x=some (k,n)):at_ E s x= .val false [⟨.int k,.pure,n⟩]/\a.eval x= .int k n:=by
 unfold qU at hx;split at hx
 ·rename_i k' n' heq;cases hx;have:=aN h heq (by simp);obtain⟨u,e,hr,hu⟩:=BZ.one this;exact⟨heq,by rw[←hu rfl];exact hr⟩
 ·cases hx
theorem JK (h:Rel E C s a w g) {x:Operand} {b:Bool} (hx:uT E s x=some b):a.eval x= .bool b:=by
 unfold uT at hx;split at hx
 ·rename_i b' heq;cases hx;have:=aN h heq (by simp);obtain⟨u,e,hr,hu⟩:=BZ.one this;rw[←hu rfl];exact hr
 ·cases hx
end
end Go.AM
end
