import Derived.Calls
import Derived.Laws.Entries
import Derived.Laws.AppendOwn
import Derived.Deep.MidRow
import Derived.Great.BuildSlice
set_option linter.unusedVariables false
theorem aac:type_of% @List.getElem?_eq_getElem:=@List.getElem?_eq_getElem
theorem aad:type_of% @List.getElem?_eq_some_iff:=@List.getElem?_eq_some_iff
theorem aae:type_of% @Bool.and_eq_true:=@Bool.and_eq_true
theorem aaf:type_of% @List.getElem_mem:=@List.getElem_mem
theorem aag:type_of% @Option.some.injEq:=@Option.some.injEq
theorem aah:type_of% @List.mem_singleton:=@List.mem_singleton
theorem aai:type_of% @List.getElem?_eq_none:=@List.getElem?_eq_none
theorem aaj:type_of% @List.mem_of_getElem?:=@List.mem_of_getElem?
theorem aak:type_of% @Option.some.inj:=@Option.some.inj
theorem aal:type_of% @Int.toNat_natCast:=@Int.toNat_natCast
theorem aam:type_of% @List.getElem?_take:=@List.getElem?_take
theorem aan:type_of% @Option.bind_some:=@Option.bind_some
theorem aao:type_of% @Nat.eq_of_beq_eq_true:=@Nat.eq_of_beq_eq_true
theorem aap:type_of% @List.mem_append:=@List.mem_append
theorem aaq:type_of% @List.length_append:=@List.length_append
theorem aar:type_of% @List.getElem?_drop:=@List.getElem?_drop
theorem aas:type_of% @List.getElem?_map:=@List.getElem?_map
theorem aat:type_of% @List.take_length:=@List.take_length
theorem aau:type_of% @List.take_add_one:=@List.take_add_one
theorem aav:type_of% @Nat.le_refl:=@Nat.le_refl
theorem aaw:type_of% @List.getElem?_append_left:=@List.getElem?_append_left
theorem aax:type_of% @List.eq_nil_of_length_eq_zero:=@List.eq_nil_of_length_eq_zero
theorem aay:type_of% @Prod.mk.injEq:=@Prod.mk.injEq
theorem aaz:type_of% @List.getElem_of_mem:=@List.getElem_of_mem
theorem aaA:type_of% @Nat.mul_le_mul_right:=@Nat.mul_le_mul_right
theorem aaB:type_of% @List.mem_map:=@List.mem_map
theorem aaC:type_of% @List.getElem?_append_right:=@List.getElem?_append_right
theorem aaD:type_of% @List.append_assoc:=@List.append_assoc
theorem aaE:type_of% @List.length_take:=@List.length_take
theorem aaF:type_of% @Nat.lt_or_ge:=@Nat.lt_or_ge
theorem aaG:type_of% @List.mem_append_left:=@List.mem_append_left
theorem aaH:type_of% @List.length_map:=@List.length_map
theorem aaI:type_of% @List.drop_eq_getElem_cons:=@List.drop_eq_getElem_cons
theorem aaJ:type_of% @List.take_of_length_le:=@List.take_of_length_le
theorem aaK:type_of% @Option.map_eq_some_iff:=@Option.map_eq_some_iff
theorem aaL:type_of% @Option.map_some:=@Option.map_some
theorem aaM:type_of% @List.append_nil:=@List.append_nil
theorem aaN:type_of% @List.getElem?_cons_zero:=@List.getElem?_cons_zero
theorem aaO:type_of% @List.mem_cons_of_mem:=@List.mem_cons_of_mem
theorem aaP:type_of% @Classical.byContradiction:=@Classical.byContradiction
theorem aaQ:type_of% @List.mem_cons:=@List.mem_cons
theorem aaR:type_of% @List.pairwise_iff_getElem:=@List.pairwise_iff_getElem
theorem aaS:type_of% @Option.toList_some:=@Option.toList_some
theorem aaT:type_of% @List.ext_getElem?:=@List.ext_getElem?
theorem aaU:type_of% @List.getElem?_set:=@List.getElem?_set
theorem aaV:type_of% @List.all_eq_true:=@List.all_eq_true
theorem aaW:type_of% @Array.getElem?_toList:=@Array.getElem?_toList
theorem aaX:type_of% @Nat.le_trans:=@Nat.le_trans
theorem aaY:type_of% @List.length_singleton:=@List.length_singleton
theorem aaZ:type_of% @Nat.add_zero:=@Nat.add_zero
theorem aa0:type_of% @Nat.zero_add:=@Nat.zero_add
theorem aa1:type_of% @Nat.lt_or_eq_of_le:=@Nat.lt_or_eq_of_le
theorem aa2:type_of% @List.drop_of_length_le:=@List.drop_of_length_le
theorem aa3:type_of% @List.getElem?_set_ne:=@List.getElem?_set_ne
theorem aa4:type_of% @Option.bind_eq_some_iff:=@Option.bind_eq_some_iff
theorem aa5:type_of% @List.length_set:=@List.length_set
theorem aa6:type_of% @List.mem_append_right:=@List.mem_append_right
theorem aa7:type_of% @Array.getElem?_eq_getElem:=@Array.getElem?_eq_getElem
theorem aa8:type_of% @Array.length_toList:=@Array.length_toList
theorem aa9:type_of% @List.getElem?_set_self:=@List.getElem?_set_self
theorem abb:type_of% @Bool.false_eq_true:=@Bool.false_eq_true
theorem abd:type_of% @List.getD_eq_getElem?_getD:=@List.getD_eq_getElem?_getD
theorem abe:type_of% @List.length_drop:=@List.length_drop
theorem abf:type_of% @Nat.le_of_lt_succ:=@Nat.le_of_lt_succ
theorem abg:type_of% @Array.getD_eq_getD_getElem?:=@Array.getD_eq_getD_getElem?
theorem abh:type_of% @List.cons.injEq:=@List.cons.injEq
theorem abj:type_of% @List.take_append_drop:=@List.take_append_drop
theorem abk:type_of% @Nat.le_of_ble_eq_true:=@Nat.le_of_ble_eq_true
theorem abl:type_of% @List.length_cons:=@List.length_cons
theorem abm:type_of% @List.map_cons:=@List.map_cons
theorem abn:type_of% @Nat.lt_of_lt_of_le:=@Nat.lt_of_lt_of_le
theorem abo:type_of% @List.flatMap_cons:=@List.flatMap_cons
theorem abp:type_of% @List.getElem?_replicate:=@List.getElem?_replicate
theorem abq:type_of% @List.mem_of_mem_take:=@List.mem_of_mem_take
theorem abr:type_of% @List.map_append:=@List.map_append
theorem abt:type_of% @Bool.not_true:=@Bool.not_true
theorem abu:type_of% @Array.toList_inj:=@Array.toList_inj
theorem abv:type_of% @List.mem_or_eq_of_mem_set:=@List.mem_or_eq_of_mem_set
theorem abw:type_of% @Bool.not_eq_true':=@Bool.not_eq_true'
theorem abx:type_of% @Nat.succ_mul:=@Nat.succ_mul
theorem aby:type_of% @Option.getD_some:=@Option.getD_some
theorem abz:type_of% @Array.getElem?_eq_some_iff:=@Array.getElem?_eq_some_iff
theorem abA:type_of% @List.drop_zero:=@List.drop_zero
theorem abB:type_of% @List.length_replicate:=@List.length_replicate
theorem abC:type_of% @List.append_eq:=@List.append_eq
theorem abD:type_of% @List.mem_of_mem_drop:=@List.mem_of_mem_drop
theorem abE:type_of% @List.take_append_of_le_length:=@List.take_append_of_le_length
theorem abG:type_of% @List.mem_cons_self:=@List.mem_cons_self
theorem abH:type_of% @Nat.zero_le:=@Nat.zero_le
theorem abI:type_of% @Int.toNat_of_nonneg:=@Int.toNat_of_nonneg
theorem abJ:type_of% @List.cons.inj:=@List.cons.inj
theorem abK:type_of% @Nat.add_assoc:=@Nat.add_assoc
theorem abL:type_of% @List.take_left:=@List.take_left
theorem abM:type_of% @List.map_map:=@List.map_map
theorem abN:type_of% @Nat.pow_le_pow_right:=@Nat.pow_le_pow_right
theorem abO:type_of% @Nat.add_mul:=@Nat.add_mul
theorem abP:type_of% @Nat.min_eq_left:=@Nat.min_eq_left
theorem abQ:type_of% @List.drop_left:=@List.drop_left
theorem abR:type_of% @List.pairwise_singleton:=@List.pairwise_singleton
theorem abS:type_of% @Int.lt_or_eq_of_le:=@Int.lt_or_eq_of_le
theorem abT:type_of% @List.nil_append:=@List.nil_append
theorem abU:type_of% @Prod.ext:=@Prod.ext
theorem abV:type_of% @List.getElem_take:=@List.getElem_take
theorem abW:type_of% @Nat.mul_comm:=@Nat.mul_comm
theorem abX:type_of% @Bool.or_eq_true:=@Bool.or_eq_true
theorem abY:type_of% @Nat.mul_one:=@Nat.mul_one
theorem abZ:type_of% @List.pairwise_append:=@List.pairwise_append
theorem ab1:type_of% @Nat.pow_le_pow_left:=@Nat.pow_le_pow_left
theorem ab2:type_of% @List.mem_range:=@List.mem_range
theorem ab3:type_of% @List.take_take:=@List.take_take
theorem ab4:type_of% @List.getElem?_take_of_lt:=@List.getElem?_take_of_lt
theorem ab5:type_of% @List.pairwise_cons:=@List.pairwise_cons
theorem ab6:type_of% @Nat.eq_zero_or_pos:=@Nat.eq_zero_or_pos
theorem ab7:type_of% @Bool.not_eq_true:=@Bool.not_eq_true
theorem ab8:type_of% @List.any_eq_true:=@List.any_eq_true
theorem ab9:type_of% @List.not_mem_nil:=@List.not_mem_nil
theorem acd:type_of% @Iff.rfl:=@Iff.rfl
theorem ace:type_of% @List.flatten_cons:=@List.flatten_cons
theorem acf:type_of% @List.size_toArray:=@List.size_toArray
theorem acg:type_of% @Nat.lt_trichotomy:=@Nat.lt_trichotomy
theorem ach:type_of% @List.getElem?_range:=@List.getElem?_range
theorem aci:type_of% @List.length_nil:=@List.length_nil
theorem acj:type_of% @List.map_congr_left:=@List.map_congr_left
theorem acn:type_of% @Array.getElem?_eq_none:=@Array.getElem?_eq_none
theorem aco:type_of% @Int.tdiv_eq_ediv_of_nonneg:=@Int.tdiv_eq_ediv_of_nonneg
theorem acp:type_of% @List.mem_flatMap:=@List.mem_flatMap
theorem acr:type_of% @Bool.and_true:=@Bool.and_true
theorem acs:type_of% @Int.lt_or_le:=@Int.lt_or_le
theorem acu:type_of% @List.countP_le_length:=@List.countP_le_length
theorem acv:type_of% @List.map_drop:=@List.map_drop
theorem acw:type_of% @List.map_take:=@List.map_take
theorem acy:type_of% @List.getElem?_zip_eq_some:=@List.getElem?_zip_eq_some
theorem acz:type_of% @List.take_zero:=@List.take_zero
theorem acA:type_of% @Option.filter_eq_some_iff:=@Option.filter_eq_some_iff
theorem acB:type_of% @Array.size_replicate:=@Array.size_replicate
theorem acC:type_of% @List.foldl_cons:=@List.foldl_cons
theorem acD:type_of% @List.nodup_append:=@List.nodup_append
theorem acE:type_of% @Option.isSome_iff_exists:=@Option.isSome_iff_exists
theorem acF:type_of% @Nat.beq_refl:=@Nat.beq_refl
theorem acG:type_of% @Nat.le_of_eq:=@Nat.le_of_eq
theorem acH:type_of% @Nat.sub_self:=@Nat.sub_self
theorem acI:type_of% @List.ext_getElem:=@List.ext_getElem
theorem acJ:type_of% @Nat.div_eq_of_lt:=@Nat.div_eq_of_lt
theorem acK:type_of% @Bool.false_ne_true:=@Bool.false_ne_true
theorem acL:type_of% @List.mem_replicate:=@List.mem_replicate
theorem acM:type_of% @List.all_append:=@List.all_append
theorem acN:type_of% @List.map_nil:=@List.map_nil
theorem acO:type_of% @Bool.true_and:=@Bool.true_and
theorem acP:type_of% @List.all_cons:=@List.all_cons
theorem acQ:type_of% @List.pairwise_map:=@List.pairwise_map
theorem acR:type_of% @Bool.not_false:=@Bool.not_false
theorem acS:type_of% @List.foldl_nil:=@List.foldl_nil
theorem acT:type_of% @List.drop_length:=@List.drop_length
theorem acU:type_of% @List.map_toArray:=@List.map_toArray
theorem acV:type_of% @List.take_append:=@List.take_append
theorem acW:type_of% @Int.le_refl:=@Int.le_refl
theorem acX:type_of% @Nat.add_comm:=@Nat.add_comm
theorem acY:type_of% @Nat.pow_succ:=@Nat.pow_succ
section
namespace Go.AM
inductive Sh where
 |int (k:IntKind)|bool|str|sl (es:List Sh)|rsl (ss:List Sh)|dl (es:List Sh)|mp (k e:Sh)
inductive RT (α:Type) where
 |mk (a:α) (kids:List (RT α))
def RT.a {α:Type}:RT α->α| .mk a _=>a
def RT.kids {α:Type}:RT α->List (RT α)| .mk _ d=>d
mutual
def El:Sh->Type
 | .int _=>Int
 | .bool=>Bool
 | .str=>ByteArray
 | .sl es=>List (ElA es)
 | .rsl ss=>List (RT (ElA ss))
 | .dl es=>List (Option (ElA es))
 | .mp k e=>Option (List (El k×El e))
def ElA:List Sh->Type
 | []=>Unit
 |s::ss=>match ss with
  | []=>El s
  |_::_=>El s×ElA ss
end
mutual
def Sh.beq:Sh->Sh->Bool
 | .int k,.int f=>decide (k=f)
 | .bool,.bool=>true
 | .str,.str=>true
 | .sl es,.sl d=>aX es d
 | .rsl es,.rsl d=>aX es d
 | .dl es,.dl d=>aX es d
 | .mp k e,.mp f g=>Sh.beq k f&&Sh.beq e g
 |_,_=>false
def aX:List Sh->List Sh->Bool
 | [],[]=>true
 |s::ss,t::ts=>Sh.beq s t&&aX ss ts
 |_,_=>false
end
theorem aY7: ∀{a b:Sh},Sh.beq a b=true->a=b:=by
 intro a
 induction a using Sh.rec (motive_2:=λ l=> ∀g,aX l g=true->l=g)with
 |int k=>intro b;cases b<;>simp[Sh.beq]
 |bool=>intro b;cases b<;>simp[Sh.beq]
 |str=>intro b;cases b<;>simp[Sh.beq]
 |sl es i=>intro b;cases b<;>simp[Sh.beq];exact λ h=>i _ h
 |rsl es i=>intro b;cases b<;>simp[Sh.beq];exact λ h=>i _ h
 |dl es i=>intro b;cases b<;>simp[Sh.beq];exact λ h=>i _ h
 |mp k e d f=>intro b;cases b<;>simp[Sh.beq];exact λ h m=>⟨d h,f m⟩
 |nil=>rename_i g h;cases g<;>simp[aX]at h ⊢
 |cons s ss d f=>rename_i g h;cases g<;>simp[aX]at h ⊢;exact⟨d h.1,f _ h.2⟩
inductive Tg where
 |pure|own|tip|dead
def Tg.le:Tg->Tg->Bool
 | .dead,_=>true
 | .pure,b=>match b with| .dead=>false|_=>true
 | .tip,b=>match b with| .tip=>true| .own=>true|_=>false
 | .own,b=>match b with| .own=>true|_=>false
def Sh.top:Sh->Tg
 | .sl _=> .own
 | .rsl _=> .own
 | .dl _=> .own
 | .mp _ _=> .own
 |_=> .pure
def Tg.isPure:Tg->Bool| .pure=>true|_=>false
def Tg.GK:Tg->Bool| .own=>true|_=>false
def Sh.qO:Sh->Bool
 | .sl _=>true
 | .rsl _=>true
 | .dl _=>true
 |_=>false
def Sh.qH:Sh->Bool
 | .sl _=>true
 | .rsl _=>true
 |_=>false
def Sh.base:Sh->Sh
 | .dl es=> .sl es
 |s=>s
def aX5:Sh->Sh
 | .sl es=>bif es.any Sh.qO then .dl es else .sl es
 |s=>s
def Sh.adR:Sh->Bool
 | .dl _=>true
 |_=>false
def Sh.JR:Sh->Bool
 | .mp _ _=>true
 |_=>false
def Sh.adn:Sh->Tg->Bool
 | .dl _,.own=>true
 | .dl _,.dead=>true
 | .dl _,_=>false
 | .mp _ _,.own=>true
 | .mp _ _,.dead=>true
 | .mp _ _,_=>false
 |_,_=>true
def rowAt? {α:Type} (l:List (Option α)) (i:Nat):Option α:=(l[i]?).join
def oN {α:Type}:List (Option α)->Option (List α)
 | []=>some []
 |none::_=>none
 |some x::l=>(oN l).map (x:: ·)
structure CV where
 sh:Sh
 tg:Tg
 x:El sh
abbrev LC:Type:=List CV
abbrev LV:Type:=List Value
def CV.isPure (c:CV):Bool:=c.tg.isPure
def CV.kill (c:CV):CV:=⟨c.sh,.dead,c.x⟩
def CV.to (c:CV) (t:Tg):CV:=⟨c.sh,t,c.x⟩
def CV.left (c:CV):CV:=bif c.isPure then c else c.kill
def jY (c:CV) (s:Sh):Option (El s):=
 if h:Sh.beq c.sh s=true then some (cast (congrArg El (aY7 h)) c.x)else none
def cellsOf:(es:List Sh)->ElA es->LC
 | [],_=>[]
 | [s],x=>[⟨s,.pure,x⟩]
 |s::t::ss,x=>⟨s,.pure,x.1⟩::cellsOf (t::ss) x.2
def nR (es:List Sh) (x:ElA es):LC:=(cellsOf es x).map λ c=>c.to c.sh.top
def iq:(es:List Sh)->LC->Option (ElA es)
 | [],cs=>match cs with| []=>some ()|_=>none
 | [s],cs=>match cs with
   | [c]=>jY c s
   |_=>none
 |s::t::ss,cs=>match cs with
  |c::cs=>match jY c s,iq (t::ss) cs with
   |some y,some z=>some (y,z)
   |_,_=>none
  | []=>none
def EX (cs:LC):Bool:=cs.all λ c=>match c.tg with| .dead=>false|_=>true
def EP (cs:LC):Bool:=cs.all λ c=>(match c.tg with| .dead=>false|_=>true)&& !c.sh.adR&& !c.sh.JR
def tV (ss:List Sh) (t:RT (ElA ss)):LC:=cellsOf ss t.a++[⟨.rsl ss,.pure,t.kids⟩]
def xA (ss:List Sh) (cs:LC):Option (RT (ElA ss)):=
 match iq ss (cs.take ss.length),cs.drop ss.length with
 |some a,[k]=>match jY k (.rsl ss)with|some d=>some (.mk a d)|none=>none
 |_,_=>none
def lF:(s:Sh)->El s
 | .int _=>(0:Int)
 | .bool=>false
 | .str=>ByteArray.empty
 | .sl _=>[]
 | .rsl _=>[]
 | .dl _=>[]
 | .mp _ _=>none
def JK (s:Sh):CV:=⟨s,s.top,lF s⟩
structure TyI where
 ag:Bool
 cells:List Sh
 fields:List (Nat×Nat)
 ftys:List TypeId
 elem:Option TypeId
inductive Root where
 |tmp (n:Nat)|box (n:Nat)
structure Pl where
 root:Root
 inst:Nat
 vers:List Nat
 cell:Nat
 sub:Option (Nat×Nat)
inductive T where
 |dead
 |undef
 |nilc
 |val (ag:Bool) (cs:LC)
 |ref (p:Pl) (ag:Bool) (n:Nat)
 |rsub (p:Pl) (z:Bool) (lo hi:Nat)
 |addr (p:Pl)
 |rowr (p:Pl) (ag:Bool) (n:Nat)
 |addr2 (p:Pl) (k j:Nat)
 |paddr (cs:LC) (off:Nat)
 |tup (ts:List (Bool×LC))
 |fn (f:FuncId)
 |clo (f:FuncId) (caps:List T)
 |ext (p:Pl) (q c:CV)
structure Bx where
 inst:Nat
 cells:List (CV×Nat)
structure St where
 tm:Nat->T×Nat
 bx:Nat->Option Bx
def put {α:Type} (f:Nat->α) (n:Nat) (v:α):Nat->α:=λ m=>bif Nat.beq m n then v else f m
inductive Upd where
 |tm (n:Nat) (t:T)
 |keep (n:Nat) (t:T)
 |bx (n:Nat) (b:Bx)
 |cl (n:Nat) (l:List (Nat×CV×Nat))
def setMany {α:Type}:List α->List (Nat×α)->List α
 |cs,[]=>cs
 |cs,(i,c)::l=>setMany (cs.set i c) l
def Upd.on (s:St):Upd->St
 | .cl n l=>{s with bx:=put s.bx n ((s.bx n).map λ b=>⟨b.inst,setMany b.cells l⟩)}
 | .tm n t=>{s with tm:=put s.tm n (t,(s.tm n).2+1)}
 | .keep n t=>{s with tm:=put s.tm n (t,(s.tm n).2)}
 | .bx n b=>{s with bx:=put s.bx n (some b)}
def St.dX (s:St) (us:List Upd):St:=us.foldl Upd.on s
inductive Dyn (α:Type):Type 1 where
 |ret (a:α)
 |fail
 |chk (c:Bool) (k:Dyn α)
 |idx {β:Type} (o:Option β) (k:β->Dyn α)
def Dyn.run {α:Type}:Dyn α->Option α
 | .ret a=>some a
 | .fail=>none
 | .chk c k=>bif c then k.run else none
 | .idx o k=>o.bind λ b=>(k b).run
def Dyn.runK {α ρ:Type}:Dyn α->(α->Option ρ)->Option ρ
 | .ret a,q=>q a
 | .fail,_=>none
 | .chk c k,q=>bif c then k.runK q else none
 | .idx o k,q=>o.bind λ b=>(k b).runK q
def Dyn.bind {α β:Type}:Dyn α->(α->Dyn β)->Dyn β
 | .ret a,q=>q a
 | .fail,_=> .fail
 | .chk c k,q=> .chk c (k.bind q)
 | .idx o k,q=> .idx o λ b=>(k b).bind q
def Dyn.of {α:Type}:Option α->Dyn α
 |some a=> .ret a
 |none=> .fail
instance:Monad Dyn where
 pure:=Dyn.ret
 bind:=Dyn.bind
theorem Dyn.U8 {α ρ:Type} (d:Dyn α) (q:α->Option ρ):d.runK q=d.run.bind q:=by
 induction d with
 |ret a=>rfl
 |fail=>rfl
 |chk c k e=>cases c<;>simp[Dyn.run,Dyn.runK,e]
 |idx o k e=>cases o<;>simp[Dyn.run,Dyn.runK,e]
theorem Dyn.run_bind {α β:Type} (d:Dyn α) (q:α->Dyn β):(d.bind q).run=d.run.bind λ a=>(q a).run:=by
 induction d with
 |ret a=>rfl
 |fail=>rfl
 |chk c k e=>cases c<;>simp[Dyn.run,Dyn.bind,e]
 |idx o k e=>cases o<;>simp[Dyn.run,Dyn.bind,e]
def nth? {α:Type} (l:List α) (i:Int):Option α:=bif decide (0<=i)then l[i.toNat]? else none
inductive PK where
 |val (ag:Bool) (cells:List (Sh×Tg))
 |ptr (cells:List (Sh×Tg))
 |rptr (cells:List (Sh×Tg))
 |fn (f:FuncId)
 |io (cells:List (Sh×Tg))
 |clo (f:FuncId) (cells:List (Sh×Tg))
def PK.cells:PK->List (Sh×Tg)| .val _ cs=>cs| .ptr cs=>cs| .rptr cs=>cs| .fn _=>[]| .io cs=>cs| .clo _ cs=>cs
def PK.outs:PK->List (Sh×Tg)| .ptr cs=>cs| .io cs=>cs|_=>[]
def adK (ps:List PK) (d:Nat):Bool:=match ps[d]? with|some (.ptr _)=>true|some (.io _)=>true|_=>false
def Oo (i:Nat):List (Sh×Tg)->Nat->List (Nat×Nat)
 | [],_=>[]
 |(_,.dead)::l,j=>(i,j)::Oo i l (j+1)
 |_::l,j=>Oo i l (j+1)
def UD:List PK->Nat->List (Nat×Nat)
 | [],_=>[]
 | .ptr want::ps,i=>Oo i want 0++UD ps (i+1)
 |_::ps,i=>UD ps (i+1)
structure Sig where
 fn:FuncId
 params:List PK
 res:List (Bool×List (Sh×Tg))
def Sig.ins (g:Sig):List (Sh×Tg):=g.params.flatMap PK.cells
def Sig.outs (g:Sig):List (Sh×Tg):=g.res.flatMap (·.2)++g.params.flatMap PK.outs
abbrev Sig.In (g:Sig):Type:=ElA (g.ins.map (·.1))
abbrev Sig.Out (g:Sig):Type:=ElA (g.outs.map (·.1))
def Sh.scalar:Sh->Bool| .int _=>true| .bool=>true| .str=>true|_=>false
def Sig.scalar (g:Sig):Bool:=g.outs.all (·.1.scalar)&&g.params.all λ p=>match p with| .ptr _=>false| .io _=>false|p=>p.cells.all (·.2.isPure)
structure Env where
 nt:Nat
 fix:Nat->Bool
 ty:TypeId->Option TyI
 glob:Nat->Option (LC)
 sig:Nat->Sig
 spec:Nat->Nat
 call:(i:Nat)->(sig i).In->Option (sig i).Out
 kept:List (Nat×Nat)
def bJ (cs:LC):Bool:=cs.all CV.isPure
def Om:Value->T
 | .int k n=> .val false [⟨.int k,.pure,n⟩]
 | .bool b=> .val false [⟨.bool,.pure,b⟩]
 | .string b=> .val false [⟨.str,.pure,b⟩]
 | .slice none 0 0=> .nilc
 |_=> .dead
def at_ (E:Env) (s:St):Operand->T
 | .tmp t=>(s.tm t).1
 | .const v=>Om v
 | .global g=>match E.glob g with|some cs=> .paddr cs 0|none=> .dead
 | .func f=> .fn f
def aB (s:St):Root->Option (Nat×List (CV×Nat))
 | .tmp n=>match s.tm n with
   |(.val _ cs,v)=>some (v,cs.map λ c=>(c,v))
   |_=>none
 | .box n=>match s.bx n with
   |some b=>some (b.inst,b.cells)
   |none=>none
def FD:List Nat->List Nat->Bool
 | [],_=>true
 |v::d,w::e=>Nat.beq v w&&FD d e
 |_::_,[]=>false
def bf (s:St) (p:Pl) (n:Nat):Option (LC):=
 match aB s p.root with
 |some (inst,cs)=>
  bif Nat.beq inst p.inst&&Nat.ble (p.cell+n) cs.length&&FD p.vers ((cs.drop p.cell).map (·.2))then some (((cs.drop p.cell).take n).map (·.1))else none
 |none=>none
def DT (s:St) (p:Pl) (n:Nat):List Nat:=
 match aB s p.root with
 |some (_,cs)=>((cs.drop p.cell).take n).map (·.2)
 |none=>[]
def CJ (s:St) (p:Pl):Bool:=
 match p.sub with
 |none=>match aB s p.root with|some (inst,_)=>Nat.beq inst p.inst|none=>false
 |some _=>match bf s p 1 with|some _=>true|none=>false
def setCells (cs:LC) (j:Nat) (ds:LC):LC:=cs.take j++ds++cs.drop (j+ds.length)
def jU (s:St) (p:Pl) (ds:LC) (e:Bool):Option (List Upd):=
 match p.root with
 | .tmp n=>match s.tm n with
   |(.val ag cs,v)=>bif e then none else bif Nat.beq v p.inst then some [.keep n (.val ag (setCells cs p.cell ds))]else none
   |_=>none
 | .box n=>match s.bx n with
   |some b=>bif Nat.beq b.inst p.inst&&Nat.ble (p.cell+ds.length) b.cells.length then
    some [.bx n ⟨b.inst,b.cells.take p.cell++(ds.zip (b.cells.drop p.cell)).map (λ(d,(_,v))=>(d,bif e then v+1 else v))++b.cells.drop (p.cell+ds.length)⟩]
    else none
   |none=>none
def at? {α:Type} (l:List α) (i:Nat):Option α:=l[i]?
def yT (c:CV) (i:Nat):Dyn (LC):=
 match c with
 |⟨.sl es,tg,l⟩=>match tg with
  | .dead=> .fail
  |_=> .idx (at? l i) λ e=> .ret (cellsOf es e)
 |⟨.rsl ss,tg,l⟩=>match tg with
  | .dead=> .fail
  |_=> .idx (at? l i) λ e=> .ret (tV ss e)
 |_=> .fail
def elemAt (c:CV) (i:Int):Dyn (LC):=
 match c with
 |⟨.sl es,tg,l⟩=>match tg with
  | .dead=> .fail
  |_=> .idx (nth? l i) λ e=> .ret (cellsOf es e)
 |⟨.rsl ss,tg,l⟩=>match tg with
  | .dead=> .fail
  |_=> .idx (nth? l i) λ e=> .ret (tV ss e)
 |_=> .fail
def content (s:St) (p:Pl) (n:Nat):Dyn (LC):=
 match p.sub with
 |none=>Dyn.of (bf s p n)
 |some (i,j)=>match bf s p 1 with
  |some [c]=>(yT c i).bind λ cs=>bif Nat.ble (j+n) cs.length then .ret ((cs.drop j).take n)else .fail
  |_=> .fail
def F6 (c:CV) (i:Nat) (cs:LC):Option CV:=
 match c with
 |⟨.sl es,.own,l⟩=>match iq es cs with
  |some e=>some ⟨.sl es,.own,List.set l i e⟩
  |none=>none
 |⟨.rsl ss,.own,l⟩=>match xA ss cs with
  |some e=>some ⟨.rsl ss,.own,List.set l i e⟩
  |none=>none
 |_=>none
def H6:LC->LC->Bool
 | [],[]=>true
 |a::d,b::e=>Sh.beq a.sh b.sh&&H6 d e
 |_,_=>false
def Ny (s:St) (p:Pl):Option (CV×Nat×Nat):=
 match p.sub with
 |some (i,j)=>match bf s p 1 with
  |some [⟨.dl es,.own,l⟩]=>some (⟨.dl es,.own,l⟩,i,j)
  |_=>none
 |none=>none
def II (c:CV) (i j n:Nat):Dyn (LC):=
 match c with
 |⟨.dl es,.own,l⟩=> .idx (rowAt? l i) λ e=>bif Nat.ble (j+n) (nR es e).length then .ret (((nR es e).drop j).take n)else .fail
 |_=> .fail
def moveRow (c:CV) (i:Nat):Option CV:=
 match c with
 |⟨.dl es,.own,l⟩=>some ⟨.dl es,.own,List.set l i none⟩
 |_=>none
def zA (s:St) (n:Nat):List (CV×Nat):=match s.bx n with|some b=>b.cells|none=>[]
def Kw (e:Bool):Nat->LC->List (CV×Nat)->List (Nat×CV×Nat)
 |j,d::ds,(_,v)::old=>(j,d,bif e then v+1 else v)::Kw e (j+1) ds old
 |_,_,_=>[]
def Nz (s:St) (p:Pl) (ds:LC) (d:Bool) (us:List Upd):List Upd:=match p.root with
 | .box n=>[.cl n (Kw d p.cell ds ((zA s n).drop p.cell))]
 | .tmp _=>us
def Nu (s:St) (p:Pl) (ds:LC):Dyn (List Upd):=
 match p.sub with
 |none=>match bf s p ds.length with
  |some old=>bif H6 ds old then Dyn.of ((jU s p ds true).map (Nz s p ds true))else .fail
  |none=> .fail
 |some (i,j)=>match bf s p 1 with
  |some [c]=>(yT c i).bind λ cs=>bif Nat.ble (j+ds.length) cs.length&&EP ds then
   match F6 c i (setCells cs j ds)with
   |some d=>Dyn.of (jU s p [d] false)
   |none=> .fail
   else .fail
  |_=> .fail
def yG (c:CV) (lo d:Nat):Option CV:=
 match c with
 |⟨.sl es,tg,l⟩=>match tg with| .dead=>none|tg=>some ⟨.sl es,tg,List.drop lo (List.take d l)⟩
 |⟨.rsl ss,tg,l⟩=>match tg with| .dead=>none|tg=>some ⟨.rsl ss,tg,List.drop lo (List.take d l)⟩
 |_=>none
def DK (s:St) (p:Pl) (cs:LC):Option (List Upd):=
 bif bJ cs then some []else match p.sub with|none=>(jU s p (cs.map CV.left) false).map (Nz s p (cs.map CV.left) false)|_=>none
def Ei (E:Env) (s:St) (x:Operand) (e:List Sh):Dyn (Bool×LC×List Upd):=
 match at_ E s x with
 | .val ag cs=>bif bJ cs then .ret (ag,cs,[])else match x with
   | .tmp n=> .ret (ag,cs,[.keep n (.val ag (cs.map CV.left))])
   |_=> .fail
 | .ref p ag n=>(content s p n).bind λ cs=>match DK s p cs with
   |some us=> .ret (ag,cs,us)
   |none=> .fail
 | .rsub p z lo f=>(content s p 1).bind λ cs=>match cs with
   | [c]=>match yG c lo f,DK s p [c]with
     |some d,some us=> .ret (false,[bif z&&d.tg.GK then d else d.to .pure],us)
     |_,_=> .fail
   |_=> .fail
 | .nilc=>match e with| [sh]=>bif sh.qO then .ret (false,[JK sh],[])else .fail|_=> .fail
 | .rowr p ag n=>match Ny s p with
   |some (c,i,j)=>(II c i j n).bind λ cs=>match moveRow c i with
    |some g=>match jU s p [g] false with
     |some us=> .ret (ag,cs,us)
     |none=> .fail
    |none=> .fail
   |none=> .fail
 |_=> .fail
def agU (c:CV) (sh:Sh):Dyn CV:=
 match c with
 |⟨.dl es,.own,l⟩=>match sh with
  | .sl _=> .idx (oN l) λ d=> .ret ⟨.sl es,.own,d⟩
  |_=> .ret ⟨.dl es,.own,l⟩
 |c=> .ret c
def thaw:LC->List Sh->Dyn (LC)
 |c::cs,sh::e=>(agU c sh).bind λ d=>(thaw cs e).bind λ ds=> .ret (d::ds)
 |cs,_=> .ret cs
def JC (E:Env) (s:St) (x:Operand):Dyn (LC):=
 match at_ E s x with
 | .val false cs=> .ret cs
 | .ref p false n=>content s p n
 | .rsub p _ lo e=>(content s p 1).bind λ cs=>match cs with
   | [c]=>Dyn.of ((yG c lo e).map λ d=>[d])
   |_=> .fail
 |_=> .fail
def tq (E:Env) (s:St) (x:Operand):Option (IntKind×Int):=
 match at_ E s x with
 | .val false [⟨.int k,.pure,n⟩]=>some (k,n)
 |_=>none
def wH (E:Env) (s:St) (x:Operand):Option Bool:=
 match at_ E s x with
 | .val false [⟨.bool,.pure,b⟩]=>some b
 |_=>none
def N7 (k:IntKind) (n:Int):T:= .val false [⟨.int k,.pure,n⟩]
def XO (b:Bool):T:= .val false [⟨.bool,.pure,b⟩]
def aje (b:ByteArray):T:= .val false [⟨.str,.pure,b⟩]
def intCmp (d:BinOp) (a b:Int):Option Bool:=
 match d with
 | .eql=>some (decide (a=b))| .neq=>some (!decide (a=b))| .lss=>some (decide (a<b))
 | .leq=>some (decide (a<=b))| .gtr=>some (decide (b<a))| .geq=>some (decide (b<=a))
 |_=>none
def aiD (op:BinOp) (k:IntKind) (a b:Int):Dyn T:=
 match op with
 | .add=> .ret (N7 k (k.wrap (a+b)))
 | .sub=> .ret (N7 k (k.wrap (a-b)))
 | .mul=> .ret (N7 k (k.wrap (a*b)))
 | .and=> .ret (N7 k (bits .and k a b))
 | .or=> .ret (N7 k (bits .or k a b))
 | .xor=> .ret (N7 k (bits .xor k a b))
 | .andNot=> .ret (N7 k (bits .andNot k a b))
 | .quo=> .chk (!decide (b=0)) (.ret (N7 k (k.wrap (a.tdiv b))))
 | .rem=> .chk (!decide (b=0)) (.ret (N7 k (a.tmod b)))
 |op=>match intCmp op a b with
  |some c=> .ret (XO c)
  |none=> .fail
def ajx (d:BinOp) (a b:Bool):Dyn T:=
 match d with
 | .eql=> .ret (XO (a==b))
 | .neq=> .ret (XO (!(a==b)))
 |_=> .fail
def ahu (d:BinOp) (k:IntKind) (a b:Int):Dyn T:=
 match d with
 | .shl=> .chk (decide (0<=b)&&decide (b<=k.bits)) (.ret (N7 k (k.wrap (a*2^b.toNat))))
 | .shr=> .chk (decide (0<=b)&&decide (b<=k.bits)) (.ret (N7 k (a/2^b.toNat)))
 |_=> .fail
def FT:BinOp->Bool| .shl=>true| .shr=>true|_=>false
def ajy (d:BinOp) (e:Bool) (x y:T):Dyn T:=
 match x,y with
 | .val false [⟨.int k,.pure,a⟩],.val false [⟨.int f,.pure,b⟩]=>bif FT d then ahu d k a b else bif decide (k=f)then aiD d k a b else .fail
 | .val false [⟨.bool,.pure,a⟩],.val false [⟨.bool,.pure,b⟩]=>bif e then ajx d a b else .fail
 |_,_=> .fail
def oU {α β:Type} (q:α->α->Bool) (x:α):List (α×β)->Option β
 | []=>none
 |p::l=>bif q x p.1 then some p.2 else oU q x l
def Ie {α β:Type} (q:α->α->Bool) (x:α) (y:β):List (α×β)->List (α×β)
 | []=>[(x,y)]
 |p::l=>bif q x p.1 then(x,y)::l else p::Ie q x y l
def V5 {α:Type} (l:Option (List α)):Nat:=match l with|some l=>List.length l|none=>0
def ng {α:Type} (l:Option (List α)):List α:=match l with|some l=>l|none=>[]
def keq:(s:Sh)->El s->El s->Bool
 | .int _,a,b=> @decide (@Eq Int a b) (Int.instDecidableEq a b)
 | .bool,a,b=> @BEq.beq Bool _ a b
 | .str,a,b=> @decide (@Eq ByteArray a b) ((inferInstance:DecidableEq ByteArray) a b)
 |_,_,_=>false
def ieq (a b:Int):Bool:=decide (a=b)
def ahs (a b:Bool):Bool:=a==b
def seq (a b:ByteArray):Bool:=decide (a=b)
def xO (l:List Int):ByteArray:=⟨(l.map λ n=>UInt8.ofNat n.toNat).toArray⟩
def lenOf (c:CV):Option Nat:=
 match c with
 |⟨.sl _,.dead,_⟩=>none
 |⟨.rsl _,.dead,_⟩=>none
 |⟨.sl _,_,l⟩=>some (List.length l)
 |⟨.rsl _,_,l⟩=>some (List.length l)
 |⟨.dl _,.own,l⟩=>some (List.length l)
 |⟨.str,.pure,b⟩=>some (ByteArray.size b)
 |⟨.mp _ _,.own,l⟩=>some (V5 l)
 |_=>none
def ay:Nat:=2^40
def air (c d:CV):Dyn CV:=
 match c,d with
 |⟨.sl es,tg,l⟩,⟨.sl f,e,m⟩=>
  bif (match tg with| .tip=>true| .own=>true|_=>false)&&Tg.le .pure e then
  match jY ⟨.sl f,.pure,m⟩ (.sl es)with
  |some m=> .chk (decide (List.length l+List.length m<=ay)) (.ret ⟨.sl es,tg,List.append l m⟩)
  |none=> .fail
  else .fail
 |⟨.rsl ss,tg,l⟩,⟨.rsl g,e,m⟩=>
  bif (match tg with| .tip=>true| .own=>true|_=>false)&&Tg.le .pure e then
  match jY ⟨.rsl g,.pure,m⟩ (.rsl ss)with
  |some m=> .chk (decide (List.length l+List.length m<=ay)) (.ret ⟨.rsl ss,tg,List.append l m⟩)
  |none=> .fail
  else .fail
 |_,_=> .fail
def vw (E:Env) (fields:List (Nat×Nat)) (cells:List Sh):List (Nat×Operand)->St->LC->List Upd->Dyn (LC×List Upd)
 | [],_,cs,us=> .ret (cs,us)
 |(i,x)::ps,s,cs,us=>match fields[i]? with
  |none=> .fail
  |some (off,n)=>(Ei E s x ((cells.drop off).take n)).bind λ(_,ds,d)=>
   bif Nat.beq ds.length n&&H6 ds ((cs.drop off).take n)then vw E fields cells ps (s.dX d) (setCells cs off ds) (us++d)else .fail
def LK (es:List Sh):List (LC)->Option (List (ElA es))
 | []=>some []
 |r::rs=>bif EP r then match iq es r,LK es rs with
  |some e,some l=>some (e::l)
  |_,_=>none else none
def Qb (ss:List Sh):List (LC)->Option (List (RT (ElA ss)))
 | []=>some []
 |r::rs=>bif EP r then match xA ss r,Qb ss rs with
  |some e,some l=>some (e::l)
  |_,_=>none else none
def UN (s:St) (d:Nat) (cs:LC):List Upd:=
 let i:=(match s.bx d with|some b=>b.inst|none=>0)+1
 [.bx d ⟨i,cs.map λ c=>(c,0)⟩,.tm d (.addr ⟨.box d,i,[],0,none⟩)]
def weaken (cs:LC) (want:List (Sh×Tg)):Option (LC):=
 match cs,want with
 | [],[]=>some []
 |c::cs,(sh,tg)::want=>bif Sh.beq c.sh sh&&Tg.le tg c.tg&&sh.adn tg then(weaken cs want).map (c.to tg:: ·)else none
 |_,_=>none
def leftAs (c:CV) (tg:Tg):CV:=
 match tg with
 | .pure=>match c.tg with
   | .own=>c.to .tip
   |_=>c
 | .dead=>c
 |_=>c.kill
def iL:LC->List (Sh×Tg)->LC
 |c::cs,(_,tg)::want=>(bif c.isPure then c else leftAs c tg)::iL cs want
 |_,_=>[]
def KR (s:St) (p:Pl) (cs:LC) (want:List (Sh×Tg)):Dyn (LC×List Upd):=
 match weaken cs want with
 |none=> .fail
 |some ds=>bif bJ cs then .ret (ds,[])else match p.sub with
  |none=>match jU s p (iL cs want) false with
   |some us=> .ret (ds,Nz s p (iL cs want) false us)
   |none=> .fail
  |_=> .fail
def aea (want:List (Sh×Tg)):Dyn (LC):=
 match want with
 | [(sh,tg)]=>bif sh.qH then .ret [(JK sh).to tg]else .fail
 |_=> .fail
def KT (s:St) (t:T) (x:Operand) (f:Bool) (want:List (Sh×Tg)):Dyn (LC×List Upd):=
 match t with
 | .val ag cs=>bif ag==f then match weaken cs want with
   |none=> .fail
   |some ds=>bif bJ cs then .ret (ds,[])else match x with
    | .tmp n=> .ret (ds,[.keep n (.val ag (iL cs want))])
    |_=> .fail else .fail
 | .ref p ag n=>bif ag==f then(content s p n).bind λ cs=>KR s p cs want else .fail
 | .rsub p _ lo g=>bif f then .fail else(content s p 1).bind λ cs=>match cs with
   | [c]=>match yG c lo g with
     |none=> .fail
     |some d=>match weaken [d] want with
      |none=> .fail
      |some ds=>bif bJ ds then match p.sub with
       |none=>match jU s p (iL [c] want) false with
        |some us=> .ret (ds,us)
        |none=> .fail
       |_=> .fail else .fail
   |_=> .fail
 | .nilc=>bif f then .fail else(aea want).bind λ ds=> .ret (ds,[])
 | .rowr p ag n=>bif ag||f then .fail else match Ny s p with
   |some (c,i,j)=>(II c i j n).bind λ cs=>match cs,want,moveRow c i with
    | [e],[(sh,tg)],some k=>match weaken [e] [(sh,tg)],jU s p [k] false with
      |some ds,some us=> .ret (ds,us)
      |_,_=> .fail
    |_,_,_=> .fail
   |none=> .fail
 | .ext p q c=>match want,x with
   | [(sh,.own)],.tmp n=>bif !f&&Sh.beq c.sh sh&&c.tg.GK then .ret ([c],[.keep n (.ext p q c.kill)])else .fail
   |_,_=> .fail
 |_=> .fail
def yC (E:Env) (ag:Bool) (want:List (Sh×Tg)):List (Nat×Operand)->Nat->St->List (LC)->List Upd->Dyn (List (LC)×List Upd)
 | [],_,_,rows,us=> .ret (rows.reverse,us)
 |(i,x)::ps,k,s,rows,us=>bif Nat.beq i k then
  (KT s (at_ E s x) x ag want).bind λ r=>yC E ag want ps (k+1) (s.dX r.2) (r.1::rows) (us++r.2)
  else .fail
def qZ (want:List (Sh×Tg)):Bool:=want.any λ x=>match x.2 with| .dead=>true|_=>false
def iV (e:Nat):Nat->LC->List (CV×Nat)->List (Sh×Tg)->List (Nat×CV×Nat)
 |j,c::cs,(_,v)::old,(_,tg)::want=>match tg with
  | .dead=>iV e (j+1) cs old want
  |_=>(j,c,v+e)::iV e (j+1) cs old want
 |_,_,_,_=>[]
def ajw (E:Env) (t:TypeId):Bool:=match E.ty t with|some i=>i.ag|none=>false
def YG (t:T) (want:List (Sh×Tg)):Dyn (LC):=
 match t with
 | .paddr cs off=>bif Nat.ble (off+want.length) cs.length then match weaken ((cs.drop off).take want.length) want with
   |some ds=>bif bJ ds then .ret ds else .fail
   |none=> .fail else .fail
 |_=> .fail
def ah2 (n:Nat) (d:List (Option Nat)):Bool:=d.all λ b=>match b with|some m=> !(Nat.beq n m)|none=>true
def RD (s:St) (d:List (Option Nat)) (pk:PK) (t:T) (x:Operand):Dyn (LC×List Upd×Option Nat):=
 match pk with
 | .val ag want=>(KT s t x ag want).bind λ r=> .ret (r.1,r.2,none)
 | .rptr want=>(YG t want).bind λ ds=> .ret (ds,[],none)
 | .ptr want=>match t with
   | .addr p=>match p.root,p.sub,bf s p want.length with
     | .box n,none,some cs=>bif Nat.beq p.cell 0&&ah2 n d&&(match s.bx n with|some b=>Nat.beq b.cells.length want.length|none=>false)then
       match weaken cs want,jU s p (iL cs want) false with
        |some ds,some us=> .ret (ds,bif qZ want then[.cl n (iV 0 0 (iL cs want) (zA s n) want)]else us,some n)
        |_,_=> .fail
       else .fail
     |_,_,_=> .fail
   |_=> .fail
 | .fn f=>match t with
   | .fn g=>bif Nat.beq f g then .ret ([],[],none)else .fail
   |_=> .fail
 | .io want=>(KT s t x false want).bind λ r=> .ret (r.1,r.2,none)
 | .clo _ _=> .fail
def xu (E:Env):List PK->List Operand->List (Option Nat)->St->LC->List Upd->Dyn (LC×List Upd×List (Option Nat))
 | [],[],d,_,cs,us=> .ret (cs,us,d)
 |p::ps,x::e,d,s,cs,us=>(RD s d p (at_ E s x) x).bind λ r=>xu E ps e (d++[r.2.2]) (s.dX r.2.1) (cs++r.1) (us++r.2.1)
 |_,_,_,_,_,_=> .fail
def U3 (cs:LC) (want:List (Sh×Tg)):Dyn (LC):=
 (thaw cs (want.map (·.1))).bind λ cs=>match weaken cs want with
  |some ds=>bif bJ ds then .ret ds else .fail
  |none=> .fail
def RP (s:St) (t:T) (want:List (Sh×Tg)):Dyn (LC):=
 match t with
 | .addr p=>match p.sub with
   |none=>(content s p want.length).bind λ cs=>U3 cs want
   |_=> .fail
 |t=>YG t want
def Xj (E:Env) (s:St) (pk:PK) (x:Operand):Dyn (LC):=
 match pk with
 | .val e want=>match at_ E s x with
   | .val ag cs=>bif ag==e then U3 cs want else .fail
   | .ref p ag n=>bif ag==e then(content s p n).bind λ cs=>U3 cs want else .fail
   | .rsub p _ lo i=>bif e then .fail else(content s p 1).bind λ cs=>match cs with
     | [c]=>match yG c lo i with
       |some d=>U3 [d] want
       |none=> .fail
     |_=> .fail
   | .nilc=>bif e then .fail else(aea want).bind λ ds=>bif bJ ds then .ret ds else .fail
   |_=> .fail
 | .rptr want=>RP s (at_ E s x) want
 | .ptr _=> .fail
 | .io _=> .fail
 | .fn f=>match at_ E s x with
   | .fn g=>bif Nat.beq f g then .ret []else .fail
   |_=> .fail
 | .clo f want=>match at_ E s x with
   | .clo g [t]=>bif Nat.beq f g then RP s t want else .fail
   |_=> .fail
def yP (E:Env) (s:St):List PK->List Operand->List T->Dyn (LC)
 | [],[],[]=> .ret []
 |p::ps,x::d,ts=>(Xj E s p x).bind λ ds=>(yP E s ps d ts).bind λ es=> .ret (ds++es)
 | .rptr want::ps,[],t::ts=>(RP s t want).bind λ ds=>(yP E s ps [] ts).bind λ es=> .ret (ds++es)
 |_,_,_=> .fail
def resT:List (Bool×List (Sh×Tg))->LC->List (Bool×LC)×LC
 | [],cs=>([],cs)
 |(ag,want)::rs,cs=>let(ts,rest):=resT rs (cs.drop want.length); ((ag,cs.take want.length)::ts,rest)
def oK (s:St):List PK->List (Option Nat)->LC->Option (List Upd)
 | [],[],_=>some []
 | .ptr want::ps,some n::d,cs=>match s.bx n,oK s ps d (cs.drop want.length)with
   |some b,some us=>bif Nat.beq (cs.take want.length).length b.cells.length&&Nat.beq b.cells.length want.length then some ((bif qZ want then .cl n (iV 1 0 (cs.take want.length) b.cells want)else .bx n ⟨b.inst,((cs.take want.length).zip b.cells).map λ x=>(x.1,x.2.2+1)⟩)::us)else none
   |_,_=>none
 | .ptr _::_,_,_=>none
 | .io want::ps,none::d,cs=>oK s ps d (cs.drop want.length)
 |_::ps,none::d,cs=>oK s ps d cs
 |_,_,_=>none
def XW:List PK->List Operand->LC->List (Operand×LC)
 | .io want::ps,x::d,cs=>(x,cs.take want.length)::XW ps d (cs.drop want.length)
 | .ptr want::ps,_::d,cs=>XW ps d (cs.drop want.length)
 |_::ps,_::d,cs=>XW ps d cs
 |_,_,_=>[]
def pre (m l:List Int):Bool:=decide (List.take (List.length m) l=m)
def ac1 (c q:CV):Bool:=
 match c,q with
 |⟨.sl [.int _],_,l⟩,⟨.sl [.int _],_,m⟩=>pre m l
 |_,_=>false
def U4 (E:Env) (s:St) (d:Nat) (x:Operand) (c:CV):Dyn (List Upd):=
 match at_ E s x with
 | .nilc=> .ret []
 | .val false [q]=>match x with
   | .tmp n=>bif Sh.beq c.sh q.sh&&c.sh.qH then .ret [.keep n (.val false [c])]else .fail
   |_=> .fail
 | .ref p false 1=>match p.sub,bf s p 1 with
   |none,some [q]=>bif Sh.beq c.sh q.sh&&c.sh.qH then Dyn.of (jU s p [c] false)else .fail
   |_,_=> .fail
 | .rowr p false 1=>match Ny s p with
   |some (⟨.dl [sh],.own,l⟩,i,j)=>bif Nat.beq j 0&&sh.qH&&c.tg.GK then match jY c sh with
    |some y=>Dyn.of (jU s p [⟨.dl [sh],.own,List.set l i (some y)⟩] false)
    |none=> .fail
    else .fail
   |_=> .fail
 | .ext p q _=>match x,p.sub,bf s p 1 with
   | .tmp n,none,some [e]=>bif Sh.beq e.sh q.sh&&Sh.beq c.sh q.sh&&c.tg.GK&& !(Nat.beq n d)then match jU s p [q] false with
    |some us=> .chk (ac1 c q) (.ret (.keep n .dead::us))
    |none=> .fail
     else .fail
   |_,_,_=> .fail
 |_=> .fail
def Xr (E:Env) (s:St) (d:Nat):List (Operand×LC)->Dyn (List Upd)
 | []=> .ret []
 | [(x,[c])]=>U4 E s d x c
 |_=> .fail
def retag:List (Sh×Tg)->LC->LC
 |(_,tg)::d,c::cs=>c.to tg::retag d cs
 |_,_=>[]
def ajE:List (Bool×LC)->T| [(ag,cs)]=> .val ag cs|ts=> .tup ts
def aia (d:Nat) (ts:List (Bool×LC)):List Upd:=[.tm d (ajE ts)]
def noT (ts:List T):Bool:=match ts with| []=>true|_=>false
def Nw (E:Env) (s:St) (d:Nat) (e:List Operand) (ts:List T) (i:Nat):Dyn (List Upd):=
 bif (E.sig i).scalar then
  (yP E s (E.sig i).params e ts).bind λ cs=>match iq ((E.sig i).ins.map (·.1)) cs with
   |none=> .fail
   |some a=> .idx (E.call i a) λ r=> .ret (aia d (resT (E.sig i).res (retag (E.sig i).outs (cellsOf ((E.sig i).outs.map (·.1)) r))).1)
 else bif !(noT ts)then .fail else
  (xu E (E.sig i).params e [] s [] []).bind λ p=>match iq ((E.sig i).ins.map (·.1)) p.1 with
   |none=> .fail
   |some a=> .idx (E.call i a) λ r=>
    match resT (E.sig i).res (retag (E.sig i).outs (cellsOf ((E.sig i).outs.map (·.1)) r))with
    |(ts,rest)=>match oK (s.dX p.2.1) (E.sig i).params p.2.2 rest with
     |none=> .fail
     |some us=>(Xr E ((s.dX p.2.1).dX us) d (XW (E.sig i).params e rest)).bind λ f=> .ret (p.2.1++us++f++aia d ts)
def ig (E:Env) (t:TypeId):List Sh:=match E.ty t with|some i=>i.cells|none=>[]
def NI (E:Env) (s:St) (x:Operand) (d:List Sh):Option T:=
 match at_ E s x with
 | .val ag cs=>bif bJ cs then some (.val ag cs)else match x with
   | .tmp n=>let v:=(s.tm n).2
     some (.ref ⟨.tmp n,v,cs.map λ _=>v,0,none⟩ ag cs.length)
   |_=>none
 | .nilc=>match d with| [sh]=>bif sh.qO then some (.val false [JK sh])else none|_=>none
 | .tup _=>none
 | .dead=>none
 | .undef=>none
 | .ext _ _ _=>none
 |t=>some t
def Oc (p:Pl) (off:Nat):Pl:=
 match p.sub with
 |none=>{p with cell:=p.cell+off,vers:=[]}
 |some (i,j)=>{p with sub:=some (i,j+off)}
def X6 (E:Env) (d:Nat):Bool:=Nat.beq (E.spec d) 2
def intTy (E:Env) (t:TypeId):Option IntKind:=match E.ty t with|some ⟨false,[.int k],_,_,_⟩=>some k|_=>none
def NY (E:Env) (t:TypeId):Bool:=match E.ty t with|some ⟨false,[.str],_,_,_⟩=>true|_=>false
def Gf (E:Env) (t:TypeId) (c:CV):Bool:=match E.ty t with|some ⟨false,[sh],_,_,some _⟩=>sh.qO&&Sh.beq sh c.sh.base|_=>false
def RF (E:Env) (s:St) (t:TypeId) (x:Operand) (i:Int):Dyn T:=
 match at_ E s x with
 | .val false [c]=>bif !Gf E t c then .fail else
   match c.tg with
   | .own=>match x with
     | .tmp n=>match lenOf c with
       |some l=> .chk (decide (0<=i)&&decide (i<l)) (.ret (.addr ⟨.tmp n,(s.tm n).2,[(s.tm n).2],0,some (i.toNat,0)⟩))
       |none=> .fail
     |_=> .fail
   | .dead=> .fail
   |_=>(elemAt c i).bind λ cs=> .ret (.paddr cs 0)
 | .ref p false n=>(content s p n).bind λ cs=>match cs with
   | [c]=>bif !Gf E t c then .fail else match c.tg with
     | .own=>match p.sub,lenOf c with
       |none,some l=> .chk (decide (0<=i)&&decide (i<l)) (.ret (.addr {p with sub:=some (i.toNat,0)}))
       |_,_=> .fail
     | .dead=> .fail
     |_=>(elemAt c i).bind λ cs=> .ret (.paddr cs 0)
   |_=> .fail
 | .rsub p _ lo d=>(content s p 1).bind λ cs=>match cs with
   | [c]=>bif !Gf E t c then .fail else match c.tg with
     | .own=>match p.sub with
       |none=> .chk (decide (0<=i)&&decide (i<((d-lo:Nat):Int))) (.ret (.addr {p with sub:=some (lo+i.toNat,0)}))
       |_=> .fail
     |_=> .fail
   |_=> .fail
 | .rowr p false n=>match Ny s p with
   |some (c,r,j)=>(II c r j n).bind λ cs=>match cs with
    | [e]=>bif Gf E t e&&e.tg.GK then match lenOf e with
      |some l=> .chk (decide (0<=i)&&decide (i<l)) (.ret (.addr2 p i.toNat 0))
      |none=> .fail
      else .fail
    |_=> .fail
   |none=> .fail
 |_=> .fail
def Yi (b:ByteArray) (i:Int):Option Int:=bif decide (0<=i)then(b[i.toNat]?).map λ c=>(c.toNat:Int)else none
def sliceT (E:Env) (s:St) (t:TypeId) (x:Operand) (lo f:Option Int):Dyn T:=
 let e (c:CV):Dyn T:=bif !Gf E t c then .fail else match lenOf c with
  |some l=> .chk (decide (0<=lo.getD 0)&&decide (lo.getD 0<=f.getD l)&&decide (f.getD l<=l))
   (match yG c (lo.getD 0).toNat (f.getD l).toNat with|some d=> .ret (.val false [d.to .pure])|none=> .fail)
  |none=> .fail
 match at_ E s x with
 | .val false [⟨.str,.pure,b⟩]=>bif !NY E t then .fail else .chk (decide (0<=lo.getD 0)&&decide (lo.getD 0<=f.getD (ByteArray.size b:Nat))&&decide (f.getD (ByteArray.size b:Nat)<=(ByteArray.size b:Nat)))
  (.ret (aje (ByteArray.extract b (lo.getD 0).toNat (f.getD (ByteArray.size b:Nat)).toNat)))
 | .val false [c]=>match c.tg with
   | .pure=>e c
   |_=> .fail
 | .ref p false 1=>(content s p 1).bind λ cs=>match cs with
   | [c]=>match c.tg with
     | .dead=> .fail
     | .own=>bif !Gf E t c then .fail else match lenOf c with
       |some l=> .chk (decide (0<=lo.getD 0)&&decide (lo.getD 0<=f.getD l)&&decide (f.getD l<=l)) (.ret (.rsub p lo.isNone (lo.getD 0).toNat (f.getD l).toNat))
       |none=> .fail
     |_=>e c
   |_=> .fail
 |_=> .fail
def LM (E:Env) (s:St):Option Operand->Option (Option Int)
 |none=>some none
 |some x=>match tq E s x with|some (_,n)=>some (some n)|none=>none
def uJ (c d:CV) (lo n:Nat):Option CV:=
 match c,d with
 |⟨.sl es,.own,l⟩,⟨.sl e,tg,m⟩=>
  bif Tg.le .pure tg then match jY ⟨.sl e,.pure,m⟩ (.sl es)with
  |some m=>some ⟨.sl es,.own,List.append (List.append (List.take lo l) (List.take n m)) (List.drop (lo+n) l)⟩
  |none=>none else none
 |⟨.rsl ss,.own,l⟩,⟨.rsl f,tg,m⟩=>
  bif Tg.le .pure tg then match jY ⟨.rsl f,.pure,m⟩ (.rsl ss)with
  |some m=>some ⟨.rsl ss,.own,List.append (List.append (List.take lo l) (List.take n m)) (List.drop (lo+n) l)⟩
  |none=>none else none
 |_,_=>none
def xX (E:Env) (s:St) (d:Nat) (t u:TypeId) (e:CV) (p:Pl) (lo:Nat) (f:Option Nat):Dyn (List Upd):=
 match p.sub with
 |some _=> .fail
 |none=>(content s p 1).bind λ cs=>match cs with
  | [q]=>bif Gf E t q&&Gf E u e then match lenOf q,lenOf e with
    |some l,some m=>match uJ q e lo (Nat.min m (f.getD l-lo))with
     |some r=>match jU s p [r] false with
      |some us=> .ret (us++[.tm d (N7 .i64 (Nat.min m (f.getD l-lo):Nat))])
      |none=> .fail
     |none=> .fail
    |_,_=> .fail
    else .fail
  |_=> .fail
def aeY (c:CV) (lo d:Nat):Option CV:=
 match c with
 |⟨.sl es,.own,l⟩=>match iq es (es.map λ s=>⟨s,.pure,lF s⟩)with
  |some e=>some ⟨.sl es,.own,List.append (List.append (List.take lo l) (List.replicate (d-lo) e)) (List.drop d l)⟩
  |none=>none
 |_=>none
def Oj (E:Env) (s:St) (t:TypeId) (x:Operand):Dyn (List Upd):=
 match at_ E s x with
 | .rsub p _ lo d=>match p.sub with
   |some _=> .fail
   |none=>(content s p 1).bind λ cs=>match cs with
    | [q]=>bif Gf E t q then match aeY q lo d with
      |some r=>Dyn.of (jU s p [r] false)
      |none=> .fail
      else .fail
    |_=> .fail
 |_=> .fail
def afY (sh:Sh) (n:Nat):Option CV:=
 match sh with
 | .sl es=>match iq es (es.map λ s=>⟨s,.pure,lF s⟩)with
   |some e=>some ⟨.sl es,.own,List.replicate n e⟩
   |none=>none
 | .rsl ss=>match xA ss ((ss++[Sh.rsl ss]).map λ s=>⟨s,.pure,lF s⟩)with
   |some e=>some ⟨.rsl ss,.own,List.replicate n e⟩
   |none=>none
 |_=>none
def ahX (sh:Sh) (n:Nat):Option CV:=
 match sh with
 | .sl [e]=>bif e.qH then some ⟨.dl [e],.own,List.replicate n (some (lF e))⟩else none
 |_=>none
def V4 (b:Builtin) (x y:Int):Option Int:=match b with| .min=>some (min x y)| .max=>some (max x y)|_=>none
def SB (E:Env) (s s':St) (y:Operand) (d:List Sh):Dyn (LC):=
 match at_ E s y,d with
 | .nilc,[sh]=>bif sh.qO then .ret [JK sh]else .fail
 |_,_=>JC E s' y
def boolTy (E:Env) (t:TypeId):Bool:=match E.ty t with|some i=> !i.ag&&aX i.cells [.bool]|none=>false
def adD (E:Env) (s:St):List Operand->Option (List T)
 | []=>some []
 |x::d=>match at_ E s x,adD E s d with
  | .addr p,some ts=>some (.addr p::ts)
  | .paddr cs off,some ts=>some (.paddr cs off::ts)
  |_,_=>none
def tX (E:Env) (d:Nat):Bool:=Nat.beq (E.spec d) 1
def aiI (E:Env) (d:Nat):Bool:=Nat.beq (E.spec d) 3
def YB:Sh->Bool| .sl [.int _]=>true|_=>false
def ahx (E:Env) (s:St) (x:Operand) (d:Nat) (q r:CV):Dyn (List Upd):=
 match at_ E s x with
 | .ref p false 1=>match p.sub with
   |none=>bif q.tg.GK&&YB q.sh then .ret [.tm d (.ext p q r)]else .fail
   |some _=> .fail
 |_=> .fail
def aif (c:CV) (i j:Nat) (row:LC) (e:CV):Option CV:=
 match c with
 |⟨.dl es,.own,l⟩=>match iq es (setCells row j [e])with
  |some x=>some ⟨.dl es,.own,List.set l i (some x)⟩
  |none=>none
 |_=>none
def O6 (s:St) (p:Pl) (k q:Nat) (ds:LC):Dyn (List Upd):=
 match Ny s p with
 |some (c,i,j)=>match c with
  |⟨.dl es,.own,l⟩=> .idx (rowAt? l i) λ x=>match(nR es x)[j]? with
   |some e=>(yT e k).bind λ rs=>bif Nat.ble (q+ds.length) rs.length&&bJ ds then
    match F6 e k (setCells rs q ds)with
    |some d=>match aif ⟨.dl es,.own,l⟩ i j (nR es x) d with
     |some f=>Dyn.of (jU s p [f] false)
     |none=> .fail
    |none=> .fail
    else .fail
   |none=> .fail
  |_=> .fail
 |none=> .fail
def OT (s:St) (p:Pl) (c:CV) (i j:Nat) (ds:LC):Dyn (List Upd):=
 match c,ds with
 |⟨.dl [sh],.own,l⟩,[⟨d,.own,x⟩]=>bif Nat.beq j 0&&sh.qH then match jY ⟨d,.own,x⟩ sh with
  |some y=>match p.root with
   | .tmp n=>match(s.tm n).1 with
     | .val false [_]=>bif Nat.beq p.cell 0 then .ret [.tm n (.val false [⟨.dl [sh],.own,List.set l i (some y)⟩])]else .fail
     |_=> .fail
   | .box _=> .fail
  |none=> .fail
  else .fail
 |_,_=> .fail
def EY (E:Env) (s:St) (x:Operand) (sh:Sh):Option (El sh):=
 match at_ E s x with
 | .val false [⟨d,.pure,y⟩]=>jY ⟨d,.pure,y⟩ sh
 |_=>none
def af5 (E:Env) (t:TypeId) (k e:Sh):Bool:=match E.ty t with|some ⟨false,[.mp d f],_,[_,_],none⟩=>Sh.beq k d&&Sh.beq e f&&k.scalar&&e.scalar|_=>false
def ahY (E:Env) (t:TypeId):Option CV:=match E.ty t with
 |some ⟨false,[.mp k e],_,[_,_],none⟩=>bif k.scalar&&e.scalar then some ⟨.mp k e,.own,some []⟩else none
 |_=>none
def Zd (E:Env) (s:St) (x:Operand):Option (Pl×CV):=
 match at_ E s x with
 | .ref p false 1=>match p.sub,bf s p 1 with
   |none,some [c]=>some (p,c)
   |_,_=>none
 |_=>none
def Za (E:Env) (s:St) (d:Nat) (t:TypeId) (m x:Operand) (ok:Bool):Dyn (List Upd):=
 match Zd E s m with
 |some (_,⟨.mp k e,.own,l⟩)=>bif af5 E t k e then match EY E s x k with
  |some y=>bif ok then .ret [.tm d (.tup [(false,[⟨e,.pure,(oU (keq k) y (ng l)).getD (lF e)⟩]),(false,[⟨.bool,.pure,(oU (keq k) y (ng l)).isSome⟩])])]
   else .ret [.tm d (.val false [⟨e,.pure,(oU (keq k) y (ng l)).getD (lF e)⟩])]
  |none=> .fail
  else .fail
 |_=> .fail
def Xt (E:Env) (s:St) (t:TypeId) (m x v:Operand):Dyn (List Upd):=
 match Zd E s m with
 |some (p,⟨.mp k e,.own,l⟩)=>bif af5 E t k e then match EY E s x k,EY E s v e with
  |some y,some z=> .idx l λ l=>Dyn.of (jU s p [⟨.mp k e,.own,some (Ie (keq k) y z l)⟩] false)
  |_,_=> .fail
  else .fail
 |_=> .fail
def VN (x:Operand):Bool:=match x with| .const (.map none)=>true|_=>false
def Zg (E:Env) (s:St) (d:Nat) (e:BinOp) (x:Operand):Dyn (List Upd):=
 match e,Zd E s x with
 | .eql,some (_,⟨.mp _ _,.own,l⟩)=> .ret [.tm d (XO (Option.isNone l))]
 |_,_=> .fail
def ad8 (E:Env) (t:TypeId):Bool:=match E.ty t with|some ⟨false,[.mp _ _],_,[_,_],none⟩=>true|_=>false
def Q5 (E:Env) (s:St) (d:Nat) (x:Operand):Dyn (List Upd):=
 (JC E s x).bind λ cs=>match cs with
 | [⟨.sl [.int .u8],tg,l⟩]=>bif Tg.le .pure tg then .ret [.tm d (aje (xO l))]else .fail
 |_=> .fail
def adC (E:Env) (t:TypeId):Bool:=match E.ty t with|some ⟨false,[.sl [.int .u8]],_,_,some e⟩=>(match intTy E e with|some .u8=>true|_=>false)|_=>false
def JZ (s:St) (p:Pl) (n:Nat) (t:List Sh):List Sh:=
 match p.sub with
 |none=>match bf s p n with|some old=>old.map CV.sh|none=>t
 |some _=>t
def plan (E:Env) (o:Oper) (s:St):Dyn (List Upd):=
 match o.op with
 | .store t a x=>match o.dst with
   |none=>(Ei E s x (ig E t)).bind λ(_,cs,us)=>match at_ E (s.dX us) a with
    | .addr p=>
      bif Nat.beq cs.length (ig E t).length&&EX cs&&(match E.ty t with|some _=>true|none=>false)then
       match Ny (s.dX us) p with
       |some (c,i,j)=>(OT (s.dX us) p c i j cs).bind λ A=> .ret (us++A)
       |none=>(thaw cs (JZ (s.dX us) p cs.length (ig E t))).bind λ cs=>(Nu (s.dX us) p cs).bind λ A=> .ret (us++A)
      else .fail
    | .addr2 p k j=>
      bif Nat.beq cs.length (ig E t).length&&(match E.ty t with|some _=>true|none=>false)then
       (O6 (s.dX us) p k j cs).bind λ A=> .ret (us++A)
      else .fail
    |_=> .fail
   |some _=> .fail
 |op=>match o.dst with
  |none=>match op with
   | .call c=>match c.callee,c.args.toList,c.argTypes.toList with
     | .builtin .clear,[x],[t]=>Oj E s t x
     |_,_,_=> .fail
   | .mapUpdate t m x v=>Xt E s t m x v
   |_=> .fail
  |some d=>match op with
   | .move x=>match NI E s x (ig E o.type)with
     |some t=> .ret [.tm d t]
     |none=>match at_ E s x,x with
      | .tup ts,.tmp n=> .ret [.keep n .dead,.tm d (.tup ts)]
      |_,_=> .fail
   | .assign x=>match at_ E s x with
     | .addr p=> .ret [.tm d (.addr p)]
     | .paddr cs off=> .ret [.tm d (.paddr cs off)]
     | .fn f=> .ret [.tm d (.fn f)]
     | .clo f ts=> .ret [.tm d (.clo f ts)]
     | .rsub p z lo B=>bif X6 E d then .ret [.tm d (.rsub p z lo B)]else
       (Ei E s x (ig E o.type)).bind λ(ag,cs,us)=> .ret (us++[.tm d (.val ag cs)])
     | .rowr p ag n=>bif X6 E d then .ret [.tm d (.rowr p ag n)]else
       (Ei E s x (ig E o.type)).bind λ(ag,cs,us)=> .ret (us++[.tm d (.val ag cs)])
     |_=>(Ei E s x (ig E o.type)).bind λ(ag,cs,us)=> .ret (us++[.tm d (.val ag cs)])
   | .pick c a b=>match wH E s c with
     |some v=>match bif v then at_ E s a else at_ E s b with
      | .val ag cs=>bif bJ cs then .ret [.tm d (.val ag cs)]else .fail
      |_=> .fail
     |none=> .fail
   | .alloc t=>match E.ty t with|some i=> .ret (UN s d ((bif tX E d then i.cells.map aX5 else i.cells).map JK))|none=> .fail
   | .box t x=>(Ei E s x (ig E t)).bind λ(_,cs,us)=>
    bif H6 cs ((ig E t).map JK)then .ret (us++UN (s.dX us) d cs)else .fail
   | .build t g=>match E.ty t with
     |some i=>(vw E i.fields i.cells g.toList s ((bif tX E d then i.cells.map aX5 else i.cells).map JK) []).bind λ(cs,us)=>bif i.ag then .ret (us++[.tm d (.val true cs)])else .fail
     |none=> .fail
   | .buildSlice t n g=>match E.ty t with
     |some ⟨_,[sh],_,_,some e⟩=>(yC E (ajw E e) ((ig E e).map λ sh=>(sh,bif tX E d then sh.top else .pure)) g.toList 0 s [] []).bind λ(rows,us)=>
      bif Nat.beq rows.length n&&Nat.ble 1 (ig E e).length&&Nat.ble (n*(ig E e).length) 16777216 then
       match sh with
       | .sl es=>match LK es rows with
         |some l=>bif tX E d then .ret (us++[.tm d (.val false [⟨.dl es,.own,List.map some l⟩])])else .ret (us++[.tm d (.val false [⟨.sl es,.own,l⟩])])
         |none=> .fail
       | .rsl ss=>match Qb ss rows with
         |some l=>bif tX E d then .fail else .ret (us++[.tm d (.val false [⟨.rsl ss,.own,l⟩])])
         |none=> .fail
       |_=> .fail
      else .fail
     |_=> .fail
   | .load t a=>match at_ E s a,E.ty t with
     | .addr p,some i=>match Ny s p with
       |some (c,r,j)=>(II c r j i.cells.length).bind λ cs=>bif bJ cs then .ret [.tm d (.val i.ag cs)]else bif tX E d then(match moveRow c r with
        |some L=>match jU s p [L] false with
         |some us=> .ret (us++[.tm d (.val i.ag cs)])
         |none=> .fail
        |none=> .fail)else .ret [.tm d (.rowr p i.ag i.cells.length)]
       |none=>(content s p i.cells.length).bind λ cs=>
        bif bJ cs then .ret [.tm d (.val i.ag cs)]else match p.sub with
         |none=>bif i.ag||EX cs then .ret [.tm d (.ref {p with vers:=DT s p i.cells.length} i.ag i.cells.length)]else .fail
         |some _=> .fail
     | .paddr cs off,some i=>bif Nat.ble (off+i.cells.length) cs.length then .ret [.tm d (.val i.ag ((cs.drop off).take i.cells.length))]else .fail
     |_,_=> .fail
   | .nilCheck x=>match at_ E s x with
     | .addr p=>bif CJ s p then .ret [.tm d (.addr p)]else .fail
     | .paddr cs off=> .ret [.tm d (.paddr cs off)]
     | .fn f=> .ret [.tm d (.fn f)]
     | .clo f ts=> .ret [.tm d (.clo f ts)]
     |_=> .fail
   | .makeInterface t _=>match E.ty t with|some _=> .ret [.tm d .dead]|none=> .fail
   | .makeFunc (.func f) first C=>match first.toList,adD E s C.toList with
     | [],some ts=> .ret [.tm d (.clo f ts)]
     |_,_=> .fail
   | .binOp op t x y _=>bif VN y then bif ad8 E t then Zg E s d op x else .fail else(ajy op (boolTy E t) (at_ E s x) (at_ E s y)).bind λ t=> .ret [.tm d t]
   | .makeMap t none=>match ahY E t with|some c=> .ret [.tm d (.val false [c])]|none=> .fail
   | .lookup t m x ok=>Za E s d t m x ok
   | .unOp op _ x=>match op,at_ E s x with
     | .not,.val false [⟨.bool,.pure,b⟩]=> .ret [.tm d (XO (!b))]
     | .neg,.val false [⟨.int k,.pure,n⟩]=>(aiD .sub k 0 n).bind λ t=> .ret [.tm d t]
     |_,_=> .fail
   | .convert u t x=>bif adC E u&&NY E t then Q5 E s d x else match at_ E s x,intTy E u,intTy E t with
     | .val false [⟨.int _,.pure,n⟩],some _,some k=> .ret [.tm d (N7 k (k.wrap n))]
     |_,_,_=> .fail
   | .makeSlice t l c=>match E.ty t,tq E s l,tq E s c with
     |some ⟨_,[sh],_,_,some _⟩,some (_,l),some (_,c)=> .chk (decide (0<=l)&&decide (l<=c)&&decide (c<=(ay:Nat))) (match(bif tX E d then ahX sh l.toNat else afY sh l.toNat)with
      |some v=> .ret [.tm d (.val false [v])]
      |none=> .fail)
     |_,_,_=> .fail
   | .slice t x lo B M=>match M,LM E s lo,LM E s B with
     |none,some lo,some B=>(sliceT E s t x lo B).bind λ t=> .ret [.tm d t]
     |_,_,_=> .fail
   | .fieldAddr t x f=>match E.ty t with
     |some i=>match i.fields[f]?,at_ E s x with
      |some (off,_),.addr p=>bif i.ag&&CJ s p then .ret [.tm d (.addr (Oc p off))]else .fail
      |some (off,_),.paddr cs k=>bif i.ag then .ret [.tm d (.paddr cs (k+off))]else .fail
      |_,_=> .fail
     |none=> .fail
   | .indexAddr t x i=>match tq E s i with
     |some (_,i)=>(RF E s t x i).bind λ t=> .ret [.tm d t]
     |none=> .fail
   | .index t x i=>match at_ E s x,tq E s i,NY E t with
     | .val false [⟨.str,.pure,b⟩],some (_,i),true=> .idx (Yi b i) λ c=> .ret [.tm d (N7 .u8 c)]
     |_,_,_=> .fail
   | .field t x f=>match E.ty t with
     |some i=>match i.fields[f]?,i.ftys[f]?,at_ E s x with
      |some (off,n),some N,.val true cs=>match E.ty N with
       |some j=>bif i.ag&&bJ ((cs.drop off).take n)&&Nat.beq j.cells.length n&&Nat.ble (off+n) cs.length then .ret [.tm d (.val j.ag ((cs.drop off).take n))]else .fail
       |none=> .fail
      |_,_,_=> .fail
     |none=> .fail
   | .extract x i=>match at_ E s x with
     | .tup ts=>match ts[i]? with
       |some (ag,cs)=>bif bJ cs then .ret [.tm d (.val ag cs)]else match x with
        | .tmp n=> .ret [.keep n (.tup (ts.set i (ag,cs.map CV.left))),.tm d (.val ag cs)]
        |_=> .fail
       |none=> .fail
     |_=> .fail
   | .call c=>match c.callee,c.args.toList with
     | .builtin .len,[x]=>(JC E s x).bind λ cs=>match cs,c.argTypes.toList with
       | [e],[t]=>bif Gf E t e||(NY E t&&Sh.beq e.sh .str)||(ad8 E t&&e.sh.JR)then match lenOf e with
         |some l=> .ret [.tm d (N7 .i64 (l:Nat))]
         |none=> .fail else .fail
       |_,_=> .fail
     | .builtin .append,[x,y]=>(Ei E s x (ig E o.type)).bind λ(ag,cs,us)=>match cs with
       | [⟨.dl es,.own,l⟩]=>(Ei E (s.dX us) y []).bind λ(G,ds,I)=>match ag,G,ds,c.argTypes.toList with
         |false,false,[⟨.dl D,.own,m⟩],[t,u]=>bif Gf E t ⟨.dl es,.own,l⟩&&Gf E u ⟨.dl D,.own,m⟩then match jY ⟨.dl D,.own,m⟩ (.dl es)with
          |some m=> .chk (decide (List.length l+List.length m<=ay)) (.ret (us++I++[.tm d (.val false [⟨.dl es,.own,List.append l m⟩])]))
          |none=> .fail
          else .fail
         |_,_,_,_=> .fail
       |_=>(SB E s (s.dX us) y (ig E o.type)).bind λ ds=>match ag,cs,ds,c.argTypes.toList with
        |false,[q],[e],[t,u]=>bif Gf E t q&&Gf E u e then(air q e).bind λ r=>bif aiI E d then(ahx E (s.dX us) x d q r).bind λ A=> .ret (us++A)else .ret (us++[.tm d (.val false [r])])else .fail
        |_,_,_,_=> .fail
     | .builtin .copy,[x,y]=>(JC E s y).bind λ ds=>match ds,c.argTypes.toList,at_ E s x with
       | [e],[t,u],.rsub p _ lo B=>xX E s d t u e p lo (some B)
       | [e],[t,u],.ref p false 1=>xX E s d t u e p 0 none
       |_,_,_=> .fail
     | .builtin b,[x,y]=>match tq E s x,tq E s y with
       |some (k,x),some (O,y)=>match V4 b x y with
        |some z=>bif decide (k=O)then .ret [.tm d (N7 k z)]else .fail
        |none=> .fail
       |_,_=> .fail
     | .value f,K=>match at_ E s f with
       | .fn f=>bif Nat.beq (E.sig (E.spec d)).fn f then Nw E s d K [] (E.spec d)else .fail
       | .clo f ts=>bif Nat.beq (E.sig (E.spec d)).fn f then Nw E s d K ts (E.spec d)else .fail
       |_=> .fail
     |_,_=> .fail
   |_=> .fail
inductive Loc where
 |tm (n:Nat)|bx (n:Nat)
 |id (n:Nat)
 |bi (n:Nat)
 |bc (n i:Nat)
def Loc.same:Loc->Loc->Bool
 | .tm a,.tm b=>Nat.beq a b
 | .bx a,.bx b=>Nat.beq a b
 | .id a,.id b=>Nat.beq a b
 | .bi a,.bi b=>Nat.beq a b
 | .bc a i,.bc b j=>Nat.beq a b&&Nat.beq i j
 | .bx a,.bi b=>Nat.beq a b
 | .bi a,.bx b=>Nat.beq a b
 | .bx a,.bc b _=>Nat.beq a b
 | .bc a _,.bx b=>Nat.beq a b
 |_,_=>false
def Root.loc:Root->Loc| .tmp n=> .tm n| .box n=> .bx n
def T.loc:T->List Loc
 | .ref p _ _=>[p.root.loc]
 | .rsub p _ _ _=>[p.root.loc]
 | .addr p=>[p.root.loc]
 | .rowr p _ _=>[p.root.loc]
 | .addr2 p _ _=>[p.root.loc]
 | .ext p _ _=>[p.root.loc]
 |_=>[]
def T.uF:T->List Loc
 | .clo _ ts=>ts.flatMap T.loc
 |t=>t.loc
def rC (s:St):Operand->List Loc
 | .tmp t=> .tm t::(s.tm t).1.uF
 |_=>[]
def En (s:St) (t k:Nat):List Loc:=
 match(s.tm t).1 with
 | .addr p=>match p.root,p.sub with
   | .box n,none=> .tm t:: .bi n::(List.range (max k p.vers.length)).map λ i=> .bc n (p.cell+i)
   |_,_=> .tm t::(T.addr p).uF
 |x=> .tm t::x.uF
def UH (s:St) (t:Nat):List Loc:=
 match(s.tm t).1 with
 | .ref p ag k=>match p.root,p.sub with
   | .box n,none=> .tm t:: .bi n::(List.range (max k p.vers.length)).map λ i=> .bc n (p.cell+i)
   |_,_=> .tm t::(T.ref p ag k).uF
 |x=> .tm t::x.uF
def Y6 (d:Op):Option Nat:=match d with
 | .call c=>match c.callee,c.args.toList with
   | .builtin .len,[.tmp t]=>some t
   |_,_=>none
 |_=>none
def UR (E:Env) (s:St) (op:Op):List Loc:=
 match op with
 | .move (.tmp t)=>[.id t]
 | .load ty (.tmp t)=>En s t (ig E ty).length
 | .nilCheck (.tmp t)=>En s t 0
 | .fieldAddr _ (.tmp t) _=>En s t 0
 |op=>op.operands.toList.flatMap (rC s)
def RZ (E:Env) (s:St) (d:Op):List Loc:=
 match Y6 d with
 |some t=>UH s t
 |none=>UR E s d
def wJ (E:Env) (s:St) (o:Oper):List Loc:=RZ E s o.op++(match o.op,o.dst with| .alloc _,some d=>[.bx d]| .box _ _,some d=>[.bx d]|_,_=>[])
def KU:T->T->Bool
 | .val ag cs,.val e d=>(ag==e)&& !bJ cs&& !bJ d&&Nat.beq cs.length d.length
 |_,_=>false
def Upd.uF (s:St):Upd->List Loc
 | .tm n _=>[.tm n,.id n]
 | .keep n t=>bif KU (s.tm n).1 t then[.tm n]else[.tm n,.id n]
 | .bx n _=>[.bx n]
 | .cl n l=>l.map λ x=> .bc n x.1
def Dh:St->List Upd->List Loc
 |_,[]=>[]
 |s,u::us=>u.uF s++Dh (u.on s) us
def UC (us:List Upd):List Loc:=us.flatMap λ u=>match u with| .keep n _=>[.id n]|_=>[]
def meets (d e:List Loc):Bool:=d.any λ a=>e.any λ b=>a.same b
structure Em where
 r:List Loc
 w:List Loc
def Em.clash (a b:Em):Bool:=meets a.w (b.r++b.w)||meets b.w a.r
def yJ (d:List (List Nat)):List Edge->List Nat
 | []=>[]
 |e::es=>bif Region.binds .any e then e.on::(d.getD e.on []++yJ d es)else yJ d es
def Oe:List Oper->List (List Nat)->List (List Nat)
 | [],d=>d
 |o::os,d=>Oe os (d++[yJ d o.after.toList])
def ordered (ahead:List Nat) (f:Em):List Em->Nat->Bool
 | [],_=>true
 |g::d,i=>(!(Em.clash g f)||ahead.any (Nat.beq i))&&ordered ahead f d (i+1)
def guards (d:List Oper) (j:Nat):Bool:=d.any λ o=>match o.guard with|some (i,_)=>Nat.beq i j|none=>false
def WX (d:List Oper) (j:Nat):Option Tmp:=match d[j]? with|some o=>o.dst|none=>none
def DI (s:St) (d:Option Tmp):Option (Option Bool):=
 match d with
 |some d=>match(s.tm d).1 with
  | .val false [⟨.bool,.pure,b⟩]=>some (some b)
  | .undef=>some none
  |_=>none
 |none=>none
def splitAt {ρ:Type} (s:St) (d:Option Tmp) (k:St->Option ρ):Option ρ:=
 match d with
 |none=>k s
 |some d=>match s.tm d with
  |(.val false [⟨.bool,.pure,b⟩],v)=>
   bif b then k {s with tm:=put s.tm d (.val false [⟨.bool,.pure,true⟩],v)}else k {s with tm:=put s.tm d (.val false [⟨.bool,.pure,false⟩],v)}
  |_=>k s
def vS (o:Oper):List Upd:=match o.dst with|some d=>[.tm d .undef]|none=>[]
def KE (E:Env) (o:Oper):Bool:=match o.dst with|some d=> !(E.fix d)&&Nat.blt d E.nt|none=>true
def Ji (E:Env) (d:Bool) (all:List Oper) (l:List (List Nat)) {ρ:Type}:List Oper->Nat->List Em->St->(St->Option ρ)->Option ρ
 | [],_,_,s,k=>k s
 |o::os,j,m,s,k=>
  let e (us:List Upd) (f:Em):Option ρ:=
   bif KE E o&&(!d||ordered (l.getD j []) f m 0)then
    bif guards all j then splitAt (s.dX us) o.dst (λ s'=>Ji E d all l os (j+1) (m++[f]) s' k)
    else Ji E d all l os (j+1) (m++[f]) (s.dX us) k
   else none
  match o.guard with
  |none=>(plan E o s).runK λ us=>e us ⟨wJ E s o++UC us,Dh s us⟩
  |some (i,want)=>match DI s (WX all i),WX all i with
   |some (some b),some g=>bif b==want then(plan E o s).runK λ us=>e us ⟨.tm g::(wJ E s o++UC us),Dh s us⟩
    else e (vS o) ⟨[.tm g],Dh s (vS o)⟩
   |some none,some g=>e (vS o) ⟨[.tm g],Dh s (vS o)⟩
   |_,_=>none
def Ii:List Oper->Nat->Bool
 | [],_=>true
 |o::os,j=>(o.after.toList.all λ e=> !(Region.binds .any e)||Nat.blt e.on j)&&Ii os (j+1)
def Hq (E:Env) (e:List Oper) (d:Bool) {ρ:Type} (s:St) (k:St->Option ρ):Option ρ:=
 bif !d||Ii e 0 then Ji E d e (bif d then Oe e []else[]) e 0 [] s k else none
inductive JE where
 |tm (n:Nat) (ag:Bool) (cells:List (Sh×Tg))
 |bx (n:Nat) (cells:List (Sh×Tg))
 |adr (n:Nat) (root:Root) (cell:Nat)
 |rf (n:Nat) (root:Root) (cell:Nat) (ag:Bool) (len:Nat)
 |rs (n:Nat) (root:Root) (cell:Nat) (z:Bool)
 |fn (n:Nat) (f:FuncId)
 |clo (n:Nat) (f:FuncId) (caps:List (Root×Nat))
 |pad (n:Nat) (cells:List (Sh×Tg)) (off:Nat)
 |cpd (n:Nat) (f:FuncId) (cells:List (Sh×Tg))
def JE.cells:JE->List (Sh×Tg)
 | .tm _ _ cs=>cs
 | .bx _ cs=>cs
 | .pad _ cs _=>cs
 | .cpd _ _ cs=>cs
 | .rs _ _ _ _=>[(.int .i64,.pure),(.int .i64,.pure)]
 |_=>[]
abbrev J:=List JE
def J.cells (j:J):List (Sh×Tg):=j.flatMap JE.cells
abbrev J.V (j:J):Type:=ElA (J.cells j |>.map (·.1))
def Root.same:Root->Root->Bool
 | .tmp a,.tmp b=>Nat.beq a b
 | .box a,.box b=>Nat.beq a b
 |_,_=>false
def JE.tgt:JE->Loc
 | .tm n _ _=> .tm n
 | .bx n _=> .bx n
 | .adr n _ _=> .tm n
 | .rf n _ _ _ _=> .tm n
 | .rs n _ _ _=> .tm n
 | .fn n _=> .tm n
 | .clo n _ _=> .tm n
 | .pad n _ _=> .tm n
 | .cpd n _ _=> .tm n
def jOk:J->Bool
 | []=>true
 |e::j=>(j.all λ d=> !(e.tgt.same d.tgt))&&jOk j
def kZ (s:St):List T->List (Root×Nat)->Bool
 | [],[]=>true
 | .addr p::ts,(root,cell)::cs=>(match aB s root with
   |some (inst,_)=>Root.same p.root root&&Nat.beq p.cell cell&&Nat.beq p.inst inst&&(match p.sub with|none=>true|_=>false)
   |none=>false)&&kZ s ts cs
 |_,_=>false
def lV (s:St):JE->Option (LC)
 | .tm n ag want=>match(s.tm n).1 with
   | .val d cs=>bif ag==d then weaken cs want else none
   |_=>none
 | .bx n want=>match s.bx n with
   |some b=>weaken (b.cells.map (·.1)) want
   |none=>none
 | .adr n root cell=>match(s.tm n).1,aB s root with
   | .addr p,some (inst,_)=>bif Root.same p.root root&&Nat.beq p.cell cell&&Nat.beq p.inst inst&&(match p.sub with|none=>true|_=>false)then some []else none
   |_,_=>none
 | .rf n root cell ag len=>match(s.tm n).1 with
   | .ref p d e=>match bf s p len with
     |some _=>bif Root.same p.root root&&Nat.beq p.cell cell&&(ag==d)&&Nat.beq len e&&Nat.beq p.vers.length len&&(match p.sub with|none=>true|_=>false)then some []else none
     |none=>none
   |_=>none
 | .rs n root cell z=>match(s.tm n).1 with
   | .rsub p l lo m=>match bf s p 1 with
     |some _=>bif Root.same p.root root&&Nat.beq p.cell cell&&(z==l)&&Nat.beq p.vers.length 1&&(match p.sub with|none=>true|_=>false)then some [⟨.int .i64,.pure,(lo:Int)⟩,⟨.int .i64,.pure,(m:Int)⟩]else none
     |none=>none
   |_=>none
 | .fn n f=>match(s.tm n).1 with
   | .fn g=>bif Nat.beq f g then some []else none
   |_=>none
 | .clo n f i=>match(s.tm n).1 with
   | .clo g ts=>bif Nat.beq f g&&kZ s ts i then some []else none
   |_=>none
 | .pad n want off=>match(s.tm n).1 with
   | .paddr cs k=>bif Nat.beq off k then match weaken cs want with
     |some ds=>bif bJ ds then some ds else none
     |none=>none else none
   |_=>none
 | .cpd n f want=>match(s.tm n).1 with
   | .clo g [.paddr cs 0]=>bif Nat.beq f g then match weaken cs want with
     |some ds=>bif bJ ds then some ds else none
     |none=>none else none
   |_=>none
def packs (s:St):J->Option (LC)
 | []=>some []
 |e::j=>match lV s e,packs s j with
  |some cs,some ds=>some (cs++ds)
  |_,_=>none
def pack (j:J) (s:St):Option j.V:=match packs s j with|some cs=>iq _ cs|none=>none
def afa (E:Env) (s:St):Bool:=E.kept.all λ x=>match bf s ⟨.box x.1,0,[0],x.2,none⟩ 1 with|some _=>true|none=>false
def U0 (E:Env) (j:J) (s:St):Option j.V:=bif afa E s then pack j s else none
def af6 (c:CV):Nat:=match c with|⟨.int _,_,x⟩=>Int.toNat x|_=>0
def sN:St:=⟨λ _=>(.dead,0),λ _=>none⟩
def eG (s:St) (cs:LC):JE->St
 | .tm n ag _=>{s with tm:=put s.tm n (.val ag cs,0)}
 | .bx n _=>{s with bx:=put s.bx n (some ⟨0,cs.map λ c=>(c,0)⟩)}
 | .adr n root cell=>{s with tm:=put s.tm n (.addr ⟨root,0,[],cell,none⟩,0)}
 | .rf n root cell ag len=>{s with tm:=put s.tm n (.ref ⟨root,0,List.replicate len 0,cell,none⟩ ag len,0)}
 | .rs n root cell z=>match cs with
   | [a,b]=>{s with tm:=put s.tm n (.rsub ⟨root,0,[0],cell,none⟩ z (af6 a) (af6 b),0)}
   |_=>s
 | .fn n f=>{s with tm:=put s.tm n (.fn f,0)}
 | .clo n f d=>{s with tm:=put s.tm n (.clo f (d.map λ x=> .addr ⟨x.1,0,[],x.2,none⟩),0)}
 | .pad n _ off=>{s with tm:=put s.tm n (.paddr cs off,0)}
 | .cpd n f _=>{s with tm:=put s.tm n (.clo f [.paddr cs 0],0)}
def unpacks (s:St):LC->J->St
 |_,[]=>s
 |cs,e::j=>unpacks (eG s (cs.take e.cells.length) e) (cs.drop e.cells.length) j
def unpack (j:J) (x:j.V):St:=unpacks sN (retag (J.cells j) (cellsOf _ x)) j
inductive H where
 |o
 |s (a b:H)
 |j (j:J) (a:H)
 |jr (j:J) (a:H)
 |st (m:Nat) (a b:H)
inductive Ex where
 |normal|exit (id:Nat)|ret
def YR (E:Env) {ρ:Type} (j:J) (m:(Ex->St->Option j.V)->Option j.V) (k:Ex->St->Option ρ):Option ρ:=
 bif jOk j then(m λ e s=>match e with| .normal=>U0 E j s|_=>none).bind λ x=>k .normal (unpack j x)else none
def adT (E:Env) {ρ:Type} (j:J) (m:(Ex->St->Option (Sum j.V ρ))->Option (Sum j.V ρ)) (k:Ex->St->Option ρ):Option ρ:=
 bif jOk j then(m λ e s=>match e with
  | .normal=>(U0 E j s).bind λ x=>some (.inl x)
  |e=>(k e s).bind λ r=>some (.inr r)).bind λ r=>match r with
  | .inl x=>k .normal (unpack j x)
  | .inr r=>some r
 else none
def bK {α ρ:Type} (d:α->(α->Option ρ)->Option ρ):Nat->α->Option ρ
 |0,_=>none
 |n+1,x=>d x (bK d n)
def inBlock {ρ:Type} (id:Nat) (k:Ex->St->Option ρ):Ex->St->Option ρ
 | .exit i,s=>bif Nat.beq i id then k .normal s else k (.exit i) s
 |e,s=>k e s
def agV (s:St) (m:Nat):Dyn (List Upd):=
 match(s.tm m).1 with
 | .val false [⟨.dl es,.own,l⟩]=> .idx (oN l) λ d=> .ret [.tm m (.val false [⟨.sl es,.own,d⟩])]
 |_=> .fail
def ev (E:Env) (n:Nat):Code->H->{ρ:Type}->St->(Ex->St->Option ρ)->Option ρ
 | .skip,_,_,s,k=>k .normal s
 | .exit id,_,_,s,k=>k (.exit id) s
 | .ret,_,_,s,k=>k .ret s
 | .label _,_,_,s,k=>k .normal s
 | .scope c,h,_,s,k=>ev E n c h s k
 | .region _ i f,h,_,s,k=>match h with
   | .j j _=>YR E j (λ d=>Hq E i.toList f s (d .normal)) k
   |_=>Hq E i.toList f s (k .normal)
 | .seq a b,h,_,s,k=>match h with
   | .s q t=>ev E n a q s λ e s'=>match e with
     | .normal=>ev E n b t s' k
     |e=>k e s'
   | .st m q t=>ev E n a q s λ e s'=>match e with
     | .normal=>(agV s' m).runK λ us=>ev E n b t (s'.dX us) k
     |e=>k e s'
   |_=>none
 | .cond c x y,h,_,s,k=>match wH E s c,h with
   |some b,.s l p=>bif b then ev E n x l s k else ev E n y p s k
   |some b,.j j (.s l p)=>YR E j (λ d=>bif b then ev E n x l s d else ev E n y p s d) k
   |some b,.jr j (.s l p)=>adT E j (λ d=>bif b then ev E n x l s d else ev E n y p s d) k
   |_,_=>none
 | .block id c,h,_,s,k=>match h with
   | .s g _=>ev E n c g s (inBlock id k)
   | .j j g=>YR E j (λ d=>ev E n c g s (inBlock id d)) k
   | .jr j g=>adT E j (λ d=>ev E n c g s (inBlock id d)) k
   |_=>none
 | .loop c,h,ρ,s,k=>match h with
   | .j j g=>bif !(jOk j)then none else(U0 E j s).bind λ x=>bK (ρ:=ρ) (λ x rec=>ev E n c g (unpack j x) λ e s'=>match e with
     | .normal=>(U0 E j s').bind rec
     |e=>k e s') n x
   |_=>none
 |_,_,_,_,_=>none
def qG:List PK->Nat->LC->St->St
 | [],_,_,s=>s
 | .val ag want::ps,i,cs,s=>qG ps (i+1) (cs.drop want.length) {s with tm:=put s.tm i (.val ag (cs.take want.length),0)}
 | .ptr want::ps,i,cs,s=>qG ps (i+1) (cs.drop want.length)
  {tm:=put s.tm i (.addr ⟨.box i,0,[],0,none⟩,0),bx:=put s.bx i (some ⟨0,(cs.take want.length).map λ c=>(c,0)⟩)}
 | .rptr want::ps,i,cs,s=>qG ps (i+1) (cs.drop want.length) {s with tm:=put s.tm i (.paddr (cs.take want.length) 0,0)}
 | .fn f::ps,i,cs,s=>qG ps (i+1) cs {s with tm:=put s.tm i (.fn f,0)}
 | .io want::ps,i,cs,s=>qG ps (i+1) (cs.drop want.length) {s with tm:=put s.tm i (.val false (cs.take want.length),0)}
 | .clo f want::ps,i,cs,s=>qG ps (i+1) (cs.drop want.length) {s with tm:=put s.tm i (.clo f [.paddr (cs.take want.length) 0],0)}
def enter (g:Sig) (x:g.In):St:=qG g.params 0 (retag g.ins (cellsOf _ x)) sN
def uS (E:Env) (s:St):List ResultVar->List (Bool×List (Sh×Tg))->Option (LC×St)
 | [],[]=>some ([],s)
 | .tmp t::d,(ag,want)::rs=>match(KT s (s.tm t).1 (.tmp t) ag want).run with
   |some (cs,us)=>match uS E (s.dX us) d rs with
    |some (ds,s')=>some (cs++ds,s')
    |none=>none
   |none=>none
 | .cell t ty::d,(ag,want)::rs=>match(s.tm t).1,E.ty ty with
   | .addr p,some i=>match p.sub,bf s p want.length with
     |none,some cs=>bif (i.ag==ag)&&Nat.beq i.cells.length want.length&&(ag||EX cs)then
      match weaken cs want,jU s p (iL cs want) false with
      |some ds,some us=>match uS E (s.dX us) d rs with
       |some (e,s')=>some (ds++e,s')
       |none=>none
      |_,_=>none
      else none
     |_,_=>none
   |_,_=>none
 |_,_=>none
def asIs:LC->List (Sh×Tg)->Option (LC)
 | [],[]=>some []
 |c::cs,(sh,tg)::want=>bif Sh.beq c.sh sh&&Tg.le tg c.tg&&Tg.le c.tg tg then(asIs cs want).map (c:: ·)else none
 |_,_=>none
def sZ (s:St):List PK->Nat->Option (LC)
 | [],_=>some []
 | .val _ _::ps,i=>sZ s ps (i+1)
 | .rptr _::ps,i=>sZ s ps (i+1)
 | .fn _::ps,i=>sZ s ps (i+1)
 | .clo _ _::ps,i=>sZ s ps (i+1)
 | .io want::ps,i=>match(s.tm i).1,sZ s ps (i+1)with
   | .val false cs,some ds=>(asIs cs want).map (· ++ds)
   |_,_=>none
 | .ptr want::ps,i=>match(s.tm i).1,s.bx i,sZ s ps (i+1)with
   | .addr p,some b,some ds=>bif Nat.beq p.inst b.inst&&Root.same p.root (.box i)&&Nat.beq p.cell 0&&(match p.sub with|none=>true|_=>false)then(asIs (b.cells.map (·.1)) want).map (· ++ds)else none
   |_,_,_=>none
def leave (E:Env) (g:Sig) (rs:List ResultVar) (s:St):Option g.Out:=
 bif afa E s then match uS E s rs g.res with
 |some (cs,s')=>match sZ s' g.params 0 with
  |some ds=>iq _ (cs++ds)
  |none=>none
 |none=>none else none
def look (l:List (Nat×Nat)) (d:Nat):Nat:=match l with| []=>0|(a,b)::l=>bif Nat.beq a d then b else look l d
structure Spec where
 sig:Sig
 fn:Func
 h:H
 calls:List (Nat×Nat)
 ext:Option (sig.In->Option sig.Out)
structure Prg where
 ty:TypeId->Option TyI
 glob:Nat->Option (LC)
 spec:Nat->Spec
abbrev Prg.Fs (p:Prg):Type:=(i:Nat)->(p.spec i).sig.In->Option (p.spec i).sig.Out
def Prg.env (p:Prg) (i:Nat) (f:p.Fs):Env:=⟨(p.spec i).fn.ntmps,adK (p.spec i).sig.params,p.ty,p.glob,λ i=>(p.spec i).sig,look (p.spec i).calls,f,UD (p.spec i).sig.params 0⟩
def Prg.phi (p:Prg) (i:Nat) (n:Nat) (f:p.Fs) (x:(p.spec i).sig.In):Option (p.spec i).sig.Out:=
 match(p.spec i).ext with
 |some e=>e x
 |none=>ev (p.env i f) n ((p.spec i).fn.body.getD (.refuse "")) (p.spec i).h (enter (p.spec i).sig x) λ e s=>match e with
  | .exit _=>none
  |_=>leave (p.env i f) (p.spec i).sig (p.spec i).fn.results.toList s
def Prg.run (p:Prg):Nat->p.Fs
 |0=>λ _ _=>none
 |n+1=>λ i x=>p.phi i n (p.run n) x
end Go.AM
end
section
namespace Go.AM
open Go
abbrev Fz:=Nat->Nat->Prop
def O9 (w:World) (F:Fz) (ad:Addr) (cs:LV):Prop:=
 ∀j,j<cs.length->w.cell? ⟨ad.block,ad.off+j,none⟩=cs[j]? /\F ad.block (ad.off+j)
def fF {α:Type} (R:α->LV->Prop):List α->LV->Prop
 | [],cs=>cs= []
 |x::f,cs=> ∃d e,cs=d++e/\R x d/\fF R f e
def H8 (w:World) (F:Fz) (len:Nat) (d:LV->Prop) (v:Value):Prop:=
 ∃A c,v= .slice A len c/\len<=c/\(len=0\/ ∃ad cs,A=some ad/\ad.spot=none/\O9 w F ad cs/\d cs)
mutual
def qN {α:Type} (w:World) (F:Fz) (R:α->LV->Prop):RT α->LV->Prop
 | .mk a kids,cs=> ∃d v,cs=d++[v]/\R a d/\H8 w F kids.length (jG w F R kids) v
def jG {α:Type} (w:World) (F:Fz) (R:α->LV->Prop):List (RT α)->LV->Prop
 | [],cs=>cs= []
 |t::ts,cs=> ∃d e,cs=d++e/\qN w F R t d/\jG w F R ts e
end
mutual
def jL (w:World) (F:Fz):(sh:Sh)->El sh->Value->Prop
 | .int k,n,v=>v= .int k n
 | .bool,b,v=>v= .bool b
 | .str,b,v=>v= .string b
 | .sl es,l,v=>H8 w F (List.length l) (fF (dY w F es) l) v
 | .rsl ss,l,v=>H8 w F (List.length l) (jG w F (dY w F ss) l) v
 | .dl _,_,_=>False
 | .mp _ _,_,_=>False
def dY (w:World) (F:Fz):(es:List Sh)->ElA es->LV->Prop
 | [],_,cs=>cs= []
 |s::ss,x,cs=>match ss,x with
  | [],x=> ∃v,cs= [v]/\jL w F s x v
  |t::ts,x=> ∃v d,cs=v::d/\jL w F s x.1 v/\dY w F (t::ts) x.2 d
end
structure Keeps (w w':World) (F F':Fz):Prop where
 sub: ∀b o,F b o->F' b o
 cell: ∀b o,F b o->w'.cell? ⟨b,o,none⟩=w.cell? ⟨b,o,none⟩
theorem Keeps.refl (w:World) (F:Fz):Keeps w w F F:=⟨λ _ _ h=>h,λ _ _ _=>rfl⟩
theorem Keeps.trans {a b c:World} {F G H:Fz} (h:Keeps a b F G) (k:Keeps b c G H):Keeps a c F H:=
 ⟨λ x o f=>k.sub x o (h.sub x o f),λ x o f=>(k.cell x o (h.sub x o f)).trans (h.cell x o f)⟩
section
variable {w w':World} {F F':Fz}
theorem O9.keeps (k:Keeps w w' F F') {ad:Addr} {cs:LV} (h:O9 w F ad cs):O9 w' F' ad cs:=
 λ j d=>⟨(k.cell _ _ (h j d).2).trans (h j d).1,k.sub _ _ (h j d).2⟩
theorem fF.imp {α:Type} {R d:α->LV->Prop} (f: ∀x cs,R x cs->d x cs): ∀(l:List α) cs,fF R l cs->fF d l cs
 | [],_,h=>h
 |x::i,_,⟨k,g,e,m,p⟩=>⟨k,g,e,f _ _ m,fF.imp f i g p⟩
theorem H8.imp (k:Keeps w w' F F') {len:Nat} {e d:LV->Prop} (f: ∀cs,e cs->d cs) {v:Value} (h:H8 w F len e v):H8 w' F' len d v:=by
 obtain⟨A,c,hv,g,h⟩:=h;refine⟨A,c,hv,g,?_⟩;rcases h with h|⟨ad,cs,i,hs,l,h⟩
 ·exact .inl h
 ·exact .inr ⟨ad,cs,i,hs,l.keeps k,f _ h⟩
mutual
theorem qN.imp {α:Type} (k:Keeps w w' F F') {R d:α->LV->Prop} (f: ∀x cs,R x cs->d x cs): ∀(t:RT α) cs,qN w F R t cs->qN w' F' d t cs
 | .mk a kids,cs,h=>by
   unfold qN at h ⊢;obtain⟨g,v,e,i,l⟩:=h;exact⟨g,v,e,f _ _ i,l.imp k (λ cs h=>jG.imp k f kids cs h)⟩
theorem jG.imp {α:Type} (k:Keeps w w' F F') {R d:α->LV->Prop} (f: ∀x cs,R x cs->d x cs): ∀(ts:List (RT α)) cs,jG w F R ts cs->jG w' F' d ts cs
 | [],cs,h=>by unfold jG at h ⊢;exact h
 |t::ts,cs,h=>by
  unfold jG at h ⊢;obtain⟨g,i,e,l,m⟩:=h;exact⟨g,i,e,qN.imp k f t g l,jG.imp k f ts i m⟩
end
mutual
theorem jL.keeps (k:Keeps w w' F F'): ∀(sh:Sh) (x:El sh) v,jL w F sh x v->jL w' F' sh x v
 | .int _,_,_,h=>h
 | .bool,_,_,h=>h
 | .str,_,_,h=>h
 | .sl es,l,v,h=>by
   simp only[jL]at h ⊢;exact h.imp k (λ cs h=>fF.imp (λ x cs h=>dY.keeps k es x cs h) l cs h)
 | .rsl ss,l,v,h=>by
   simp only[jL]at h ⊢;exact h.imp k (λ cs h=>jG.imp k (λ x cs h=>dY.keeps k ss x cs h) l cs h)
 | .dl es,l,v,h=>by simp only[jL]at h
 | .mp _ _,l,v,h=>by simp only[jL]at h
theorem dY.keeps (k:Keeps w w' F F'): ∀(es:List Sh) (x:ElA es) cs,dY w F es x cs->dY w' F' es x cs
 | [],_,_,h=>h
 | [s],x,cs,h=>by
   simp only[dY]at h ⊢;obtain⟨v,e,h⟩:=h;exact⟨v,e,jL.keeps k s x v h⟩
 |s::t::ss,x,cs,h=>by
  simp only[dY]at h ⊢;obtain⟨v,c,e,d,f⟩:=h;exact⟨v,c,e,jL.keeps k s x.1 v d,dY.keeps k (t::ss) x.2 c f⟩
end
end
theorem dY.length {w:World} {F:Fz}: ∀(es:List Sh) (x:ElA es) cs,dY w F es x cs->cs.length=es.length
 | [],_,_,h=>by simp only[dY]at h;simp[h]
 | [s],x,cs,h=>by
   simp only[dY]at h;obtain⟨v,e,h⟩:=h;simp[e]
 |s::t::ss,x,cs,h=>by
  simp only[dY]at h;obtain⟨v,c,e,f,d⟩:=h;have:=dY.length (t::ss) x.2 c d;simp[e,this]
theorem qN.length {α:Type} {w:World} {F:Fz} {R:α->LV->Prop} {n:Nat} (d: ∀x cs,R x cs->cs.length=n) (t:RT α) (cs:LV) (h:qN w F R t cs):cs.length=n+1:=by
 cases t;unfold qN at h;obtain⟨g,v,e,f,i⟩:=h;simp[e,d _ _ f]
structure J7 {α:Type} (n:Nat) (R:α->LV->Prop) (L:List α->LV->Prop):Prop where
 len: ∀x cs,R x cs->cs.length=n
 nil: ∀cs,L [] cs ↔ cs= []
 cons: ∀x xs cs,L (x::xs) cs ↔ ∃c1 c2,cs=c1++c2/\R x c1/\L xs c2
theorem jX {w:World} {F:Fz} (es:List Sh):J7 es.length (dY w F es) (fF (dY w F es)):=
 ⟨dY.length es,λ _=>acd,λ _ _ _=>acd⟩
theorem kL {w:World} {F:Fz} (ss:List Sh):J7 (ss.length+1) (qN w F (dY w F ss)) (jG w F (dY w F ss)):=
 ⟨qN.length (dY.length ss),λ _=>by unfold jG;exact acd,λ _ _ _=>by conv=>lhs;unfold jG⟩
namespace J7
variable {α:Type} {n:Nat} {R:α->LV->Prop} {L:List α->LV->Prop}
theorem length (h:J7 n R L): ∀(l:List α) cs,L l cs->cs.length=l.length*n
 | [],cs,d=>by rw[(h.nil cs).1 d];simp
 |x::f,cs,d=>by
  obtain⟨g,i,e,k,m⟩:=(h.cons x f cs).1 d;have:=h.length f i m;have:=h.len x g k;simp[*,abO,acX]
theorem append (h:J7 n R L): ∀(l m:List α) cs ds,L l cs->L m ds->L (l++m) (cs++ds)
 | [],m,cs,ds,d,f=>by rw[(h.nil cs).1 d];exact f
 |x::g,m,cs,ds,d,f=>by
  obtain⟨k,i,e,p,q⟩:=(h.cons x g cs).1 d;exact(h.cons x (g++m) _).2 ⟨k,i++ds,by simp[e],p,h.append g m i ds q f⟩
theorem split (h:J7 n R L): ∀(l m:List α) cs,L (l++m) cs->L l (cs.take (l.length*n))/\L m (cs.drop (l.length*n))
 | [],m,cs,f=>by simp only[aci,Nat.zero_mul,acz,abA];exact⟨(h.nil _).2 rfl,f⟩
 |x::d,m,cs,f=>by
  obtain⟨g,i,e,k,q⟩:=(h.cons x (d++m) cs).1 f;have t:=h.len x g k;obtain⟨u,v⟩:=h.split d m i q;have p:(x::d).length*n=g.length+d.length*n:=by simp[t,abO,acX]
  refine⟨(h.cons x d _).2 ⟨g,i.take (d.length*n),?_,k,u⟩,?_⟩
  ·rw[p,e,acV];simp[aaJ]
  ·rw[p,e,List.drop_append,aa2 (by omega)];simpa using v
theorem take (h:J7 n R L) (l:List α) (cs:LV) (k:Nat) (e:L l cs):L (l.take k) (cs.take (k*n)):=by
 have:=(h.split (l.take k) (l.drop k) cs (by simpa using e)).1;by_cases f:k<=l.length
 ·simpa [abP f]using this
 ·have g:=h.length l cs e;have d:l.length<=k:=by omega
  rw[aaJ (l:=cs) (by rw[g];exact aaA _ d)];rw[aaJ d];exact e
theorem drop (h:J7 n R L) (l:List α) (cs:LV) (k:Nat) (e:L l cs):L (l.drop k) (cs.drop (k*n)):=by
 by_cases f:k<=l.length
 ·have:=(h.split (l.take k) (l.drop k) cs (by simpa using e)).2;simpa [abP f]using this
 ·have g:=h.length l cs e;have d:l.length<=k:=by omega
  rw[aa2 d,aa2 (by rw[g];exact aaA _ d)];exact(h.nil _).2 rfl
theorem get (h:J7 n R L) (l:List α) (cs:LV) (m:L l cs) (i:Nat) (x:α) (d:l[i]? =some x):R x ((cs.drop (i*n)).take n):=by
 have f:=h.drop l cs i m
 have g:i<l.length:=by
  rcases aaF i l.length with h|h
  ·exact h
  ·simp[aai h]at d
 have e:l.drop i=x::l.drop (i+1):=by
  rw[aaI g];simp[aac g]at d;rw[d]
 rw[e]at f;obtain⟨p,q,e,k,t⟩:=(h.cons _ _ _).1 f;rw[e,←h.len x p k];simpa using k
theorem set (h:J7 n R L) (l:List α) (cs:LV) (d:L l cs) (i:Nat) (e:i<l.length) (x:α) (ds:LV) (f:R x ds):L (l.set i x) (cs.take (i*n)++ds++cs.drop ((i+1)*n)):=by
 have g:=h.take l cs i d;have k:=h.drop l cs (i+1) d;rw[List.set_eq_take_append_cons_drop,if_pos e];have:=h.append _ _ _ _ g ((h.cons x (l.drop (i+1)) _).2 ⟨ds,_,rfl,f,k⟩);simpa using this
theorem imp {i:α->LV->Prop} {L':List α->LV->Prop} (h:J7 n R L) (d:J7 n i L') (k: ∀x cs,R x cs->i x cs): ∀(l:List α) cs,L l cs->L' l cs
 | [],cs,f=>(d.nil cs).2 ((h.nil cs).1 f)
 |x::g,cs,f=>by
  obtain⟨p,m,e,q,t⟩:=(h.cons x g cs).1 f;exact(d.cons x g cs).2 ⟨p,m,e,k _ _ q,h.imp d k g m t⟩
end J7
inductive aG where
 |tm (n i:Nat)|box (n:Nat)|cell (n i:Nat)|hand (i:Nat)
 deriving DecidableEq
structure Gh where
 at_:Nat->Nat
 own:Nat->Option aG
 F:Fz
def Sh.n:Sh->Nat
 | .sl es=>es.length
 | .rsl ss=>ss.length+1
 | .dl es=>es.length
 |_=>0
def aQ:(sh:Sh)->El sh->Nat
 | .sl _,l=>List.length l
 | .rsl _,l=>List.length l
 | .dl _,l=>List.length l
 |_,_=>0
def wB (w:World) (F:Fz):(sh:Sh)->El sh->LV->Prop
 | .sl es,l,cs=>fF (dY w F es) l cs
 | .rsl ss,l,cs=>jG w F (dY w F ss) l cs
 |_,_,_=>False
theorem yt {w:World} {F:Fz} {sh:Sh} (h:sh.qH=true) (x:El sh) (v:Value):jL w F sh x v ↔ H8 w F (aQ sh x) (wB w F sh x) v:=by
 cases sh<;>simp[Sh.qH]at h<;>simp only[jL,aQ]<;>exact acd
theorem fZ {sh:Sh} (h:sh.qH=true):sh.qO=true:=by cases sh<;>simp_all [Sh.qH,Sh.qO]
theorem Uz {sh:Sh} (h:sh.qO=true):sh.qH=true\/ ∃es,sh= .dl es:=by cases sh<;>simp_all [Sh.qH,Sh.qO]
theorem wB.keeps {w w':World} {F F':Fz} (k:Keeps w w' F F') {sh:Sh} {x:El sh} {cs:LV} (h:wB w F sh x cs):wB w' F' sh x cs:=by
 cases sh with
 |sl es=>exact fF.imp (λ x cs h=>dY.keeps k es x cs h) x cs h
 |rsl ss=>exact jG.imp k (λ x cs h=>dY.keeps k ss x cs h) x cs h
 |_=>exact h
theorem wB.length {w:World} {F:Fz} {sh:Sh} {x:El sh} {cs:LV} (h:wB w F sh x cs):cs.length=aQ sh x*sh.n:=by
 cases sh with
 |sl es=>exact(jX (w:=w) (F:=F) es).length x cs h
 |rsl ss=>exact(kL (w:=w) (F:=F) ss).length x cs h
 |_=>exact h.elim
def wO (w:World) (g:Gh) (ow:aG) (d:Bool) (sh:Sh) (x:El sh) (v:Value):Prop:=
 (v= .slice none 0 0/\aQ sh x=0)\/
 ∃b c cur e,v= .slice (some ⟨b,0,none⟩) (aQ sh x) c/\aQ sh x<=c/\c<=maxLen/\g.own b=some ow/\w.heap[b]? =some (.cells cur e (0,0))/\
  cur.size=c*sh.n/\wB w g.F sh x (cur.toList.take (aQ sh x*sh.n))/\(∀o,g.F b o ↔ (d=true/\o<aQ sh x*sh.n))
def blk:Value->Option Nat
 | .slice (some ad) _ _=>some ad.block
 |_=>none
def rZ (w:World) (g:Gh) (ow:aG) (B:Option Nat) (sh:Sh) (x:El sh) (v:Value):Prop:=
 if sh.qO then sh.qH=true/\wO w g ow false sh x v/\blk v=B else jL w g.F sh x v
def XV (w:World) (g:Gh) (ow:aG) (B:Nat->Option Nat) (es:List Sh) (x:ElA es) (cs:LV):Prop:=
 cs.length=es.length/\ ∀(k:Nat) (c:CV) (v:Value),(cellsOf es x)[k]? =some c->cs[k]? =some v->rZ w g ow (B k) c.sh c.x v
def jq (w:World) (g:Gh) (ow:aG) (b:Nat) (es:List Sh) (l:List (Option (ElA es))) (cs:LV):Prop:=
 cs.length=l.length*es.length/\ ∃B:Nat->Option Nat,(∀k,B k≠some b)/\(∀i j x,B i=some x->B j=some x->i=j)/\
  ∀i x,l[i]? =some (some x)->XV w g ow (λ j=>B (i*es.length+j)) es x ((cs.drop (i*es.length)).take es.length)
def WM (w:World) (g:Gh) (ow:aG) (b:Nat) (d:Bool):(sh:Sh)->El sh->LV->Prop
 | .dl es,l,cs=>(d=false/\ ∀u,u∈cs->u.oneCell'=true)/\jq w g ow b es l cs
 |sh,x,cs=>wB w g.F sh x cs
def zq (w:World) (g:Gh) (ow:aG) (d:Bool) (sh:Sh) (x:El sh) (v:Value):Prop:=
 (v= .slice none 0 0/\aQ sh x=0)\/
 ∃b c cur e,v= .slice (some ⟨b,0,none⟩) (aQ sh x) c/\aQ sh x<=c/\c<=maxLen/\g.own b=some ow/\w.heap[b]? =some (.cells cur e (0,0))/\
  cur.size=c*sh.n/\WM w g ow b d sh x (cur.toList.take (aQ sh x*sh.n))/\(∀o,g.F b o ↔ (d=true/\o<aQ sh x*sh.n))
theorem qY {w:World} {g:Gh} {ow:aG} {b:Nat} {d:Bool} {sh:Sh} (h:sh.qH=true) {x:El sh} {cs:LV}:WM w g ow b d sh x cs ↔ wB w g.F sh x cs:=by
 cases sh<;>first|exact acd|simp[Sh.qH]at h
theorem o8 {w:World} {g:Gh} {ow:aG} {d:Bool} {sh:Sh} (h:sh.qH=true) {x:El sh} {v:Value}:zq w g ow d sh x v ↔ wO w g ow d sh x v:=by
 cases sh<;>first|exact acd|simp[Sh.qH]at h
theorem WM.length {w:World} {g:Gh} {ow:aG} {b:Nat} {d:Bool} {sh:Sh} {x:El sh} {cs:LV} (h:WM w g ow b d sh x cs):cs.length=aQ sh x*sh.n:=by
 cases sh with
 |dl es=>exact h.2.1
 |sl es=>exact wB.length (sh:= .sl es) h
 |rsl es=>exact wB.length (sh:= .rsl es) h
 |_=>exact h.elim
structure Fr (K:aG->Prop) (w w':World) (g g':Gh):Prop where
 keeps:Keeps w w' g.F g'.F
 own: ∀b ow,K ow->g.own b=some ow->g'.own b=some ow/\w'.heap[b]? =w.heap[b]? /\ ∀o,g'.F b o->g.F b o
theorem Fr.refl (K:aG->Prop) (w:World) (g:Gh):Fr K w w g g:=⟨Keeps.refl _ _,λ _ _ _ h=>⟨h,rfl,λ _ h=>h⟩⟩
theorem Fr.trans {K:aG->Prop} {a b c:World} {g h i:Gh} (x:Fr K a b g h) (y:Fr K b c h i):Fr K a c g i:=
 ⟨x.keeps.trans y.keeps,λ d ow k e=>by
  obtain⟨f,l,m⟩:=x.own d ow k e;obtain⟨p,q,t⟩:=y.own d ow k f;exact⟨p,q.trans l,λ o h=>m o (t o h)⟩⟩
theorem Fr.mono {K K':aG->Prop} {w w':World} {g g':Gh} (h:Fr K w w' g g') (d: ∀o,K' o->K o):Fr K' w w' g g':=
 ⟨h.keeps,λ b ow k e=>h.own b ow (d ow k) e⟩
def scV:(s:Sh)->El s->Value
 | .int k,n=> .int k n
 | .bool,b=> .bool b
 | .str,b=> .string b
 |_,_=> .bool false
def afn (w:World) (b:Nat) (k e:Sh) (l:List (El k×El e)):Prop:=
 ∃es d,w.heap[b]? =some (.map es d)/\es.toList.map (λ q=>(q.key,q.val))=l.map λ p=>(scV k p.1,scV e p.2)
def Ud (w:World) (g:Gh) (ow:aG):(sh:Sh)->El sh->Value->Prop
 | .mp k e,x,v=>(v= .map none/\x=none)\/ ∃b l,x=some l/\v= .map (some b)/\g.own b=some ow/\afn w b k e l/\ ∀o,¬g.F b o
 |_,_,_=>False
theorem Ud.fr {K:aG->Prop} {w w':World} {g g':Gh} (f:Fr K w w' g g') {ow:aG} (d:K ow) {sh:Sh} {x:El sh} {v:Value} (h:Ud w g ow sh x v):Ud w' g' ow sh x v:=by
 cases sh with
 |mp k e=>
  rcases h with h|⟨b,l,i,hv,m,⟨es,c,p,q⟩,t⟩
  ·exact .inl h
  ·obtain⟨u,y,z⟩:=f.own b ow d m;exact .inr ⟨b,l,i,hv,u,⟨es,c,y.trans p,q⟩,λ o h=>t o (z o h)⟩
 |_=>exact h.elim
theorem Ud.mp {w:World} {g:Gh} {ow:aG} {sh:Sh} {x:El sh} {v:Value} (h:Ud w g ow sh x v):sh.JR=true/\sh.qO=false/\(match v with| .agg _=>true|_=>false)=false/\v.oneCell'=true:=by
 cases sh with
 |mp k e=>rcases h with⟨rfl,_⟩|⟨b,l,d,rfl,_⟩<;>exact⟨rfl,rfl,rfl,rfl⟩
 |_=>exact h.elim
def jZ (w:World) (g:Gh) (ow:aG) (c:CV) (v:Value):Prop:=
 match c.tg with
 | .dead=>True
 | .pure=>jL w g.F c.sh c.x v
 | .own=>if c.sh.qO then zq w g ow false c.sh c.x v else if c.sh.JR then Ud w g ow c.sh c.x v else jL w g.F c.sh c.x v
 | .tip=>if c.sh.qO then zq w g ow true c.sh c.x v else jL w g.F c.sh c.x v
theorem wO.fr {K:aG->Prop} {w w':World} {g g':Gh} (f:Fr K w w' g g') {ow:aG} (i:K ow) {d:Bool} {sh:Sh} {x:El sh} {v:Value} (h:wO w g ow d sh x v):wO w' g' ow d sh x v:=by
 rcases h with h|⟨b,c,cur,k,hv,l,m,p,q,hs,t,e⟩
 ·exact .inl h
 ·obtain⟨u,y,z⟩:=f.own b ow i p;refine .inr ⟨b,c,cur,k,hv,l,m,u,y.trans q,hs,t.keeps f.keeps,λ o=>⟨λ h=>(e o).1 (z o h),λ h=>f.keeps.sub _ _ ((e o).2 h)⟩⟩
theorem rZ.imp {w w':World} {g g':Gh} {ow ow':aG} (d:Keeps w w' g.F g'.F) {B:Option Nat} {sh:Sh} {x:El sh} {v:Value} (e:B=blk v-> ∀x,wO w g ow false sh x v->wO w' g' ow' false sh x v) (h:rZ w g ow B sh x v):rZ w' g' ow' B sh x v:=by
 unfold rZ at h ⊢;split
 ·rename_i hs;rw[if_pos hs]at h;exact⟨h.1,e h.2.2.symm x h.2.1,h.2.2⟩
 ·rename_i hs;rw[if_neg hs]at h;exact jL.keeps d _ _ _ h
theorem XV.imp {w w':World} {g g':Gh} {ow ow':aG} (d:Keeps w w' g.F g'.F) {B:Nat->Option Nat} {es:List Sh} {x:ElA es} {cs:LV}
 (e: ∀k sh v,k<es.length->B k=blk v-> ∀x,wO w g ow false sh x v->wO w' g' ow' false sh x v) (h:XV w g ow B es x cs):XV w' g' ow' B es x cs:=
 ⟨h.1,λ k c v f hv=>(h.2 k c v f hv).imp d (e k c.sh v (by
  rw[←h.1];rcases aaF k cs.length with h|h
  ·exact h
  ·simp[aai h]at hv))⟩
theorem jq.imp {w w':World} {g g':Gh} {ow ow':aG} (f:Keeps w w' g.F g'.F) {b:Nat} {es:List Sh} {l:List (Option (ElA es))} {cs:LV} (m: ∀sh x v,blk v≠some b->wO w g ow false sh x v->wO w' g' ow' false sh x v) (h:jq w g ow b es l cs):jq w' g' ow' b es l cs:=by
 obtain⟨p,B,d,q,t⟩:=h;exact⟨p,B,d,q,λ i x u=>XV.imp f (λ k sh v _ e=>λ x=>m sh x v (by rw[←e];exact d _)) (t i x u)⟩
theorem wO.owner {w:World} {g g':Gh} {ow ow':aG} {d:Bool} {sh:Sh} {x:El sh} {v:Value} (hF:g'.F=g.F) (e: ∀b,blk v=some b->g'.own b=some ow') (h:wO w g ow d sh x v):wO w g' ow' d sh x v:=by
 rcases h with h|⟨b,c,cur,f,hv,i,k,q,l,hs,m,p⟩
 ·exact .inl h
 ·exact .inr ⟨b,c,cur,f,hv,i,k,e b (by rw[hv];rfl),l,hs,by rw[hF];exact m,by rw[hF];exact p⟩
theorem wO.one {w:World} {g:Gh} {ow:aG} {d:Bool} {sh:Sh} {x:El sh} {v:Value} (h:wO w g ow d sh x v):v.oneCell'=true:=by
 rcases h with⟨rfl,_⟩|⟨_,_,_,_,rfl,_⟩<;>rfl
theorem wO.nD {w:World} {g:Gh} {ow:aG} {d:Bool} {sh:Sh} {x:El sh} {v:Value} (h:wO w g ow d sh x v) {b:Nat} (e:blk v=some b):g.own b=some ow:=by
 rcases h with⟨rfl,_⟩|⟨i,c,cur,k,rfl,l,m,f,_⟩
 ·cases e
 ·cases e;exact f
theorem WM.fr {K:aG->Prop} {w w':World} {g g':Gh} (f:Fr K w w' g g') {ow:aG} (e:K ow) {b:Nat} {d:Bool} {sh:Sh} {x:El sh} {cs:LV} (h:WM w g ow b d sh x cs):WM w' g' ow b d sh x cs:=by
 cases sh with
 |dl es=>exact⟨h.1,h.2.imp f.keeps λ sh x v _=>wO.fr f e⟩
 |sl es=>exact wB.keeps (sh:= .sl es) f.keeps h
 |rsl es=>exact wB.keeps (sh:= .rsl es) f.keeps h
 |_=>exact h.elim
theorem zq.fr {K:aG->Prop} {w w':World} {g g':Gh} (f:Fr K w w' g g') {ow:aG} (e:K ow) {d:Bool} {sh:Sh} {x:El sh} {v:Value} (h:zq w g ow d sh x v):zq w' g' ow d sh x v:=by
 rcases h with h|⟨b,c,cur,k,hv,l,m,p,q,hs,t,i⟩
 ·exact .inl h
 ·obtain⟨u,y,z⟩:=f.own b ow e p;refine .inr ⟨b,c,cur,k,hv,l,m,u,y.trans q,hs,t.fr f e,λ o=>⟨λ h=>(i o).1 (z o h),λ h=>f.keeps.sub _ _ ((i o).2 h)⟩⟩
theorem jZ.fr {K:aG->Prop} {w w':World} {g g':Gh} (f:Fr K w w' g g') {ow:aG} (d:K ow) {c:CV} {v:Value} (h:jZ w g ow c v):jZ w' g' ow c v:=by
 unfold jZ at h ⊢;split
 ·trivial
 ·rename_i e;rw[e]at h;exact jL.keeps f.keeps _ _ _ h
 ·rename_i e;rw[e]at h;simp only at h ⊢;split
  ·rename_i hs;rw[if_pos hs]at h;exact h.fr f d
  ·rename_i hs;rw[if_neg hs]at h;split
   ·rename_i i;rw[if_pos i]at h;exact h.fr f d
   ·rename_i i;rw[if_neg i]at h;exact jL.keeps f.keeps _ _ _ h
 ·rename_i e;rw[e]at h;simp only at h ⊢;split
  ·rename_i hs;rw[if_pos hs]at h;exact h.fr f d
  ·rename_i hs;rw[if_neg hs]at h;exact jL.keeps f.keeps _ _ _ h
theorem jZ.pure {w w':World} {g g':Gh} (k:Keeps w w' g.F g'.F) {ow ow':aG} {c:CV} {v:Value} (d:c.isPure=true) (h:jZ w g ow c v):jZ w' g' ow' c v:=by
 have e:c.tg= .pure:=by unfold CV.isPure Tg.isPure at d;split at d<;>simp_all
 unfold jZ at h ⊢;rw[e]at h ⊢;exact jL.keeps k _ _ _ h
def aF (w:World) (g:Gh) (mk:Nat->aG):Nat->LC->LV->Prop
 |_,[],d=>d= []
 |i,c::cs,d=> ∃v e,d=v::e/\jZ w g (mk i) c v/\aF w g mk (i+1) cs e
theorem aF.length {w:World} {g:Gh} {mk:Nat->aG}: ∀(cs:LC) (i:Nat) (d:LV),aF w g mk i cs d->d.length=cs.length
 | [],_,_,h=>by simp only[aF]at h;simp[h]
 |c::cs,i,_,⟨v,f,e,_,h⟩=>by simp[e,aF.length cs (i+1) f h]
theorem aF.fr {K:aG->Prop} {w w':World} {g g':Gh} (f:Fr K w w' g g') {mk:Nat->aG}: ∀(cs:LC) (i:Nat) (d:LV),(∀j,K (mk j))->aF w g mk i cs d->aF w' g' mk i cs d
 | [],_,_,_,h=>h
 |c::cs,i,_,k,⟨v,l,e,m,h⟩=>⟨v,l,e,m.fr f (k i),aF.fr f cs (i+1) l k h⟩
theorem aF.get {w:World} {g:Gh} {mk:Nat->aG}: ∀(cs:LC) (i:Nat) (k:LV),aF w g mk i cs k-> ∀j c,cs[j]? =some c-> ∃v,k[j]? =some v/\jZ w g (mk (i+j)) c v
 | [],_,_,_,j,c,p=>by simp at p
 |c::cs,i,_,⟨v,l,e,m,h⟩,0,d,f=>by
  simp at f;subst f;exact⟨v,by simp[e],m⟩
 |c::cs,i,_,⟨v,l,e,m,h⟩,j+1,d,f=>by
  obtain⟨u,q,t⟩:=aF.get cs (i+1) l h j d (by simpa using f);exact⟨u,by simpa [e]using q,by rw[show i+(j+1)=i+1+j by omega];exact t⟩
theorem aF.of {w:World} {g:Gh} {mk:Nat->aG}: ∀(cs:LC) (i:Nat) (e:LV),e.length=cs.length->(∀j c v,cs[j]? =some c->e[j]? =some v->jZ w g (mk (i+j)) c v)->aF w g mk i cs e
 | [],_,e,f,_=>by simpa [aF]using f
 |c::cs,i,[],f,_=>by simp at f
 |c::cs,i,v::e,f,h=>⟨v,e,rfl,by simpa using h 0 c v rfl rfl,aF.of cs (i+1) e (by simpa using f) λ j d u k l=>by
  have:=h (j+1) d u (by simpa using k) (by simpa using l)
  rwa [show i+(j+1)=i+1+j by omega]at this⟩
theorem aF.append {w:World} {g:Gh} {mk:Nat->aG}: ∀(cs:LC) (i:Nat) (d:LV) (ds:LC) (us:LV),aF w g mk i cs d->aF w g mk (i+cs.length) ds us->aF w g mk i (cs++ds) (d++us)
 | [],_,_,_,_,h,k=>by simp only[aF]at h;subst h;simpa using k
 |c::cs,i,_,ds,us,⟨v,f,e,l,h⟩,k=>⟨v,f++us,by simp[e],l,aF.append cs (i+1) f ds us h (by rw[show i+1+cs.length=i+(c::cs).length by simp;omega];exact k)⟩
end Go.AM
end
section
namespace Go.AM
open Go
def isAgg:Value->Bool| .agg _=>true|_=>false
def aC (a:Act) (w:World) (g:Gh):Root->LV
 | .tmp n=>(a.eval (.tmp n)).cells.toList
 | .box n=>match w.heap[g.at_ n]? with
   |some (.cells cur _ _)=>cur.toList
   |_=>[]
def rH (s:St):Root->Nat
 | .tmp n=>(s.tm n).2
 | .box n=>match s.bx n with|some b=>b.inst|none=>0
structure Old (s:St) (p:Pl):Prop where
 inst:p.inst<=rH s p.root
 vers: ∀n b,p.root= .box n->s.bx n=some b->p.inst=b.inst-> ∀(i x:Nat) (c:CV) (v:Nat),p.vers[i]? =some x->b.cells[p.cell+i]? =some (c,v)->x<=v
def EO (w:World) (g:Gh) (mk:Nat->aG) (i:Nat) (ag:Bool) (cs:LC) (v:Value):Prop:=
 isAgg v=ag/\aF w g mk i cs v.cells.toList
def mF (w:World) (g:Gh) (mk:Nat->aG):Nat->List (Bool×LC)->LV->Prop
 |_,[],d=>d= []
 |i,(ag,cs)::ts,d=> ∃v e,d=v::e/\EO w g mk i ag cs v/\mF w g mk (i+cs.length) ts e
def Dc (A:Option Addr) (c lo d n:Nat):Value:= .slice (if c=lo then A else A.map (·.add (lo*n))) (d-lo) (c-lo)
def QU (s:St) (a:Act) (w:World) (g:Gh) (p:Pl) (d:List Sh->Nat->Nat->LV->Prop):Prop:=
 ∃i j,p.sub=some (i,j)/\ ∀es l,bf s p 1=some [⟨.dl es,.own,l⟩]->
  ∃b len k cur e f,(aC a w g p.root)[p.cell]? =some (.slice (some ⟨b,0,none⟩) len k)/\i<len/\w.heap[b]? =some (.cells cur e f)/\d es i j cur.toList
def Row1 (v:Value) (ag:Bool) (m:Nat) (es:List Sh) (i j:Nat) (cs:LV):Prop:=isAgg v=ag/\v.cells.toList=(cs.drop (i*es.length+j)).take m
def ajG (v:Value) (k q:Nat) (es:List Sh) (i j:Nat) (cs:LV):Prop:=
 ∃d e f sh,es[j]? =some sh/\cs[i*es.length+j]? =some (.slice (some ⟨d,0,none⟩) e f)/\k<e/\v= .pointer (some ⟨d,k*sh.n+q,none⟩)
def ahh (w:World) (g:Gh) (ow:aG) (q:CV) (v u:Value):Prop:=
 (∃b k l,u= .slice (some ⟨b,0,none⟩) (aQ q.sh q.x) k/\v= .slice (some ⟨b,0,none⟩) l k)\/wO w g ow false q.sh q.x u
theorem ahh.fr {K:aG->Prop} {w w':World} {g g':Gh} (f:Fr K w w' g g') {ow:aG} (d:K ow) {q:CV} {v u:Value} (h:ahh w g ow q v u):ahh w' g' ow q v u:=
 h.imp id λ h=>h.fr f d
def TV0 (s:St) (a:Act) (w:World) (g:Gh) (mk:Nat->aG):T->Value->Prop
 | .dead,_=>True
 | .undef,v=>v=undef
 | .nilc,_=>False
 | .val ag cs,v=>EO w g mk 0 ag cs v
 | .ref p ag m,v=>Old s p/\p.vers.length=m/\p.sub=none/\ ∀cs,bf s p m=some cs->isAgg v=ag/\v.cells.toList=((aC a w g p.root).drop p.cell).take m
 | .rsub p z lo t,v=>Old s p/\p.vers.length=1/\p.sub=none/\(z=true->lo=0)/\ ∀c,bf s p 1=some [c]->
  ∃A l k,(aC a w g p.root)[p.cell]? =some (.slice A l k)/\lo<=t/\t<=l/\l<=k/\v=Dc A k lo t c.sh.n
 | .addr p,v=>Old s p/\match p.sub with
  |none=> ∃n,p.root= .box n/\ ∀b,s.bx n=some b->b.inst=p.inst->v= .pointer (some ⟨g.at_ n,p.cell,none⟩)
  |some (i,j)=>p.vers.length=1/\ ∀c,bf s p 1=some [c]->
   ∃b l k,(aC a w g p.root)[p.cell]? =some (.slice (some ⟨b,0,none⟩) l k)/\i<l/\v= .pointer (some ⟨b,i*c.sh.n+j,none⟩)
 | .rowr p ag m,v=>Old s p/\p.vers.length=1/\QU s a w g p (Row1 v ag m)
 | .addr2 p k q,v=>Old s p/\p.vers.length=1/\QU s a w g p (ajG v k q)
 | .paddr cs off,v=> ∃(ad:Addr) (d:LV),v= .pointer (some ⟨ad.block,ad.off+off,none⟩)/\O9 w g.F ad d/\bJ cs=true/\aF w g mk 0 cs d
 | .tup ts,v=> ∃d,v= .tuple d.toArray/\mF w g mk 0 ts d
 | .fn f,v=>v= .func (.func f) #[] #[]
 | .clo _ _,_=>False
 | .ext p q c,v=>Old s p/\p.vers.length=1/\p.sub=none/\isAgg v=false/\jZ w g (mk 0) c v/\YB q.sh=true/\q.tg= .own/\c.sh=q.sh/\
  ∀e,bf s p 1=some [e]-> ∃u,(aC a w g p.root)[p.cell]? =some u/\ahh w g (mk 1) q v u
def oI (s:St) (a:Act) (w:World) (g:Gh) (mk:Nat->aG):List T->LV->Prop
 | [],d=>d= []
 |t::ts,d=> ∃v e,d=v::e/\(match t with| .addr _=>True| .paddr _ _=>True|_=>False)/\TV0 s a w g mk t v/\oI s a w g mk ts e
def TV (s:St) (a:Act) (w:World) (g:Gh) (mk:Nat->aG) (t:T) (v:Value):Prop:=
 match t with
 | .clo f ts=> ∃d,v= .func (.func f) #[] d.toArray/\oI s a w g mk ts d
 |t=>TV0 s a w g mk t v
def EL (w:World) (g:Gh) (n:Nat) (b:Bx):Prop:=
 ∃cur d,w.heap[g.at_ n]? =some (.cells cur d (0,0))/\g.own (g.at_ n)=some (.box n)/\(∀o,¬g.F (g.at_ n) o)/\aF w g (.cell n) 0 (b.cells.map (·.1)) cur.toList
structure Base (w0:World) (F0:Fz) (X:Nat->Prop) (w:World) (g:Gh):Prop where
 os:w.os=w0.os
 tape:w.tape=w0.tape
 output:w.output=w0.output
 size:w0.heap.size<=w.heap.size
 blk: ∀b,b<w0.heap.size-> ¬X b->w.heap[b]? =w0.heap[b]?
 own: ∀b ow,g.own b=some ow->(X b\/w0.heap.size<=b)/\b<w.heap.size
 keeps:Keeps w0 w F0 g.F
 fz: ∀b o,g.F b o->(F0 b o\/X b\/w0.heap.size<=b)/\b<w.heap.size
 frz: ∀b ow cs t f,g.own b=some ow->w.heap[b]? =some (.cells cs t f)->f=(0,0)
structure Ctx where
 w0:World
 F0:Fz
 X:Nat->Prop
 par:Nat->Option Value
 kept:Nat->Nat->Option Value
def KeptAt (s:St) (a:Act) (w:World) (g:Gh) (n j:Nat) (v:Value):Prop:= ∀cs,bf s ⟨.box n,0,[0],j,none⟩ 1=some cs->(aC a w g (.box n))[j]? =some v
def DOk (E:Env) (d:Nat):Prop:=E.fix d=false/\d<E.nt
structure Rel (E:Env) (C:Ctx) (s:St) (a:Act) (w:World) (g:Gh):Prop where
 tm: ∀n,TV s a w g (.tm n) (s.tm n).1 (a.eval (.tmp n))
 bx: ∀n b,s.bx n=some b->EL w g n b
 size:a.tmps.size=E.nt
 defers:a.defers= []
 glob: ∀gl cs,E.glob gl=some cs->bJ cs=true/\ ∃vs,O9 w g.F ⟨gl,0,none⟩ vs/\aF w g .hand 0 cs vs
 base:Base C.w0 C.F0 C.X w g
 par: ∀n v,C.par n=some v->E.fix n=true->a.eval (.tmp n)=v
 aux: ∀n j v,C.kept n j=some v->(n,j)∈E.kept/\KeptAt s a w g n j v
theorem bH {α:Type} (f:Nat->α) (n:Nat) (v:α):put f n v n=v:=by simp[put]
theorem bM {α:Type} (f:Nat->α) (n:Nat) (v:α) {m:Nat} (h:m≠n):put f n v m=f m:=by
 have:Nat.beq m n=false:=by
  rw[←ab7];intro d;exact h (aao d)
 simp[put,this]
theorem eval_put_same (a:Act) (d:Nat) (v:Value) (h:d<a.tmps.size):(a.put (some d) v).eval (.tmp d)=v:=by
 simp[Act.put,Act.eval,h]
theorem yL (a:Act) (d:Nat) (v:Value) {n:Nat} (h:n≠d):(a.put (some d) v).eval (.tmp n)=a.eval (.tmp n):=by
 simp only[Act.put,Act.eval,abg,Array.getElem?_setIfInBounds];rw[if_neg (λ e=>h e.symm)]
theorem size_put (a:Act) (d:Option Tmp) (v:Value):(a.put d v).tmps.size=a.tmps.size:=by cases d<;>simp[Act.put]
theorem WW (a:Act) (d:Option Tmp) (v:Value):(a.put d v).defers=a.defers:=by cases d<;>rfl
theorem Iz {d:CV} {cs:LC} (h: [d].map CV.sh=cs.map CV.sh): ∃c,cs= [c]/\d.sh=c.sh:=by
 match cs,h with
 | [],h=>simp at h
 | [c],h=>exact⟨c,rfl,by simpa using h⟩
 |_::_::_,h=>simp at h
structure EN (s s':St) (a a':Act) (w w':World) (g g':Gh) (r:Root):Prop where
 old: ∀p,p.root=r->Old s p->Old s' p
 cells: ∀p m cs',p.root=r->Old s p->p.vers.length=m->bf s' p m=some cs'->
  ∃cs,bf s p m=some cs/\cs'.map CV.sh=cs.map CV.sh/\((aC a' w' g' r).drop p.cell).take m=((aC a w g r).drop p.cell).take m
 at_: ∀n b' p,r= .box n->s'.bx n=some b'->p.root=r->Old s p->b'.inst=p.inst-> ∃b,s.bx n=some b/\b.inst=p.inst/\g'.at_ n=g.at_ n
 rows: ∀p es l',p.root=r->Old s p->p.vers.length=1->bf s' p 1=some [⟨.dl es,.own,l'⟩]-> ∃l,bf s p 1=some [⟨.dl es,.own,l⟩]/\
  ∀b len k,(aC a w g r)[p.cell]? =some (.slice (some ⟨b,0,none⟩) len k)->w'.heap[b]? =w.heap[b]?
theorem nV {α:Type} {l d:List α} {c:Nat} (h:(l.drop c).take 1=(d.drop c).take 1):l[c]? =d[c]? :=by
 have:=congrArg (λ x=>x[0]?) h;simpa [aam,aar]using this
section
variable {s s':St} {a a':Act} {w w':World} {g g':Gh} {K:aG->Prop} {mk:Nat->aG}
theorem KeptAt.step {n j:Nat} {v:Value} (f:EN s s' a a' w w' g g' (.box n)) (h:KeptAt s a w g n j v):KeptAt s' a' w' g' n j v:=λ cs k=>by
 obtain⟨d,l,_,hv⟩:=f.cells ⟨.box n,0,[0],j,none⟩ 1 cs rfl ⟨abH _,λ _ _ _ _ _ i x c u e _=>by
  cases i with
  |zero=>simp at e;omega
  |succ i=>simp at e⟩ rfl k
 exact(nV hv).trans (h d l)
theorem mF.fr (f:Fr K w w' g g') (d: ∀i,K (mk i)): ∀(ts:List (Bool×LC)) (i:Nat) (k:LV),mF w g mk i ts k->mF w' g' mk i ts k
 | [],_,_,h=>h
 |(ag,cs)::ts,i,_,⟨v,l,e,⟨m,p⟩,h⟩=>⟨v,l,e,⟨m,aF.fr f cs i _ d p⟩,mF.fr f d ts _ l h⟩
theorem QU.step {p:Pl} (e:EN s s' a a' w w' g g' p.root) (m:Old s p) (hv:p.vers.length=1) {q:List Sh->Nat->Nat->LV->Prop} (h:QU s a w g p q):QU s' a' w' g' p q:=by
 obtain⟨i,j,hs,h⟩:=h;refine⟨i,j,hs,λ es v t=> ?_⟩;obtain⟨l,y,z⟩:=e.rows p es v rfl m hv t;obtain⟨_,_,_,d⟩:=e.cells p 1 _ rfl m hv t;obtain⟨b,len,k,cur,A,f,u,B,C,D⟩:=h es l y;exact⟨b,len,k,cur,A,f,(nV d).trans u,B,(z b len k u).trans C,D⟩
theorem TV0.step (f:Fr K w w' g g') (N: ∀i,K (mk i)) (B: ∀r,EN s s' a a' w w' g g' r) {t:T} {v:Value} (h:TV0 s a w g mk t v):TV0 s' a' w' g' mk t v:=by
 cases t with
 |dead=>trivial
 |undef=>exact h
 |nilc=>exact h
 |val ag cs=>exact⟨h.1,aF.fr f cs 0 _ N h.2⟩
 |ref p ag m=>
  obtain⟨y,hv,hs,h⟩:=h;refine⟨(B p.root).old p rfl y,hv,hs,λ R C=> ?_⟩;obtain⟨cs,L,_,d⟩:=(B p.root).cells p m R rfl y hv C;obtain⟨E,G⟩:=h cs L;exact⟨E,G.trans d.symm⟩
 |rsub p z lo hi=>
  obtain⟨y,hv,hs,hz,h⟩:=h;refine⟨(B p.root).old p rfl y,hv,hs,hz,λ S C=> ?_⟩;obtain⟨cs,L,D,d⟩:=(B p.root).cells p 1 [S] rfl y hv C;obtain⟨c,rfl,M⟩:=Iz D;obtain⟨A,l,k,e,E,G,O,U⟩:=h c L;exact⟨A,l,k,(nV d).trans e,E,G,O,by rw[M];exact U⟩
 |addr p=>
  obtain⟨y,h⟩:=h;refine⟨(B p.root).old p rfl y,?_⟩
  cases I:p.sub with
  |none=>
   rw[I]at h;obtain⟨n,hn,h⟩:=h;refine⟨n,hn,λ b' W hi=> ?_⟩;obtain⟨b,hb,Y,Z⟩:=(B p.root).at_ n b' p hn W rfl y hi;rw[Z];exact h b hb Y
  |some ij=>
   obtain⟨i,j⟩:=ij;rw[I]at h;obtain⟨hv,h⟩:=h;refine⟨hv,λ S C=> ?_⟩;obtain⟨cs,L,D,d⟩:=(B p.root).cells p 1 [S] rfl y hv C;obtain⟨c,rfl,M⟩:=Iz D;obtain⟨b,l,k,e,E,G⟩:=h c L;exact⟨b,l,k,(nV d).trans e,E,by rw[M];exact G⟩
 |rowr p ag m=>
  obtain⟨y,hv,h⟩:=h;exact⟨(B p.root).old p rfl y,hv,h.step (B p.root) y hv⟩
 |addr2 p k q=>
  obtain⟨y,hv,h⟩:=h;exact⟨(B p.root).old p rfl y,hv,h.step (B p.root) y hv⟩
 |paddr cs off=>
  obtain⟨ad,Q,e,E,G,O⟩:=h;exact⟨ad,Q,e,E.keeps f.keeps,G,aF.fr f cs 0 Q N O⟩
 |tup ts=>
  obtain⟨Q,e,h⟩:=h;exact⟨Q,e,mF.fr f N ts 0 Q h⟩
 |fn f=>exact h
 |clo f ts=>exact h.elim
 |ext p q c=>
  obtain⟨y,hv,hs,E,G,O,U,h5,h6⟩:=h;refine⟨(B p.root).old p rfl y,hv,hs,E,G.fr f (N 0),O,U,h5,λ e' he=> ?_⟩;obtain⟨cs,L,D,d⟩:=(B p.root).cells p 1 [e'] rfl y hv he;obtain⟨e,rfl,_⟩:=Iz D;obtain⟨u,hu,hx⟩:=h6 e L;exact⟨u,(nV d).trans hu,hx.fr f (N 1)⟩
theorem oI.step (f:Fr K w w' g g') (d: ∀i,K (mk i)) (k: ∀r,EN s s' a a' w w' g g' r): ∀(ts:List T) (l:LV),oI s a w g mk ts l->oI s' a' w' g' mk ts l
 | [],_,h=>h
 |t::ts,_,⟨v,m,e,p,q,h⟩=>⟨v,m,e,p,TV0.step f d k q,oI.step f d k ts m h⟩
theorem TV.step (f:Fr K w w' g g') (d: ∀i,K (mk i)) (l: ∀r,EN s s' a a' w w' g g' r) {t:T} {v:Value} (h:TV s a w g mk t v):TV s' a' w' g' mk t v:=by
 cases t with
 |clo fn ts=>obtain⟨u,e,h⟩:=h;exact⟨u,e,oI.step f d l ts u h⟩
 |dead=>exact TV0.step f d l (t:= .dead) (v:=v) h
 |undef=>exact TV0.step f d l (t:= .undef) h
 |nilc=>exact TV0.step f d l (t:= .nilc) (v:=v) h
 |val ag cs=>exact TV0.step f d l (t:= .val ag cs) h
 |ref p ag m=>exact TV0.step f d l (t:= .ref p ag m) h
 |rsub p z lo y=>exact TV0.step f d l (t:= .rsub p z lo y) h
 |addr p=>exact TV0.step f d l (t:= .addr p) h
 |rowr p ag m=>exact TV0.step f d l (t:= .rowr p ag m) h
 |addr2 p k q=>exact TV0.step f d l (t:= .addr2 p k q) h
 |paddr cs off=>exact TV0.step f d l (t:= .paddr cs off) h
 |tup ts=>exact TV0.step f d l (t:= .tup ts) h
 |fn A=>exact TV0.step f d l (t:= .fn A) h
 |ext p q c=>exact TV0.step f d l (t:= .ext p q c) h
theorem EL.step {n:Nat} {b:Bx} (f:Fr K w w' g g') (k: ∀i,K (.cell n i)) (l:K (.box n)) (d:g'.at_ n=g.at_ n) (h:EL w g n b):EL w' g' n b:=by
 obtain⟨cur,m,p,q,t,u⟩:=h;obtain⟨v,y,z⟩:=f.own _ _ l q;exact⟨cur,m,by rw[d];exact y.trans p,by rw[d];exact v,λ o e=>t o (z o (by rw[d]at e;exact e)),aF.fr f _ 0 _ k u⟩
end
theorem aF.vN {w w':World} {g g':Gh} (k:Keeps w w' g.F g'.F) {mk mk':Nat->aG}: ∀(cs:LC) (i j:Nat) (f:LV),bJ cs=true->aF w g mk i cs f->aF w' g' mk' j cs f
 | [],_,_,_,_,h=>h
 |c::cs,i,j,_,d,⟨v,l,e,m,h⟩=>by
  simp only[bJ,acP,aae]at d;exact⟨v,l,e,m.pure k d.1,aF.vN k cs (i+1) (j+1) l d.2 h⟩
theorem qo {α β:Type} (f:α->β) (l:List α) (a b:Nat):((l.map f).drop a).take b=((l.drop a).take b).map f:=by
 simp[acw,acv]
theorem nN (cs:LC) (v:Nat):(cs.map λ c=>(c,v)).map (·.1)=cs:=by
 rw[abM];exact List.map_id cs
theorem EK: ∀(d e:List Nat),FD d e=true ↔ ∀(i x:Nat),d[i]? =some x->e[i]? =some x
 | [],e=>by simp[FD]
 |v::d,[]=>by
  simp only[FD,abb,false_iff];intro h;have:=h 0 v rfl;simp at this
 |v::d,w::e=>by
  simp only[FD,aae,EK d e];constructor
  ·rintro⟨g,k⟩ i x f
   cases i with
   |zero=>simp at f ⊢;rw[←f];exact(aao g).symm
   |succ i=>simpa using k i x (by simpa using f)
  ·intro h;refine⟨?_,λ i x f=> ?_⟩
   ·have:=h 0 v rfl;simp at this;rw[this];exact acF v
   ·have:=h (i+1) x (by simpa using f);simpa using this
theorem bQ {s:St} {p:Pl} {n:Nat} {cs:LC}:bf s p n=some cs ↔ ∃cells,aB s p.root=some (p.inst,cells)/\p.cell+n<=cells.length/\
 (∀(i x:Nat),p.vers[i]? =some x->(cells[p.cell+i]?).map (·.2)=some x)/\cs=((cells.drop p.cell).take n).map (·.1):=by
 unfold bf
 cases h:aB s p.root with
 |none=>simp
 |some u=>
  obtain⟨inst,cells⟩:=u
  have d:(Nat.beq inst p.inst&&Nat.ble (p.cell+n) cells.length&&FD p.vers ((cells.drop p.cell).map (·.2)))=true ↔
   inst=p.inst/\p.cell+n<=cells.length/\ ∀(i x:Nat),p.vers[i]? =some x->(cells[p.cell+i]?).map (·.2)=some x:=by
   rw[aae,aae,EK];constructor
   ·rintro⟨⟨k,f⟩,g⟩;exact⟨aao k,abk f,λ i x l=>by have:=g i x l;simpa [aar]using this⟩
   ·rintro⟨k,f,g⟩;exact⟨⟨by rw[k];exact acF _,Nat.ble_eq_true_of_le f⟩,λ i x l=>by simpa [aar]using g i x l⟩
  simp only[];cases q:(Nat.beq inst p.inst&&Nat.ble (p.cell+n) cells.length&&FD p.vers ((cells.drop p.cell).map (·.2)))with
  |false=>
   simp only[cond_false];constructor
   ·intro h;cases h
   ·rintro⟨m,e,f,g,t⟩;cases e;have:=d.2 ⟨rfl,f,g⟩;rw[q]at this;cases this
  |true=>
   obtain⟨k,f,g⟩:=d.1 q;simp only[cond_true,aag];constructor
   ·intro h;exact⟨cells,by rw[k],f,g,h.symm⟩
   ·rintro⟨m,e,_,_,t⟩;cases e;exact t.symm
def dQ:Root->Nat->aG
 | .tmp n=> .tm n
 | .box n=> .cell n
theorem wR (r:Root): ∀i j,dQ r i=dQ r j->i=j:=by cases r<;>simp[dQ]
section
variable {E:Env} {C:Ctx} {s s':St} {a a':Act} {w w':World} {g g':Gh} {K:aG->Prop}
theorem aF.sub {mk:Nat->aG} {cs:LC} {i:Nat} {e:LV} (h:aF w g mk i cs e) (k m:Nat):aF w g mk (i+k) ((cs.drop k).take m) ((e.drop k).take m):=by
 refine aF.of _ _ _ (by simp[h.length]) λ j c v d hv=> ?_;simp only[aam,aar]at d hv;split at d
 ·rename_i f;rw[if_pos f]at hv;obtain⟨u,l,p⟩:=h.get cs i e (k+j) c d;rw[l]at hv;cases hv
  rwa [show i+k+j=i+(k+j) by omega]
 ·cases d
theorem Rel.root (h:Rel E C s a w g) {r:Root} {inst:Nat} {cells:List (CV×Nat)} (d:aB s r=some (inst,cells)):aF w g (dQ r) 0 (cells.map (·.1)) (aC a w g r):=by
 cases r with
 |tmp n=>
  simp only[aB]at d;split at d
  ·rename_i ag cs v e;cases d;have:=h.tm n;rw[e]at this;simp only[aC,dQ,nN];exact this.2
  ·cases d
 |box n=>
  simp only[aB]at d;split at d
  ·rename_i b e;cases d;obtain⟨cur,k,f,_,_,i⟩:=h.bx n b e;simp only[aC,f,dQ];exact i
  ·cases d
theorem Rel.pl (h:Rel E C s a w g) {p:Pl} {m:Nat} {cs:LC} (d:bf s p m=some cs):aF w g (dQ p.root) p.cell cs (((aC a w g p.root).drop p.cell).take m)/\cs.length=m:=by
 rw[bQ]at d;obtain⟨cells,e,f,_,rfl⟩:=d;have:=(h.root e).sub p.cell m;rw[aa0]at this;rw[←qo];exact⟨this,by simp;omega⟩
theorem jE (r:Root) (i j:Nat):dQ r i≠ .hand j:=by cases r<;>simp[dQ]
theorem Rel.ae0 (h:Rel E C s a w g) {p:Pl} {es:List Sh} {l:List (Option (ElA es))} (f:bf s p 1=some [⟨.dl es,.own,l⟩]) {b len k:Nat}
 (hv:(aC a w g p.root)[p.cell]? =some (.slice (some ⟨b,0,none⟩) len k)):g.own b=some (dQ p.root p.cell):=by
 obtain⟨i,_⟩:=h.pl f;obtain⟨v,t,e,d,_⟩:=i
 have m:v= .slice (some ⟨b,0,none⟩) len k:=by
  have:=congrArg (λ l=>l[0]?) e;simp only[aam,aar,aaZ]at this;simp at this;rw[hv]at this;exact(aak this).symm
 subst m;simp only[jZ,Sh.qO,if_true]at d;rcases d with⟨d,_⟩|⟨u,c,cur,y,d,_,_,q,_⟩
 ·cases d
 ·cases d;exact q
theorem Rel.wV (h:Rel E C s a w g) (f:Fr K w w' g g') {p:Pl} (d:K (dQ p.root p.cell)) {es:List Sh} {l:List (Option (ElA es))} (e:bf s p 1=some [⟨.dl es,.own,l⟩]) {b len k:Nat}
 (hv:(aC a w g p.root)[p.cell]? =some (.slice (some ⟨b,0,none⟩) len k)):w'.heap[b]? =w.heap[b]? :=(f.own _ _ d (h.ae0 e hv)).2.1
theorem Rel.gen (h:Rel E C s a w g) (f:Fr K w w' g g') (D:Base C.w0 C.F0 C.X w' g') (z: ∀r,EN s s' a a' w w' g g' r)
 (k:a'.tmps.size=a.tmps.size) (l:a'.defers=a.defers)
 (m: ∀n,((∀i,K (.tm n i))/\(s'.tm n).1=(s.tm n).1/\a'.eval (.tmp n)=a.eval (.tmp n))\/TV s' a' w' g' (.tm n) (s'.tm n).1 (a'.eval (.tmp n)))
 (p: ∀n b,s'.bx n=some b->(s.bx n=some b/\(∀i,K (.cell n i))/\K (.box n)/\g'.at_ n=g.at_ n)\/EL w' g' n b) (e: ∀n,E.fix n=true->a'.eval (.tmp n)=a.eval (.tmp n):=by intro n _;rfl):Rel E C s' a' w' g':=by
 refine⟨λ n=> ?_,λ n b G=> ?_,k.trans h.size,l.trans h.defers,λ I cs L=> ?_,D,λ n v hv A=>(e n A).trans (h.par n v hv A),λ n j v hv=>⟨(h.aux n j v hv).1,(h.aux n j v hv).2.step (z _)⟩⟩
 ·rcases m n with⟨q,t,hv⟩|t
  ·rw[t,hv];exact TV.step f q z (h.tm n)
  ·exact t
 ·rcases p n b G with⟨d,q,u,y⟩|d
  ·exact EL.step f q u y (h.bx n b d)
  ·exact d
 ·obtain⟨d,B,M,N⟩:=h.glob I cs L;exact⟨d,B,M.keeps f.keeps,aF.vN f.keeps cs 0 0 B d N⟩
theorem EN.same {r:Root} (v:rH s' r=rH s r) (y:aB s' r=aB s r) (q: ∀n,r= .box n->s'.bx n=s.bx n/\((s.bx n).isSome=true->g'.at_ n=g.at_ n))
 (hv:(aB s r).isSome=true->aC a' w' g' r=aC a w g r)
 (z: ∀p es l,p.root=r->bf s p 1=some [⟨.dl es,.own,l⟩]-> ∀b len k,(aC a w g r)[p.cell]? =some (.slice (some ⟨b,0,none⟩) len k)->w'.heap[b]? =w.heap[b]?):EN s s' a a' w w' g g' r:=by
 have t: ∀p m f,p.root=r->bf s' p m=some f->bf s p m=some f:=by
  intro p m f d h;rw[bQ]at h ⊢;rw[d,y]at h;rw[d];exact h
 refine⟨λ p d u=>⟨by have:=u.inst;rw[d]at this ⊢;omega,λ n b e i v=> ?_⟩,λ p m f d u _ h=>⟨f,?_,rfl,?_⟩,λ n A p B i d u v=> ?_,λ p es l d u _ h=>⟨l,t p 1 _ d h,z p es l d (t p 1 _ d h)⟩⟩
 ·have:=q n (d▸e);rw[this.1]at i;exact u.vers n b e i v
 ·rw[bQ]at h ⊢;rw[d,y]at h;rw[d];exact h
 ·rw[hv];rw[bQ]at h;obtain⟨cells,e,_⟩:=h;rw[d,y]at e;rw[e];rfl
 ·have:=q n B;rw[this.1]at i;exact⟨A,i,v,this.2 (by rw[i];rfl)⟩
theorem Rel.J4 (h:Rel E C s a w g) (f:Fr K w w' g g') {n:Nat} (i:K (.box n)) (d:g'.at_ n=g.at_ n) (hs:(aB s (.box n)).isSome=true):aC a' w' g' (.box n)=aC a w g (.box n):=by
 simp only[aB]at hs
 cases e:s.bx n with
 |none=>rw[e]at hs;simp at hs
 |some b=>
  obtain⟨cur,m,_,k,_,_⟩:=h.bx n b e;obtain⟨_,l,_⟩:=f.own _ _ i k;simp only[aC,d,l]
theorem Rel.world (h:Rel E C s a w g) (f:Fr (λ o=> ∀i,o≠ .hand i) w w' g g') (e:Base C.w0 C.F0 C.X w' g') (d:g'.at_=g.at_):Rel E C s a w' g':=
 h.gen f e (λ r=>EN.same rfl rfl (λ n _=>⟨rfl,λ _=>by rw[d]⟩) (λ hs=>by
  cases r with
  |tmp n=>rfl
  |box n=>exact h.J4 f (λ i=>by simp) (by rw[d]) hs) (λ p es l m q b len k hv=>h.wV f (λ i=>jE _ _ _) q (by rw[m];exact hv))) rfl rfl
  (λ n=> .inl ⟨λ i j=>by simp,rfl,rfl⟩) (λ n b t=> .inl ⟨t,λ i j=>by simp,λ j=>by simp,by rw[d]⟩)
theorem Rel.KZ (h:Rel E C s a w g) {d:Nat} {t:T} (f:Fr (λ o=>(∀i,o≠ .tm d i)/\ ∀i,o≠ .hand i) w w' g g') (hb:Base C.w0 C.F0 C.X w' g') (I:g'.at_=g.at_)
 (Q: ∀y u,t= .val y u-> ∃ag cs,(s.tm d).1= .val ag cs/\u.map CV.sh=cs.map CV.sh/\
  ∀(i:Nat) es L,u[i]? =some ⟨.dl es,.own,L⟩-> ∃l,cs[i]? =some ⟨.dl es,.own,l⟩/\ ∀b len k,(a.eval (.tmp d)).cells.toList[i]? =some (.slice (some ⟨b,0,none⟩) len k)->w'.heap[b]? =w.heap[b]?)
 (ht:TV (s.dX [.keep d t]) a w' g' (.tm d) t (a.eval (.tmp d))):Rel E C (s.dX [.keep d t]) a w' g':=by
 have hs:s.dX [.keep d t]= {s with tm:=put s.tm d (t,(s.tm d).2)}:=rfl;refine h.gen f hb (λ r=> ?_) rfl rfl (λ n=> ?_) (λ n b B=> .inl ⟨B,λ i=>⟨λ j=>by simp,λ j=>by simp⟩,⟨λ j=>by simp,λ j=>by simp⟩,by rw[I]⟩)
 ·rw[hs]
  cases r with
  |tmp n=>
   by_cases B:n=d
   ·subst B
    have key: ∀(p:Pl) m u,p.root= .tmp n->bf {s with tm:=put s.tm n (t,(s.tm n).2)} p m=some u-> ∃y q ag cs,t= .val y q/\(s.tm n).1= .val ag cs/\u=(q.drop p.cell).take m/\p.cell+m<=q.length/\
     bf s p m=some ((cs.drop p.cell).take m)/\q.map CV.sh=cs.map CV.sh/\ ∀(i:Nat) es L,q[i]? =some ⟨.dl es,.own,L⟩-> ∃l,cs[i]? =some ⟨.dl es,.own,l⟩/\ ∀b len k,(a.eval (.tmp n)).cells.toList[i]? =some (.slice (some ⟨b,0,none⟩) len k)->w'.heap[b]? =w.heap[b]? :=by
     intro p m u z D;rw[bQ]at D;obtain⟨cells,e,Y,h2,h3⟩:=D;rw[z]at e;simp only[aB,bH]at e;split at e
     ·rename_i y q v M;simp only[aay]at M;obtain⟨O,R⟩:=M;obtain⟨ag,cs,Z,N,S⟩:=Q y q O;have hl:q.length=cs.length:=by have:=congrArg List.length N;simpa using this
      cases e
      have A:bf s p m=some ((cs.drop p.cell).take m):=by
       rw[bQ];refine⟨cs.map λ c=>(c,p.inst),?_,by simpa [←hl]using Y,λ i x hx=> ?_,by rw[←qo,nN]⟩
       ·rw[z];simp only[aB];have:s.tm n=(.val ag cs,p.inst):=by rw[←Z,←R]
        rw[this]
       ·have:=h2 i x hx;simp only[aas,Option.map_map]at this ⊢
        cases K:q[p.cell+i]? with
        |none=>rw[K]at this;simp at this
        |some c=>
         have G:p.cell+i<cs.length:=by
          rw[←hl];rcases aaF (p.cell+i) q.length with h|h
          ·exact h
          ·simp[aai h]at K
         rw[aac G];rw[K]at this;simpa using this
      refine⟨y,q,ag,cs,O,Z,?_,by simpa using Y,A,N,S⟩;rw[h3,←qo,nN]
     ·cases e
    refine⟨λ p z U=>⟨?_,λ k b e=>by rw[z]at e;cases e⟩,λ p m u z U _ D=> ?_,λ k b p e=>(by cases e),λ p es L z U hv D=> ?_⟩
    ·have:=U.inst;rw[z]at this ⊢;simp only[rH,bH]at this ⊢;exact this
    ·obtain⟨y,q,ag,cs,O,R,rfl,_,A,N,_⟩:=key p m u z D;refine⟨_,A,?_,rfl⟩;simp only[acw,acv,N]
    ·obtain⟨y,q,ag,cs,O,R,e3,a7,A,N,S⟩:=key p 1 _ z D
     have e4:q[p.cell]? =some ⟨.dl es,.own,L⟩:=by
      have:=congrArg (λ l=>l[0]?) e3;simp only[aam,aar,aaZ]at this;simpa using this.symm
     obtain⟨l,W,e6⟩:=S p.cell es L e4;refine⟨l,?_,λ b len k hv=>e6 b len k hv⟩;rw[A]
     have G:p.cell<cs.length:=by
      rcases aaF p.cell cs.length with h|h
      ·exact h
      ·simp[aai h]at W
     rw[aaI G];rw[aac G]at W;rw[List.take_succ_cons,acz,aak W]
   ·exact EN.same (by simp only[rH,bM _ _ _ B]) (by simp only[aB,bM _ _ _ B]) (λ k e=>by cases e) (λ _=>rfl) (λ p es l z D b len k hv=>h.wV f ⟨λ i e=>(by rw[z]at e;cases e;exact B rfl),λ i=>jE _ _ _⟩ D (by rw[z];exact hv))
  |box n=>exact EN.same rfl rfl (λ k e=>⟨rfl,λ _=>by rw[I]⟩) (h.J4 f ⟨λ i=>by simp,λ i=>by simp⟩ (by rw[I])) (λ p es l z D b len k hv=>h.wV f ⟨λ i e=>(by rw[z]at e;cases e),λ i=>jE _ _ _⟩ D (by rw[z];exact hv))
 ·by_cases B:n=d
  ·subst B;right;have:((s.dX [.keep n t]).tm n).1=t:=by rw[hs];simp[bH]
   rw[this];exact ht
  ·left;exact⟨λ i=>⟨λ j e=>by cases e;exact B rfl,λ j=>by simp⟩,by rw[hs];simp[bM _ _ _ B],rfl⟩
end
theorem Rel.Qi {E:Env} {C:Ctx} {s:St} {a:Act} {w w':World} {g g':Gh} (h:Rel E C s a w g) (d:Nat) (t:T) (v:Value)
 (f:Fr (λ o=>(∀i,o≠ .tm d i)/\ ∀i,o≠ .hand i) w w' g g') (K:g'.at_=g.at_): ∀r,EN s (s.dX [.tm d t]) a (a.put (some d) v) w w' g g' r:=by
 have hs:s.dX [.tm d t]= {s with tm:=put s.tm d (t,(s.tm d).2+1)}:=rfl;rw[hs];intro r
 cases r with
 |tmp n=>
  by_cases G:n=d
  ·subst G
   have key: ∀p m y,p.root= .tmp n->Old s p->bf {s with tm:=put s.tm n (t,(s.tm n).2+1)} p m=some y->False:=by
    intro p m y q z u;have I:=z.inst;rw[q]at I;simp only[rH]at I;unfold bf at u;rw[q]at u;simp only[aB,bH]at u;split at u
    ·rename_i inst cs B;split at B
     ·cases B;simp only[cond_eq_ite,aae]at u;split at u
      ·rename_i M;have:=aao M.1.1;simp_all;omega
      ·cases u
     ·cases B
    ·cases u
   refine⟨λ p q z=>⟨?_,λ k b e=>by rw[q]at e;cases e⟩,λ p m y q z _ u=>(key p m y q z u).elim,λ k b p e=>(by cases e),λ p es Q q z _ u=>(key p _ _ q z u).elim⟩;have:=z.inst;rw[q]at this ⊢;simp only[rH,bH]at this ⊢;omega
  ·have A: ∀p m,p.root= .tmp n->bf {s with tm:=put s.tm d (t,(s.tm d).2+1)} p m=bf s p m:=by
    intro p m q;unfold bf;rw[q];simp only[aB,bM _ _ _ G]
   refine⟨λ p q z=>⟨?_,λ k b e=>by rw[q]at e;cases e⟩,λ p m y q z _ u=>⟨y,?_,rfl,?_⟩,λ k b p e=>(by cases e),λ p es l q z _ u=>⟨l,(A p 1 q).symm.trans u,λ b len k hv=>h.wV f ⟨λ i e=>(by rw[q]at e;cases e;exact G rfl),λ i=>jE _ _ _⟩ ((A p 1 q).symm.trans u) (by rw[q];exact hv)⟩⟩
   ·have:=z.inst;rw[q]at this ⊢;simp only[rH,bM _ _ _ G]at this ⊢;exact this
   ·unfold bf at u ⊢;rw[q]at u ⊢;simp only[aB,bM _ _ _ G]at u ⊢;exact u
   ·simp only[aC,yL _ _ _ G]
 |box n=>
  have A: ∀p m,p.root= .box n->bf {s with tm:=put s.tm d (t,(s.tm d).2+1)} p m=bf s p m:=by
   intro p m q;unfold bf;rw[q];rfl
  refine⟨λ p q z=>⟨?_,λ k b e L I=>z.vers k b e L I⟩,λ p m y q z _ u=>⟨y,?_,rfl,?_⟩,λ k b p e L q z I=>⟨b,L,I,(by rw[K])⟩,λ p es l q z _ u=>⟨l,(A p 1 q).symm.trans u,λ b len k hv=>h.wV f ⟨λ i e=>(by rw[q]at e;cases e),λ i=>jE _ _ _⟩ ((A p 1 q).symm.trans u) (by rw[q];exact hv)⟩⟩
  ·have:=z.inst;rw[q]at this ⊢;exact this
  ·unfold bf at u ⊢;rw[q]at u ⊢;exact u
  ·have: ∃b,s.bx n=some b:=by
    unfold bf at u;rw[q]at u;simp only[aB]at u
    cases D:s.bx n with
    |none=>rw[D]at u;simp at u
    |some b=>exact⟨b,rfl⟩
   obtain⟨b,D⟩:=this;obtain⟨cur,R,S,N,_,_⟩:=h.bx n b D;obtain⟨_,O,_⟩:=f.own _ _ ⟨λ i=>by simp,λ i=>by simp⟩ N;simp only[aC,K,O]
theorem aen (a:Act) (d:Nat):a.put (some d) (a.eval (.tmp d))=a:=by
 have:a.tmps.setIfInBounds d (a.eval (.tmp d))=a.tmps:=by
  apply Array.ext_getElem?;intro i;simp only[Array.getElem?_setIfInBounds,Act.eval,abg];split
  ·rename_i e;subst e;by_cases h:d<a.tmps.size
   ·simp[h]
   ·simp[h]
  ·rfl
 show{a with tmps:=a.tmps.setIfInBounds d _}=a;rw[this]
theorem Rel.aeV {E:Env} {C:Ctx} {s:St} {a:Act} {w w':World} {g g':Gh} (h:Rel E C s a w g) {d:Nat} {t:T} (f:Fr (λ o=>(∀i,o≠ .tm d i)/\ ∀i,o≠ .hand i) w w' g g') (p:Base C.w0 C.F0 C.X w' g') (k:g'.at_=g.at_)
 (q:TV (s.dX [.tm d t]) a w' g' (.tm d) t (a.eval (.tmp d))):Rel E C (s.dX [.tm d t]) a w' g':=by
 have m:=h.Qi d t (a.eval (.tmp d)) f k;rw[aen]at m;refine h.gen f p m rfl rfl (λ n=> ?_) (λ n b l=> .inl ⟨l,λ i=>⟨λ j=>by simp,λ j=>by simp⟩,⟨λ j=>by simp,λ j=>by simp⟩,by rw[k]⟩);have hs:s.dX [.tm d t]= {s with tm:=put s.tm d (t,(s.tm d).2+1)}:=rfl;by_cases l:n=d
 ·subst l;right;have:((s.dX [.tm n t]).tm n).1=t:=by rw[hs];simp[bH]
  rw[this];exact q
 ·left;exact⟨λ i=>⟨λ j e=>by cases e;exact l rfl,λ j=>by simp⟩,by rw[hs];simp[bM _ _ _ l],rfl⟩
theorem Rel.Vj {E:Env} {C:Ctx} {s:St} {a:Act} {w w':World} {g g':Gh} (h:Rel E C s a w g) {d:Nat} (z:DOk E d) {t:T} {v:Value}
 (f:Fr (λ o=>(∀i,o≠ .tm d i)/\ ∀i,o≠ .hand i) w w' g g') (G:Base C.w0 C.F0 C.X w' g') (k:g'.at_=g.at_)
 (I:TV (s.dX [.tm d t]) (a.put (some d) v) w' g' (.tm d) t v):Rel E C (s.dX [.tm d t]) (a.put (some d) v) w' g':=by
 have hs:s.dX [.tm d t]= {s with tm:=put s.tm d (t,(s.tm d).2+1)}:=rfl;have p:d<a.tmps.size:=by rw[h.size];exact z.2
 have A:=h.Qi d t v f k
 refine⟨λ n=> ?_,λ n b q=> ?_,by rw[size_put];exact h.size,by rw[WW];exact h.defers,λ K cs L=> ?_,G,λ n u l y=>by
  rw[yL _ _ _ (λ e=>by rw[e,z.1]at y;cases y)];exact h.par n u l y,λ n j u l=>⟨(h.aux n j u l).1,(h.aux n j u l).2.step (A _)⟩⟩
 ·by_cases m:n=d
  ·subst m;rw[eval_put_same _ _ _ p];have:((s.dX [.tm n t]).tm n).1=t:=by rw[hs];simp[bH]
   rw[this];exact I
  ·rw[yL _ _ _ m];have:((s.dX [.tm d t]).tm n).1=(s.tm n).1:=by rw[hs];simp[bM _ _ _ m]
   rw[this];exact TV.step f (λ i=>⟨λ j e=>by cases e;exact m rfl,λ j=>by simp⟩) A (h.tm n)
 ·exact EL.step f (λ i=>⟨λ j=>by simp,λ j=>by simp⟩) ⟨λ j=>by simp,λ j=>by simp⟩ (by rw[k]) (h.bx n b q)
 ·obtain⟨B,D,M,N⟩:=h.glob K cs L;exact⟨B,D,M.keeps f.keeps,aF.vN f.keeps cs 0 0 D B N⟩
section
variable {E:Env} {C:Ctx} {s s':St} {a a':Act} {w w':World} {g g':Gh}
theorem QE {α:Type} {l d:List α} {c m:Nat} (h: ∀i,i<m->l[c+i]? =d[c+i]?):(l.drop c).take m=(d.drop c).take m:=by
 apply aaT;intro i;simp only[aam,aar];split
 ·rename_i e;exact h i e
 ·rfl
theorem Rel.agv (h:Rel E C s a w g) {n:Nat} {A:Bx} (f:Fr (λ o=>(∀i,o≠ .cell n i)/\o≠ .box n/\ ∀i,o≠ .hand i) w w' g g') (hb:Base C.w0 C.F0 C.X w' g') (S: ∀m,m≠n->g'.at_ m=g.at_ m)
 (hk:rH s (.box n)<A.inst\/ ∃b,s.bx n=some b/\A.inst=b.inst/\A.cells.length=b.cells.length/\g'.at_ n=g.at_ n/\
  ∀(i:Nat) (c:CV) (v:Nat),b.cells[i]? =some (c,v)-> ∃(u:CV) (v':Nat),A.cells[i]? =some (u,v')/\u.sh=c.sh/\v<=v'/\(v'=v->(aC a w' g' (.box n))[i]? =(aC a w g (.box n))[i]? /\
   ∀es N,u=⟨.dl es,.own,N⟩-> ∃l,c=⟨.dl es,.own,l⟩/\ ∀K len k,(aC a w g (.box n))[i]? =some (.slice (some ⟨K,0,none⟩) len k)->w'.heap[K]? =w.heap[K]?))
 (hr:EL w' g' n A):Rel E C (s.dX [.bx n A]) a w' g':=by
 have hs:s.dX [.bx n A]= {s with bx:=put s.bx n (some A)}:=rfl;refine h.gen f hb (λ r=> ?_) rfl rfl (λ m=> .inl ⟨λ i=>⟨λ j=>by simp,by simp,λ j=>by simp⟩,by rw[hs],rfl⟩) (λ m b z=> ?_)
 ·rw[hs]
  cases r with
  |tmp m=>exact EN.same rfl rfl (λ k e=>by cases e) (λ _=>rfl) (λ p es l d G b len k hv=>h.wV f ⟨λ i=>by rw[d];simp[dQ],by rw[d];simp[dQ],λ i=>jE _ _ _⟩ G (by rw[d];exact hv))
  |box m=>
   by_cases z:m=n
   ·subst z;rcases hk with hk|⟨b,L,hi,hl,a1,G⟩
    ·refine⟨λ p d y=>⟨?_,λ k b1 e I U=> ?_⟩,λ p k B d y _ G=> ?_,λ k b1 p e I d y U=> ?_,λ p es N d y _ G=> ?_⟩
     ·have:=y.inst;rw[d]at this ⊢;simp only[rH,bH]at hk this ⊢;omega
     ·exfalso;rw[d]at e;cases e;simp only[bH,aag]at I;subst I;have:=y.inst;rw[d]at this;omega
     ·exfalso;rw[bQ]at G;obtain⟨cells,e,_⟩:=G;rw[d]at e;simp only[aB,bH,aag,aay]at e;have:=y.inst;rw[d]at this;omega
     ·exfalso;cases e;simp only[bH,aag]at I;subst I;have:=y.inst;rw[d]at this;omega
     ·exfalso;rw[bQ]at G;obtain⟨cells,e,_⟩:=G;rw[d]at e;simp only[aB,bH,aag,aay]at e;have:=y.inst;rw[d]at this;omega
    ·have O: ∀(p:Pl) (k:Nat) B,p.root= .box m->Old s p->p.vers.length=k->bf {s with bx:=put s.bx m (some A)} p k=some B->
      ((∀i,i<k-> ∃c u v,b.cells[p.cell+i]? =some (c,v)/\A.cells[p.cell+i]? =some (u,v)/\u.sh=c.sh/\p.vers[i]? =some v/\(aC a w' g' (.box m))[p.cell+i]? =(aC a w g (.box m))[p.cell+i]? /\
        ∀es N,u=⟨.dl es,.own,N⟩-> ∃l,c=⟨.dl es,.own,l⟩/\ ∀K len k,(aC a w g (.box m))[p.cell+i]? =some (.slice (some ⟨K,0,none⟩) len k)->w'.heap[K]? =w.heap[K]?)/\
      bf s p k=some (((b.cells.drop p.cell).take k).map (·.1))/\B=((A.cells.drop p.cell).take k).map (·.1)):=by
      intro p k B d y hv D;rw[bQ]at D;obtain⟨cells,e,I,U,h3⟩:=D;rw[d]at e;simp only[aB,bH]at e;simp only[aag,aay]at e;obtain⟨e1,e2⟩:=e;subst e2
      have key: ∀i,i<k-> ∃c u v,b.cells[p.cell+i]? =some (c,v)/\A.cells[p.cell+i]? =some (u,v)/\u.sh=c.sh/\p.vers[i]? =some v/\(aC a w' g' (.box m))[p.cell+i]? =(aC a w g (.box m))[p.cell+i]? /\
       ∀es N,u=⟨.dl es,.own,N⟩-> ∃l,c=⟨.dl es,.own,l⟩/\ ∀K len k,(aC a w g (.box m))[p.cell+i]? =some (.slice (some ⟨K,0,none⟩) len k)->w'.heap[K]? =w.heap[K]? :=by
       intro i q;have t:p.cell+i<b.cells.length:=by omega
       obtain⟨u,v',h4,h5,h6,h7⟩:=G (p.cell+i) (b.cells[p.cell+i].1) (b.cells[p.cell+i].2) (by rw[aac t]);have Q:p.vers[i]? =some (p.vers[i]'(by omega)):=aac _;have h8:=U i _ Q;rw[h4]at h8;simp only[aaL,aag]at h8;have h9:=y.vers m b d L (by rw[←e1,hi]) i _ _ _ Q (by rw[aac t]);have a9:v'=b.cells[p.cell+i].2:=by omega
       subst a9;exact⟨_,u,_,by rw[aac t],h4,h5,by rw[Q,←h8],(h7 rfl).1,(h7 rfl).2⟩
      refine⟨key,?_,h3⟩;rw[bQ];refine⟨b.cells,by rw[d];simp only[aB,L];rw[←hi,e1],by omega,λ i x Q=> ?_,rfl⟩
      have q:i<k:=by
       rw[←hv];rcases aaF i p.vers.length with h|h
       ·exact h
       ·simp[aai h]at Q
      obtain⟨c,u,v,R,_,_,W,_⟩:=key i q;rw[R];rw[Q]at W;simpa using W.symm
     refine⟨λ p d y=>⟨?_,λ k b1 e I U i x c v Q hv=> ?_⟩,λ p k B d y hv D=> ?_,λ k b1 p e I d y U=> ?_,λ p es N d y hv D=> ?_⟩
     ·have:=y.inst;rw[d]at this ⊢;simp only[rH,bH,L]at this ⊢;omega
     ·rw[d]at e;cases e;simp only[bH,aag]at I;subst I
      have t:p.cell+i<b.cells.length:=by
       rw[←hl];rcases aaF (p.cell+i) A.cells.length with h|h
       ·exact h
       ·simp[aai h]at hv
      obtain⟨u,v',h4,_,h5,_⟩:=G (p.cell+i) (b.cells[p.cell+i].1) (b.cells[p.cell+i].2) (by rw[aac t]);rw[hv]at h4;cases h4;have:=y.vers m b d L (by rw[U,hi]) i x _ _ Q (by rw[aac t]);omega
     ·obtain⟨key,Y,h3⟩:=O p k B d y hv D;have Z:=QE (m:=k) (λ i q=>by obtain⟨_,_,_,_,_,_,_,h,_⟩:=key i q;exact h);refine⟨((b.cells.drop p.cell).take k).map (·.1),Y,?_,Z⟩
      ·rw[h3];simp only[abM];apply aaT;intro i;simp only[aas,aam,aar];by_cases q:i<k
       ·rw[if_pos q,if_pos q];obtain⟨c,u,v,R,W,k3,_⟩:=key i q;rw[R,W];simp[k3]
       ·rw[if_neg q,if_neg q]
     ·cases e;simp only[bH,aag]at I;subst I;exact⟨b,L,by rw[←hi,U],a1⟩
     ·obtain⟨key,Y,h3⟩:=O p 1 _ d y hv D;obtain⟨c,u,v,R,W,_,_,_,k3⟩:=key 0 (by omega);rw[aaZ]at R W k3
      have e4:u=⟨.dl es,.own,N⟩:=by
       have:=congrArg (λ l=>l[0]?) h3;simp only[aas,aam,aar,aaZ,W]at this;simpa using this.symm
      obtain⟨l,e5,e6⟩:=k3 es N e4;refine⟨l,?_,e6⟩;rw[Y]
      have t:p.cell<b.cells.length:=by
       rcases aaF p.cell b.cells.length with h|h
       ·exact h
       ·simp[aai h]at R
      rw[aaI t];rw[aac t]at R;rw[List.take_succ_cons,acz,aak R,abm,e5];rfl
   ·refine EN.same (by simp only[rH,bM _ _ _ z]) (by simp only[aB,bM _ _ _ z]) (λ k e=> ?_) ?_ ?_
    ·cases e;exact⟨bM _ _ _ z,λ _=>S m z⟩
    ·exact h.J4 f ⟨λ i=>by simp,λ e=>by cases e;exact z rfl,λ i=>by simp⟩ (S m z)
    ·exact λ p es l d G b len k hv=>h.wV f ⟨λ i e=>(by rw[d]at e;cases e;exact z rfl),by rw[d];simp[dQ],λ i=>jE _ _ _⟩ G (by rw[d];exact hv)
 ·rw[hs]at z;by_cases M:m=n
  ·subst M;simp only[bH,aag]at z;subst z;exact .inr hr
  ·simp only[bM _ _ _ M]at z;exact .inl ⟨z,λ i=>⟨λ j e=>by cases e;exact M rfl,by simp,λ j=>by simp⟩,⟨λ j=>by simp,λ e=>by cases e;exact M rfl,λ j=>by simp⟩,S m M⟩
def Gh.ren (g:Gh) (ρ:aG->aG):Gh:={g with own:=λ b=>(g.own b).map ρ}
theorem Fr.ren {K:aG->Prop} (w:World) (g:Gh) {ρ:aG->aG} (h: ∀o,K o->ρ o=o):Fr K w w g (g.ren ρ):=
 ⟨Keeps.refl _ _,λ b ow k e=>⟨by simp[Gh.ren,e,h ow k],rfl,λ _ h=>h⟩⟩
theorem Base.ren {w0:World} {F0:Fz} {X:Nat->Prop} (h:Base w0 F0 X w g) (ρ:aG->aG):Base w0 F0 X w (g.ren ρ):=
 ⟨h.os,h.tape,h.output,h.size,h.blk,λ b ow e=>by
  simp only[Gh.ren,aaK]at e;obtain⟨o,e,_⟩:=e;exact h.own b o e,h.keeps,h.fz,λ b ow cs t f e d=>by
  simp only[Gh.ren,aaK]at e;obtain⟨o,e,_⟩:=e;exact h.frz b o cs t f e d⟩
theorem wO.ren {ρ:aG->aG} {ow:aG} {d:Bool} {sh:Sh} {x:El sh} {v:Value} (h:wO w g ow d sh x v):wO w (g.ren ρ) (ρ ow) d sh x v:=by
 rcases h with h|⟨b,c,cur,e,hv,f,i,k,l,hs,m,p⟩
 ·exact .inl h
 ·exact .inr ⟨b,c,cur,e,hv,f,i,by simp[Gh.ren,k],l,hs,m,p⟩
theorem WM.ren {ρ:aG->aG} {ow:aG} {b:Nat} {d:Bool} {sh:Sh} {x:El sh} {cs:LV} (h:WM w g ow b d sh x cs):WM w (g.ren ρ) (ρ ow) b d sh x cs:=by
 cases sh with
 |dl es=>exact⟨h.1,jq.imp (g:=g) (g':=g.ren ρ) (ow':=ρ ow) (show Keeps w w g.F g.F from Keeps.refl _ _) (λ sh x v _=>wO.ren) h.2⟩
 |_=>exact h
theorem zq.ren {ρ:aG->aG} {ow:aG} {d:Bool} {sh:Sh} {x:El sh} {v:Value} (h:zq w g ow d sh x v):zq w (g.ren ρ) (ρ ow) d sh x v:=by
 rcases h with h|⟨b,c,cur,e,hv,f,i,k,l,hs,m,p⟩
 ·exact .inl h
 ·exact .inr ⟨b,c,cur,e,hv,f,i,by simp[Gh.ren,k],l,hs,m.ren,p⟩
theorem Ud.ren {ρ:aG->aG} {ow:aG} {sh:Sh} {x:El sh} {v:Value} (h:Ud w g ow sh x v):Ud w (g.ren ρ) (ρ ow) sh x v:=by
 cases sh with
 |mp k e=>
  rcases h with h|⟨b,l,d,hv,f,i,m⟩
  ·exact .inl h
  ·exact .inr ⟨b,l,d,hv,by simp[Gh.ren,f],i,m⟩
 |_=>exact h.elim
theorem jZ.ren {ρ:aG->aG} {ow:aG} {c:CV} {v:Value} (h:jZ w g ow c v):jZ w (g.ren ρ) (ρ ow) c v:=by
 unfold jZ at h ⊢;split
 ·trivial
 ·rename_i e;rw[e]at h;exact h
 ·rename_i e;rw[e]at h;simp only at h ⊢;split
  ·rename_i hs;rw[if_pos hs]at h;exact h.ren
  ·rename_i hs;rw[if_neg hs]at h;split
   ·rename_i d;rw[if_pos d]at h;exact h.ren
   ·rename_i d;rw[if_neg d]at h;exact h
 ·rename_i e;rw[e]at h;simp only at h ⊢;split
  ·rename_i hs;rw[if_pos hs]at h;exact h.ren
  ·rename_i hs;rw[if_neg hs]at h;exact h
theorem aF.ren {ρ:aG->aG} {mk mk':Nat->aG}: ∀(cs:LC) (i j:Nat) (d:LV),(∀k,k<cs.length->ρ (mk (i+k))=mk' (j+k))->aF w g mk i cs d->aF w (g.ren ρ) mk' j cs d
 | [],_,_,_,_,h=>h
 |c::cs,i,j,_,f,⟨v,l,e,m,h⟩=>⟨v,l,e,by have:=m.ren (ρ:=ρ);rw[show ρ (mk i)=mk' j from f 0 (by simp)]at this;exact this,
  aF.ren cs (i+1) (j+1) l (λ k p=>by have:=f (k+1) (by simp;omega);rw[show i+(k+1)=i+1+k by omega,show j+(k+1)=j+1+k by omega]at this;exact this) h⟩
theorem aF.left {mk:Nat->aG} (k:Keeps w w' g.F g'.F): ∀(cs:LC) (i:Nat) (d:LV),aF w g mk i cs d->aF w' g' mk i (cs.map CV.left) d
 | [],_,_,h=>h
 |c::cs,i,_,⟨v,f,e,l,h⟩=>⟨v,f,e,by
  unfold CV.left
  cases m:c.isPure with
  |true=>simp only[cond_true];exact l.pure k m
  |false=>simp only[cond_false];trivial,aF.left k cs (i+1) f h⟩
end
section
variable {E:Env} {C:Ctx} {s s':St} {a a':Act} {w w':World} {g g':Gh}
def Gh.freeze (g:Gh) (b m:Nat):Gh:={g with F:=λ d o=>g.F d o\/(d=b/\o<m)}
theorem cell_of_heap {b:Nat} {cur:Array Value} {d:TypeId} {f:Nat×Nat} (h:w.heap[b]? =some (.cells cur d f)) (o:Nat):w.cell? ⟨b,o,none⟩=cur[o]? :=by
 simp[World.cell?,h]
theorem lt_of_heap {b:Nat} {o:Obj} (h:w.heap[b]? =some o):b<w.heap.size:=(abz.1 h).1
theorem Base.freeze {w0:World} {F0:Fz} {X:Nat->Prop} (h:Base w0 F0 X w g) {b:Nat} {ow:aG} (e:g.own b=some ow) (m:Nat):Base w0 F0 X w (g.freeze b m):=
 ⟨h.os,h.tape,h.output,h.size,h.blk,h.own,h.keeps.trans ⟨λ _ _ d=> .inl d,λ _ _ _=>rfl⟩,λ f o d=>by
  rcases d with d|⟨rfl,_⟩
  ·exact h.fz f o d
  ·obtain⟨i,k⟩:=h.own _ _ e;exact⟨.inr i,k⟩,h.frz⟩
theorem zq.freeze {w0:World} {F0:Fz} {X:Nat->Prop} (A:Base w0 F0 X w g) {ow:aG} {q:Bool} {sh:Sh} (d:sh.qH=true) {x:El sh} {v:Value} (h:zq w g ow q sh x v):
 ∃g',Fr (λ o=>o≠ow) w w g g'/\Base w0 F0 X w g'/\g'.own=g.own/\g'.at_=g.at_/\jL w g'.F sh x v/\zq w g' ow true sh x v:=by
 rcases h with⟨hv,i⟩|⟨b,c,cur,C,hv,i,D,t,B,hs,l,u⟩
 ·refine⟨g,Fr.refl _ _ _,A,rfl,rfl,?_,.inl ⟨hv,i⟩⟩;rw[yt d];exact⟨none,0,by rw[hv,i],by omega,.inl i⟩
 ·have l:=(qY d).1 l;have k:Keeps w w g.F (g.freeze b (aQ sh x*sh.n)).F:=⟨λ _ _ u=> .inl u,λ _ _ _=>rfl⟩;have m:=l.length
  have p:O9 w (g.freeze b (aQ sh x*sh.n)).F ⟨b,0,none⟩ (cur.toList.take (aQ sh x*sh.n)):=by
   intro j y;rw[m]at y;refine⟨?_,.inr ⟨rfl,by simpa using y⟩⟩;rw[cell_of_heap B,aam,if_pos y];simp
  refine⟨g.freeze b (aQ sh x*sh.n),⟨k,λ E ow' z e=>⟨e,rfl,λ o f=> ?_⟩⟩,A.freeze t _,rfl,rfl,?_,?_⟩
  ·rcases f with f|⟨rfl,_⟩
   ·exact f
   ·rw[t]at e;cases e;exact absurd rfl z
  ·rw[yt d];exact⟨_,c,hv,i,.inr ⟨_,_,rfl,rfl,p,l.keeps k⟩⟩
  ·refine .inr ⟨b,c,cur,C,hv,i,D,t,B,hs,(qY d).2 (l.keeps k),λ o=> ?_⟩;simp only[Gh.freeze,u o,true_and];constructor
   ·rintro(⟨_,h⟩|h)
    ·exact h
    ·exact h
   ·intro h;exact .inr h
theorem zU {ow:aG} {c:CV} {v:Value} (hs:c.sh.qO=false) (d:c.sh.JR=false) (f:c.tg≠ .dead) (h:jZ w g ow c v):jL w g.F c.sh c.x v:=by
 unfold jZ at h;split at h
 ·rename_i e;exact absurd e f
 ·exact h
 ·simpa [hs,d]using h
 ·simpa [hs]using h
theorem jZ.weak {w0:World} {F0:Fz} {X:Nat->Prop} (y:Base w0 F0 X w g) {ow:aG} {c:CV} {v:Value} {tg:Tg} (d:Tg.le tg c.tg=true) (B:c.sh.adn tg=true) (h:jZ w g ow c v):
 ∃g',Fr (λ o=>o≠ow) w w g g'/\Base w0 F0 X w g'/\g'.own=g.own/\g'.at_=g.at_/\jZ w g' ow (c.to tg) v/\jZ w g' ow (leftAs c tg) v:=by
 obtain⟨sh,z,x⟩:=c;have u:tg= .pure->z≠ .dead:=by rintro rfl;cases z<;>simp[Tg.le]at d ⊢
 have l:sh.qO=false->sh.JR=false->z≠ .dead->jL w g.F sh x v:=λ hs G I=>zU (c:=⟨sh,z,x⟩) hs G I h;by_cases A:sh.qH=true
 ·have m:=fZ A
  cases tg with
  |dead=>exact⟨g,Fr.refl _ _ _,y,rfl,rfl,trivial,h⟩
  |pure=>
   cases z with
   |dead=>simp[Tg.le]at d
   |pure=>exact⟨g,Fr.refl _ _ _,y,rfl,rfl,h,h⟩
   |own=>
    simp only[jZ,m,if_true]at h;obtain⟨g',f,C,o',a',p,t⟩:=h.freeze y A;exact⟨g',f,C,o',a',p,by simp only[leftAs,CV.to,jZ,m,if_true];exact t⟩
   |tip=>
    simp only[jZ,m,if_true]at h;obtain⟨g',f,C,o',a',p,t⟩:=h.freeze y A;exact⟨g',f,C,o',a',p,by simp only[leftAs,jZ,m,if_true];exact t⟩
  |tip=>
   cases z with
   |dead=>simp[Tg.le]at d
   |pure=>simp[Tg.le]at d
   |tip=>exact⟨g,Fr.refl _ _ _,y,rfl,rfl,h,trivial⟩
   |own=>
    simp only[jZ,m,if_true]at h;obtain⟨g',f,C,o',a',p,t⟩:=h.freeze y A;exact⟨g',f,C,o',a',by simp only[CV.to,jZ,m,if_true];exact t,trivial⟩
  |own=>
   cases z with
   |own=>exact⟨g,Fr.refl _ _ _,y,rfl,rfl,h,trivial⟩
   |dead=>simp[Tg.le]at d
   |pure=>simp[Tg.le]at d
   |tip=>simp[Tg.le]at d
 by_cases m:sh.qO=true
 ·rcases Uz m with e|⟨es,rfl⟩
  ·exact absurd e A
  ·cases tg with
   |dead=>exact⟨g,Fr.refl _ _ _,y,rfl,rfl,trivial,h⟩
   |own=>
    cases z with
    |own=>exact⟨g,Fr.refl _ _ _,y,rfl,rfl,h,trivial⟩
    |dead=>simp[Tg.le]at d
    |pure=>simp[Tg.le]at d
    |tip=>simp[Tg.le]at d
   |pure=>simp[Sh.adn]at B
   |tip=>simp[Sh.adn]at B
 by_cases D:sh.JR=true
 ·cases sh with
  |mp k e=>
   cases tg with
   |dead=>exact⟨g,Fr.refl _ _ _,y,rfl,rfl,trivial,h⟩
   |own=>
    cases z with
    |own=>exact⟨g,Fr.refl _ _ _,y,rfl,rfl,h,trivial⟩
    |dead=>simp[Tg.le]at d
    |pure=>simp[Tg.le]at d
    |tip=>simp[Tg.le]at d
   |pure=>simp[Sh.adn]at B
   |tip=>simp[Sh.adn]at B
  |_=>simp[Sh.JR]at D
 ·have q:sh.JR=false:=by simpa using D
  have i:sh.qO=false:=by simpa using m
  refine⟨g,Fr.refl _ _ _,y,rfl,rfl,?_,?_⟩
  ·cases tg with
   |dead=>trivial
   |pure=>exact l i q (u rfl)
   |own=>cases z<;>simp[Tg.le]at d;simp only[CV.to,jZ,i,q,abb,if_false];exact l i q (by simp)
   |tip=>cases z<;>simp[Tg.le]at d<;>(simp only[CV.to,jZ,i,abb,if_false];exact l i q (by simp))
  ·cases tg with
   |dead=>trivial
   |own=>trivial
   |tip=>trivial
   |pure=>
    have E:=l i q (u rfl)
    cases z with
    |dead=>exact absurd rfl (u rfl)
    |pure=>exact E
    |own=>simp only[leftAs,CV.to,jZ,i,abb,if_false];exact E
    |tip=>simp only[leftAs,jZ,i,abb,if_false];exact E
theorem Ej {w0:World} {F0:Fz} {X:Nat->Prop} {mk:Nat->aG} (d: ∀i j,mk i=mk j->i=j): ∀(cs:LC) (want:List (Sh×Tg)) (ds:LC) (i:Nat) (k:LV) (g:Gh),
 Base w0 F0 X w g->weaken cs want=some ds->aF w g mk i cs k->
 ∃g',Fr (λ o=> ∀j,i<=j->j<i+cs.length->o≠mk j) w w g g'/\Base w0 F0 X w g'/\g'.own=g.own/\g'.at_=g.at_/\aF w g' mk i ds k/\aF w g' mk i (iL cs want) k/\ds.length=cs.length/\
  ds.map CV.sh=cs.map CV.sh/\(iL cs want).map CV.sh=cs.map CV.sh
 | [],[],ds,i,k,g,m,f,h=>by
   simp only[weaken,aag]at f;subst f;exact⟨g,Fr.refl _ _ _,m,rfl,rfl,h,h,rfl,rfl,rfl⟩
 | [],_::_,ds,i,k,g,m,f,h=>by simp[weaken]at f
 |_::_,[],ds,i,k,g,m,f,h=>by simp[weaken]at f
 |c::cs,(sh,tg)::want,ds,i,k,g,m,f,⟨v,l,e,C,h⟩=>by
  simp only[weaken,cond_eq_ite,aae]at f;split at f
  ·rename_i p;obtain⟨G,t,rfl⟩:=aaK.1 f;have y:c.sh.adn tg=true:=by rw[aY7 p.1.1];exact p.2
   obtain⟨D,z,I,K,L,p1,q1⟩:=C.weak m p.1.2 y;have A: ∀j,mk (i+1+j)≠mk i:=λ j e=>by have:=d _ _ e;omega
   have M:aF w D mk (i+1) cs l:=by
    refine aF.of cs (i+1) l h.length λ j c v p hv=> ?_;obtain⟨u,N,O⟩:=h.get cs (i+1) l j c p;rw[N]at hv;cases hv;exact O.fr z (A j)
   obtain⟨g2,q,Q,R,S,p2,q2,U,W,Y⟩:=Ej d cs want G (i+1) l D I t M;have E: ∀j,i+1<=j->j<i+1+cs.length->mk i≠mk j:=λ j Z _ e=>by have:=d _ _ e;omega
   refine⟨g2,(z.mono λ o B=>by simpa using B i (aav _) (by simp)).trans (q.mono λ o B j Z a0=>B j (by omega) (by simp;omega)),Q,R.trans K,S.trans L,⟨v,l,e,p1.fr q E,p2⟩,?_,by simp[U],by simp[CV.to,W],?_⟩
   ·refine⟨v,l,e,?_,q2⟩
    cases hp:c.isPure with
    |true=>simp only[cond_true];exact C.pure (z.keeps.trans q.keeps) hp
    |false=>simp only[cond_false];exact q1.fr q E
   ·simp only[iL,abm,Y,abh,and_true]
    cases c.isPure with
    |true=>rfl
    |false=>
     simp only[cond_false];cases tg<;>simp only[leftAs,CV.kill];cases c.tg<;>simp[CV.to]
  ·cases f
end
section
variable {E:Env} {C:Ctx} {s s':St} {a a':Act} {w w':World} {g g':Gh}
theorem tK {cs ds:LC} {j:Nat} (h:j+ds.length<=cs.length):(setCells cs j ds).length=cs.length:=by
 simp[setCells];omega
theorem kY {cs ds:LC} {j:Nat} (h:j+ds.length<=cs.length) (i:Nat):(setCells cs j ds)[i]? =if j<=i/\i<j+ds.length then ds[i-j]? else cs[i]? :=by
 unfold setCells;have d:min j cs.length=j:=by omega
 by_cases e:i<j
 ·rw[if_neg (by omega),aaD,aaw (by simp;omega),aam,if_pos e]
 ·by_cases f:i<j+ds.length
  ·rw[if_pos ⟨by omega,f⟩,aaw (by simp;omega),aaC (by simp;omega)];simp[d]
  ·rw[if_neg (by omega),aaC (by simp;omega)];simp only[aaq,aaE,d,aar];congr 1;omega
theorem aF.setCells {mk:Nat->aG} {cs ds:LC} {d us:LV} {i j:Nat} (t:j+ds.length<=cs.length) (y:us.length=ds.length) (h:aF w g mk i cs d)
 (K:aG->Prop) (f:Fr K w w' g g') (z: ∀k,k<cs.length-> ¬(j<=k/\k<j+ds.length)->K (mk (i+k))) (A:aF w' g' mk (i+j) ds us):
 aF w' g' mk i (setCells cs j ds) (d.take j++us++d.drop (j+us.length)):=by
 have B:=h.length;refine aF.of _ _ _ (by rw[tK t];simp;omega) λ k c v e hv=> ?_;rw[kY t]at e;split at e
 ·rename_i l;obtain⟨u,m,p⟩:=A.get ds (i+j) us (k-j) c e
  have:(d.take j++us++d.drop (j+us.length))[k]? =us[k-j]? :=by
   rw[aaw (by simp;omega),aaC (by simp;omega)];congr 1;simp;omega
  rw[this,m]at hv;cases hv
  rwa [show i+j+(k-j)=i+k by omega]at p
 ·rename_i l
  have q:k<cs.length:=by
   rcases aaF k cs.length with h|h
   ·exact h
   ·simp[aai h]at e
  obtain⟨u,m,p⟩:=h.get cs i d k c e
  have:(d.take j++us++d.drop (j+us.length))[k]? =d[k]? :=by
   by_cases C:k<j
   ·rw[aaD,aaw (by simp;omega),aam,if_pos C]
   ·rw[aaC (by simp;omega)];simp only[aaq,aaE,aar];congr 1;omega
  rw[this,m]at hv;cases hv;exact p.fr f (z k q l)
theorem FC {α:Type} (d:List α) (j m:Nat):d.take j++(d.drop j).take m++d.drop (j+((d.drop j).take m).length)=d:=by
 rw[aaD]
 have:(d.drop j).take m++d.drop (j+((d.drop j).take m).length)=d.drop j:=by
  have e:d.drop (j+((d.drop j).take m).length)=(d.drop j).drop ((d.drop j).take m).length:=by rw[List.drop_drop]
  rw[e]
  conv=>rhs;rw[←abj m (d.drop j)]
  congr 1;by_cases f:m<=(d.drop j).length
  ·rw[aaE,abP f]
  ·rw[aaE,Nat.min_eq_right (by omega),acT,aa2 (by omega)]
 rw[this,abj]
def CB (a:Act) (w w':World) (g:Gh) (r:Root) (c:Nat) (cs ds:LC):Prop:=
 ∀(i:Nat) es d,ds[i]? =some ⟨.dl es,.own,d⟩-> ∃l,cs[i]? =some ⟨.dl es,.own,l⟩/\ ∀b len k,(aC a w g r)[c+i]? =some (.slice (some ⟨b,0,none⟩) len k)->w'.heap[b]? =w.heap[b]?
theorem CB.of {a:Act} {w w':World} {g:Gh} {r:Root} {c:Nat} {cs ds:LC} (h: ∀d,d∈ds->d.tg= .own->d.sh.qH=true\/d.sh.qO=false):CB a w w' g r c cs ds:=by
 intro i es f e;rcases h _ (aaj e) rfl with h|h<;>simp[Sh.qH,Sh.qO]at h
theorem kK (h:Rel E C s a w g) {p:Pl} {cs ds:LC} {us:List Upd} (hc:bf s p ds.length=some cs) (t:jU s p ds false=some us) (W:ds.map CV.sh=cs.map CV.sh)
 (f:Fr (λ o=>(∀j,p.cell<=j->j<p.cell+ds.length->o≠dQ p.root j)/\ ∀j,o≠ .hand j) w w' g g') (hb:Base C.w0 C.F0 C.X w' g') (u:g'.at_=g.at_)
 (B:aF w' g' (dQ p.root) p.cell ds (((aC a w g p.root).drop p.cell).take ds.length)) (y:CB a w w' g p.root p.cell cs ds):Rel E C (s.dX us) a w' g':=by
 rw[bQ]at hc;obtain⟨cells,e,hl,_,rfl⟩:=hc
 have D: ∀(i:Nat) es l v,cells[i]? =some (⟨.dl es,.own,l⟩,v)-> ¬(p.cell<=i/\i<p.cell+ds.length)-> ∀b len k,(aC a w g p.root)[i]? =some (.slice (some ⟨b,0,none⟩) len k)->w'.heap[b]? =w.heap[b]? :=by
  intro i es l v d hn b len k hv
  have M:i<cells.length:=by
   rcases aaF i cells.length with h|h
   ·exact h
   ·simp[aai h]at d
  have a5:bf s ⟨p.root,p.inst,[],i,none⟩ 1=some [⟨.dl es,.own,l⟩]:=by
   rw[bQ];refine⟨cells,e,M,λ j x hx=>by simp at hx,?_⟩;rw[aaI M];rw[aac M]at d;simp[aak d]
  refine h.wV f ⟨λ j S Y e=> ?_,λ j=>jE _ _ _⟩ a5 hv;have:=wR _ _ _ e;simp only at this;subst this;exact hn ⟨S,Y⟩
 unfold jU at t
 cases U:p.root with
 |tmp n=>
  rw[U]at e t f B;simp only[aB]at e;simp only[]at t;split at e
  ·rename_i ag Z v z;rw[z]at t;simp only[cond_eq_ite,abb,if_false]at t;split at t
   ·cases t;cases e;have q:p.cell+ds.length<=Z.length:=by simpa using hl
    have ht:=h.tm n;rw[z]at ht;refine h.KZ (f.mono λ o I=>⟨λ j _ _=>I.1 j,I.2⟩) hb u (λ b4 b5 e=> ?_) ?_
    ·cases e;refine⟨ag,Z,by rw[z],?_,λ i es N d=> ?_⟩
     ·apply aaT;intro i;simp only[aas,kY q];split
      ·rename_i d;have:=congrArg (λ l=>l[i-p.cell]?) W;simp only[←qo,nN,aas,aam,aar]at this;rw[if_pos (by omega),show p.cell+(i-p.cell)=i by omega]at this;exact this
      ·rfl
     ·rw[kY q]at d;split at d
      ·rename_i hj;obtain⟨l,A,e2⟩:=y _ es N d;refine⟨l,?_,λ b len k hv=>e2 b len k (by rw[U,show p.cell+(i-p.cell)=i by omega];exact hv)⟩;simp only[aas,aam,aar]at A;rw[if_pos (by omega),show p.cell+(i-p.cell)=i by omega]at A;simpa using A
      ·rename_i hj;exact⟨N,d,λ b len k hv=>D i es N _ (by rw[aas,d];rfl) hj b len k (by rw[U];exact hv)⟩
    ·refine⟨ht.1,?_⟩;have O:=ht.2.length;have:=aF.setCells (w':=w') (g':=g') (us:=(((a.eval (.tmp n)).cells.toList.drop p.cell).take ds.length)) q (by simp[O];omega) ht.2 _ f (λ k hk hn=>⟨λ j S Y e=>by simp[dQ]at e;omega,λ j=>by simp⟩) (by rw[aa0];exact B)
     rwa [FC]at this
   ·cases t
  ·cases e
 |box n=>
  rw[U]at e t f B;simp only[aB]at e;simp only[]at t;split at e
  ·rename_i b z;rw[z]at t;simp only[cond_eq_ite,abb,if_false]at t;split at t
   ·cases t;simp only[aag,aay]at e;obtain⟨A,e2⟩:=e;subst e2;obtain⟨cur,et,S,Y,h3,h4⟩:=h.bx n b z;obtain⟨o1,o2,o3⟩:=f.own _ _ ⟨λ j _ _=>by simp[dQ],λ j=>by simp⟩ Y;have Q:aC a w g (.box n)=cur.toList:=by simp only[aC,S]
    have q:p.cell+ds.length<=(b.cells.map (·.1)).length:=by simpa using hl
    have b2:((ds.zip (b.cells.drop p.cell)).map λ x=>((x.1,x.2.2):CV×Nat)).length=ds.length:=by simp;omega
    have K: ∀(i:Nat) (c:CV) (v:Nat),b.cells[i]? =some (c,v)->
     ∃R,(b.cells.take p.cell++(ds.zip (b.cells.drop p.cell)).map (λ x=>((x.1,x.2.2):CV×Nat))++b.cells.drop (p.cell+ds.length))[i]? =some (R,v)/\
      (setCells (b.cells.map (·.1)) p.cell ds)[i]? =some R/\R.sh=c.sh:=by
     intro i c v d
     have c1:i<b.cells.length:=by
      rcases aaF i b.cells.length with h|h
      ·exact h
      ·simp[aai h]at d
     rw[kY q];by_cases h5:i<p.cell
     ·refine⟨c,?_,by rw[if_neg (by omega)];simp[d],rfl⟩;rw[aaD,aaw (by simp;omega),aam,if_pos h5,d]
     ·by_cases h6:i<p.cell+ds.length
      ·have y:i-p.cell<ds.length:=by omega
       refine⟨ds[i-p.cell],?_,by rw[if_pos (by omega)];exact aac y,?_⟩
       ·rw[aaw (by simp;omega),aaC (by simp;omega)];have A:i-(b.cells.take p.cell).length=i-p.cell:=by simp;omega
        have hz:(ds.zip (b.cells.drop p.cell))[i-p.cell]? =some (ds[i-p.cell],(c,v)):=
         acy.2 ⟨aac y,(by rw[aar,show p.cell+(i-p.cell)=i by omega];exact d)⟩
        rw[A,aas,hz];rfl
       ·have:=congrArg (λ l=>l[i-p.cell]?) W;simp only[abM,aas,aam,aar]at this;rw[if_pos y,show p.cell+(i-p.cell)=i by omega,d,aac y]at this;simpa using this
      ·refine⟨c,?_,by rw[if_neg (by omega)];simp[d],rfl⟩;rw[aaC (by simp;omega),aar];have A:p.cell+ds.length+(i-(b.cells.take p.cell++(ds.zip (b.cells.drop p.cell)).map (λ x=>((x.1,x.2.2):CV×Nat))).length)=i:=by simp;omega
       rw[A,d]
    have L:(b.cells.take p.cell++(ds.zip (b.cells.drop p.cell)).map (λ x=>((x.1,x.2.2):CV×Nat))++b.cells.drop (p.cell+ds.length)).length=b.cells.length:=by simp;omega
    have a2:(b.cells.take p.cell++(ds.zip (b.cells.drop p.cell)).map (λ x=>((x.1,x.2.2):CV×Nat))++b.cells.drop (p.cell+ds.length)).map (·.1)=setCells (b.cells.map (·.1)) p.cell ds:=by
     apply aaT;intro i;rw[aas];rcases aaF i b.cells.length with d|d
     ·obtain⟨R,k1,G,_⟩:=K i b.cells[i].1 b.cells[i].2 (aac d);rw[k1,G];rfl
     ·rw[aai (by rw[L];exact d),aai (by rw[tK q];simpa using d)];rfl
    refine h.agv (f.mono λ o I=>⟨λ j _ _ e=> ?_,I.2.2⟩) hb (λ m _=>by rw[u]) (.inr ⟨b,z,rfl,L,by rw[u],λ i c v d=> ?_⟩) ?_
    ·exact I.1 j (by simpa [dQ]using e)
    ·obtain⟨R,k1,G,k3⟩:=K i c v d;refine⟨R,v,k1,k3,aav _,λ _=>⟨by simp only[aC,u,o2],λ es N e=> ?_⟩⟩;rw[kY q]at G;split at G
     ·rename_i hj;rw[e]at G;obtain⟨l,A,e2⟩:=y _ es N G;refine⟨l,?_,λ b len k hv=>e2 b len k (by rw[U,show p.cell+(i-p.cell)=i by omega];exact hv)⟩;simp only[aas,aam,aar]at A;rw[if_pos (by omega),show p.cell+(i-p.cell)=i by omega,d]at A;simpa using A
     ·rename_i hj;rw[aas,d]at G;have G:c=R:=by simpa using G
      subst G;exact⟨N,e,λ b len k hv=>D i es N v (by rw[d,e]) hj b len k (by rw[U];exact hv)⟩
    ·refine⟨cur,et,by rw[u];exact o2.trans S,by rw[u];exact o1,λ o I=>h3 o (o3 o (by rw[u]at I;exact I)),?_⟩;simp only[a2];rw[Q]at B;have O:=h4.length;have:=aF.setCells (w':=w') (g':=g') (us:=((cur.toList.drop p.cell).take ds.length)) q (by simp at O ⊢;omega) h4 _ f (λ k hk hn=>⟨λ j S Y e=>by simp[dQ]at e;omega,λ j=>by simp⟩) (by rw[aa0];exact B)
     rwa [FC]at this
   ·cases t
  ·cases e
end
section
variable {E:Env} {C:Ctx} {s s':St} {a a':Act} {w w':World} {g g':Gh}
def V9:Operand->Nat->aG
 | .tmp n=> .tm n
 |_=> .hand
theorem Gt {α:Type} {o:Option α} {x:α} (h:(Dyn.of o).run=some x):o=some x:=by
 cases o with
 |none=>simp[Dyn.of,Dyn.run]at h
 |some y=>simpa [Dyn.of,Dyn.run]using h
theorem aT {α β:Type} {d:Dyn α} {q:α->Dyn β} {x:β} (h:(d.bind q).run=some x): ∃y,d.run=some y/\(q y).run=some x:=by
 rw[Dyn.run_bind]at h;exact aa4.1 h
theorem zV (w:World) (g:Gh) (mk:Nat->aG) {c:CV} {v:Value} (e:c.tg= .pure) (hv:isAgg v=false) (h:jL w g.F c.sh c.x v) (d:v.cells= #[v]):EO w g mk 0 false [c] v:=
 ⟨hv,v,[],by rw[d],by unfold jZ;rw[e];exact h,rfl⟩
theorem adF (w:World) (g:Gh) (s:St) (a:Act) (mk:Nat->aG) (v:Value):(Om v= .nilc/\v= .slice none 0 0)\/TV s a w g mk (Om v) v:=by
 cases v with
 |int k n=>exact .inr (zV w g mk rfl rfl rfl rfl)
 |bool b=>exact .inr (zV w g mk rfl rfl rfl rfl)
 |string b=>exact .inr (zV w g mk rfl rfl rfl rfl)
 |slice A l c=>
  unfold Om;split
  ·rename_i h;cases h
  ·rename_i h;cases h
  ·rename_i h;cases h
  ·rename_i h;cases h;exact .inl ⟨rfl,rfl⟩
  ·exact .inr trivial
 |_=>exact .inr trivial
theorem Rel.at_ (h:Rel E C s a w g) (x:Operand):(at_ E s x= .nilc/\a.eval x= .slice none 0 0)\/TV s a w g (V9 x) (at_ E s x) (a.eval x):=by
 cases x with
 |tmp n=>exact .inr (h.tm n)
 |const v=>exact adF w g s a _ v
 |global d=>
  right;simp only[Go.AM.at_]
  cases e:E.glob d with
  |none=>trivial
  |some cs=>
   obtain⟨i,k,l,m⟩:=h.glob d cs e;exact⟨⟨d,0,none⟩,k,rfl,l,i,m⟩
 |func f=>exact .inr rfl
theorem afX (cs:LC):(cs.map CV.left).map CV.sh=cs.map CV.sh:=by
 induction cs with
 |nil=>rfl
 |cons c cs d=>
  simp only[abm,d,abh,and_true];unfold CV.left;cases c.isPure<;>rfl
theorem RU (h:Rel E C s a w g) {hs:LC} {hv:LV} (B:aF w g .hand 0 hs hv) {p:Pl} {m:Nat} {cs:LC} {us:List Upd} (A:bf s p m=some cs)
 (D:jU s p (cs.map CV.left) false=some us):
 ∃g',Rel E C (s.dX us) a w g'/\aF w g' .hand 0 (hs++cs) (hv++((aC a w g p.root).drop p.cell).take m)/\g'.at_=g.at_/\Keeps w w g.F g'.F:=by
 obtain⟨u,y⟩:=h.pl A
 let ρ:aG->aG:=λ o=>match p.root,o with
  | .tmp n,.tm k j=>if k=n/\p.cell<=j/\j<p.cell+m then .hand (hs.length+(j-p.cell))else o
  | .box n,.cell k j=>if k=n/\p.cell<=j/\j<p.cell+m then .hand (hs.length+(j-p.cell))else o
  |_,o=>o
 have l: ∀o,(∀j,p.cell<=j->j<p.cell+(cs.map CV.left).length->o≠dQ p.root j)->ρ o=o:=by
  intro o v;simp only[aaH,y]at v;simp only[ρ]
  cases z:p.root with
  |tmp n=>
   cases o<;>simp only;rename_i k j;split
   ·rename_i f;exact absurd (by rw[z,f.1];rfl) (v j f.2.1 f.2.2)
   ·rfl
  |box n=>
   cases o<;>simp only;rename_i k j;split
   ·rename_i f;exact absurd (by rw[z,f.1];rfl) (v j f.2.1 f.2.2)
   ·rfl
 have q: ∀i,ρ (.hand i)= .hand i:=λ i=>l _ (λ j _ _=>by cases p.root<;>simp[dQ])
 have t: ∀k,k<m->ρ (dQ p.root (p.cell+k))= .hand (hs.length+k):=by
  intro k f;simp only[ρ]
  cases z:p.root with
  |tmp n=>simp only[dQ];rw[if_pos ⟨trivial,by omega,by omega⟩];congr 1;omega
  |box n=>simp only[dQ];rw[if_pos ⟨trivial,by omega,by omega⟩];congr 1;omega
 refine⟨g.ren ρ,?_,?_,rfl,Keeps.refl _ _⟩
 ·refine kK h (ds:=cs.map CV.left) (by simpa [y]using A) D (afX cs) (Fr.ren w g λ o v=>l o v.1) (h.base.ren ρ) rfl ?_ ?_;have:=aF.left (w':=w) (g':=g.ren ρ) (mk:=dQ p.root) (Keeps.refl w g.F) cs p.cell _ u;simpa [y]using this;refine CB.of λ d G=> ?_;obtain⟨c,_,rfl⟩:=aaB.1 G;intro e;unfold CV.left at e
  cases u:c.isPure with
  |true=>
   rw[u]at e;have e:c.tg= .own:=e;simp[CV.isPure,Tg.isPure,e]at u
  |false=>rw[u]at e;cases e
 ·refine aF.append hs 0 hv cs _ (aF.ren hs 0 0 hv (λ k _=>by simpa using q (0+k)) B) ?_;rw[aa0];exact aF.ren cs p.cell hs.length _ (λ k f=>t k (by omega)) u
theorem OZ (e:Bool): ∀(ds:LC) (cs:List (CV×Nat)) (j:Nat),j+ds.length<=cs.length->
 setMany cs (Kw e j ds (cs.drop j))=cs.take j++((ds.zip (cs.drop j)).map λ x=>(x.1,bif e then x.2.2+1 else x.2.2))++cs.drop (j+ds.length)
 | [],cs,j,_=>by simp[Kw,setMany]
 |d::ds,cs,j,h=>by
  have f:j<cs.length:=by simp at h;omega
  rw[aaI f];simp only[Kw,setMany,List.zip_cons_cons,abm];have g:cs.drop (j+1)=(cs.set j (d,bif e then cs[j].2+1 else cs[j].2)).drop (j+1):=by rw[List.drop_set_of_lt (by omega)]
  have:=OZ e ds (cs.set j (d,bif e then cs[j].2+1 else cs[j].2)) (j+1) (by simp at h ⊢;omega);rw[←g]at this;rw[this]
  have i:(cs.set j (d,bif e then cs[j].2+1 else cs[j].2)).take (j+1)=cs.take j++[(d,bif e then cs[j].2+1 else cs[j].2)]:=by
   rw[aau,List.take_set_of_le (aav _)];simp[f]
  have k:(cs.set j (d,bif e then cs[j].2+1 else cs[j].2)).drop (j+1+ds.length)=cs.drop (j+(d::ds).length):=by
   rw[List.drop_set_of_lt (by omega)];congr 1;simp;omega
  rw[i,k];simp
theorem PI {p:Pl} {ds:LC} {d:Bool} {us:List Upd} (h:jU s p ds d=some us):s.dX (Nz s p ds d us)=s.dX us:=by
 unfold jU at h;unfold Nz
 cases f:p.root with
 |tmp n=>rfl
 |box n=>
  rw[f]at h;simp only[]at h ⊢
  cases e:s.bx n with
  |none=>rw[e]at h;cases h
  |some b=>
   rw[e]at h;simp only[cond_eq_ite,aae]at h;split at h
   ·rename_i g;cases h;have i:=abk g.2;simp only[zA,e,St.dX,acC,acS,Upd.on,aaL];rw[OZ d ds b.cells p.cell i];cases d<;>rfl
   ·cases h
theorem yF (cs ds:LC) (h:ds.length=cs.length):setCells cs 0 ds=ds:=by
 simp[setCells,h]
theorem WI (h:Rel E C s a w g) {hs:LC} {hv:LV} (f:aF w g .hand 0 hs hv) {p:Pl} {m:Nat} {cs:LC} {us:List Upd} (k:p.sub=none)
 (i:bf s p m=some cs) (d:DK s p cs=some us):
 ∃g',Rel E C (s.dX us) a w g'/\aF w g' .hand 0 (hs++cs) (hv++((aC a w g p.root).drop p.cell).take m)/\g'.at_=g.at_/\Keeps w w g.F g'.F:=by
 unfold DK at d
 cases e:bJ cs with
 |true=>
  rw[e]at d;simp only[cond_true,aag]at d;subst d;obtain⟨l,t⟩:=h.pl i;exact⟨g,h,aF.append hs 0 hv cs _ f (aF.vN (Keeps.refl _ _) cs p.cell _ _ e l),rfl,Keeps.refl _ _⟩
 |false=>
  rw[e]at d;simp only[cond_false,k,aaK]at d;obtain⟨q,d,rfl⟩:=d;rw[PI d];exact RU h f i d
end
section
variable {E:Env} {C:Ctx} {s s':St} {a a':Act} {w w':World} {g g':Gh}
theorem lg {c:CV} {sh:Sh} {y:El sh} (h:jY c sh=some y): ∃e:c.sh=sh,y=cast (congrArg El e) c.x:=by
 unfold jY at h;split at h
 ·rename_i d;exact⟨aY7 d,(aak h).symm⟩
 ·cases h
theorem zB {c:CV} {sh:Sh} {y:El sh} (h:jY c sh=some y) {v:Value} (d:jL w g.F c.sh c.x v):jL w g.F sh y v:=by
 obtain⟨e,rfl⟩:=lg h;obtain⟨f,i,k⟩:=c;cases e;exact d
theorem sK {ow:aG} {c:CV} {v:Value} (d:c.tg= .pure):jZ w g ow c v ↔ jL w g.F c.sh c.x v:=by
 unfold jZ;rw[d]
theorem cells_ok (mk:Nat->aG): ∀(es:List Sh) (x:ElA es) (i:Nat) (d:LV),dY w g.F es x d->aF w g mk i (cellsOf es x) d
 | [],_,_,_,h=>h
 | [s],x,i,d,h=>by
   simp only[dY]at h;obtain⟨v,e,h⟩:=h;exact⟨v,[],e,h,rfl⟩
 |s::t::ss,x,i,d,h=>by
  simp only[dY]at h;obtain⟨v,f,e,k,l⟩:=h;exact⟨v,f,e,k,cells_ok mk (t::ss) x.2 (i+1) f l⟩
theorem uw: ∀(es:List Sh) (x:ElA es),bJ (cellsOf es x)=true
 | [],_=>rfl
 | [s],x=>rfl
 |s::t::ss,x=>by
  have:=uw (t::ss) x.2;simp only[bJ,cellsOf,acP,aae]at this ⊢;exact⟨rfl,this⟩
theorem uN: ∀(es:List Sh) (x:ElA es),(cellsOf es x).map CV.sh=es
 | [],_=>rfl
 | [s],x=>rfl
 |s::t::ss,x=>by simp[cellsOf,uN (t::ss) x.2]
theorem uq {cs:LC} (h:bJ cs=true): ∀c,c∈cs->c.tg= .pure:=by
 intro c d;have:=aaV.1 h c d;unfold CV.isPure Tg.isPure at this;split at this<;>simp_all
theorem DN (sh t:Sh) (ss:List Sh) (c:CV) (cs:LC):iq (sh::t::ss) (c::cs)=(match jY c sh,iq (t::ss) cs with
 |some y,some z=>some (y,z)
 |_,_=>none):=rfl
theorem aO {α:Type} {o:Option α} {x:α} (h:o=some x) (e:o=none):False:=by rw[e]at h;cases h
theorem qp {sh t:Sh} {ss:List Sh} {c:CV} {cs:LC} {x:ElA (sh::t::ss)} (h:iq (sh::t::ss) (c::cs)=some x):
 ∃y z,jY c sh=some y/\iq (t::ss) cs=some z/\x=(y,z):=by
 rw[DN]at h
 cases d:jY c sh with
 |none=>rw[d]at h;cases h
 |some y=>
  cases e:iq (t::ss) cs with
  |none=>rw[d,e]at h;cases h
  |some z=>rw[d,e]at h;exact⟨y,z,rfl,rfl,(aak h).symm⟩
theorem EJ (mk:Nat->aG): ∀(es:List Sh) (cs:LC) (x:ElA es) (i:Nat) (k:LV),iq es cs=some x->(∀c,c∈cs->c.tg= .pure)->aF w g mk i cs k->dY w g.F es x k
 | [],[],_,_,_,_,_,h=>h
 | [],_::_,_,_,_,d,_,_=>(aO d rfl).elim
 | [s],[],_,_,_,d,_,_=>(aO d rfl).elim
 | [s],[c],x,i,k,d,l,h=>by
   obtain⟨v,m,e,p,f⟩:=h;have f:m= []:=f;subst f;exact⟨v,e,zB d ((sK (l c (by simp))).1 p)⟩
 | [s],_::_::_,_,_,_,d,_,_=>(aO d rfl).elim
 |s::t::ss,[],_,_,_,d,_,_=>(aO d rfl).elim
 |s::t::ss,c::cs,x,i,k,d,l,h=>by
  obtain⟨v,m,e,p,f⟩:=h;obtain⟨y,z,q,u,rfl⟩:=qp d;exact⟨v,m,e,zB q ((sK (l c (by simp))).1 p),EJ mk (t::ss) cs z (i+1) m u (λ c A=>l c (by simp[A])) f⟩
theorem Iy: ∀(es:List Sh) (cs:LC) (x:ElA es),iq es cs=some x->cs.map CV.sh=es
 | [],[],_,_=>rfl
 | [],_::_,_,d=>(aO d rfl).elim
 | [s],[],_,d=>(aO d rfl).elim
 | [s],[c],x,d=>by
   obtain⟨e,_⟩:=lg d;simp[e]
 | [s],_::_::_,_,d=>(aO d rfl).elim
 |s::t::ss,[],_,d=>(aO d rfl).elim
 |s::t::ss,c::cs,x,d=>by
  obtain⟨y,z,f,g,_⟩:=qp d;obtain⟨e,_⟩:=lg f;have:=Iy (t::ss) cs z g;simp[e,this]
theorem EC: ∀(es:List Sh) (cs:LC),iq es (cs.map (·.to .pure))=iq es cs
 | [],[]=>rfl
 | [],_::_=>rfl
 | [s],[]=>rfl
 | [s],[c]=>rfl
 | [s],_::_::_=>rfl
 |s::t::ss,[]=>rfl
 |s::t::ss,c::cs=>by
  have d:=EC (t::ss) cs;have:jY (c.to .pure) s=jY c s:=rfl;rw[abm,DN,DN,this,d]
theorem Cm (mk:Nat->aG) (ss:List Sh) (t:RT (ElA ss)) (i:Nat) (d:LV) (h:qN w g.F (dY w g.F ss) t d):aF w g mk i (tV ss t) d:=by
 cases t with
 |mk x kids=>
  unfold qN at h;obtain⟨f,v,e,k,l⟩:=h;rw[e];exact aF.append _ i f _ _ (cells_ok mk ss x i f k) ⟨v,[],rfl,by simp only[jZ,jL];exact l,rfl⟩
theorem xP (ss:List Sh) (t:RT (ElA ss)):bJ (tV ss t)=true:=by
 have:=uw ss t.a;simp only[bJ,tV,acM,aae]at this ⊢;exact⟨this,rfl⟩
theorem Vs (mk:Nat->aG) (ss:List Sh) (cs:LC) (t:RT (ElA ss)) (i:Nat) (m:LV) (d:xA ss cs=some t) (u: ∀c,c∈cs->c.tg= .pure) (h:aF w g mk i cs m):qN w g.F (dY w g.F ss) t m:=by
 unfold xA at d;cases p:iq ss (cs.take ss.length)with
 |none=>rw[p]at d;cases d
 |some x=>
  rw[p]at d
  match l:cs.drop ss.length with
  | []=>rw[l]at d;cases d
  |_::_::_=>rw[l]at d;cases d
  | [k]=>
    rw[l]at d;simp only[]at d;cases f:jY k (.rsl ss)with
    |none=>rw[f]at d;cases d
    |some E=>
     rw[f]at d;cases d
     have G:cs.length=ss.length+1:=by
      have:=congrArg List.length l;simp at this;omega
     have B:=h.length;unfold qN;have y:=h.sub 0 ss.length;have z:=h.sub ss.length 1;simp only[abA,aaZ]at y;rw[l]at z;obtain⟨v,I,e,C,A⟩:=z;simp only[List.take_nil,aF]at A;subst A;refine⟨m.take ss.length,v,?_,EJ mk ss _ x i _ p (λ c D=>u c (abq D)) y,?_⟩
     ·rw[←e];have:(m.drop ss.length).take 1=m.drop ss.length:=aaJ (by simp;omega);rw[this,abj]
     ·have q:k.tg= .pure:=u k (abD (by rw[l];simp));exact zB f ((sK q).1 C)
theorem RY (ss:List Sh) (cs:LC):xA ss (cs.map (·.to .pure))=xA ss cs:=by
 unfold xA;rw[←acw,EC,←acv];cases iq ss (cs.take ss.length)with
 |none=>rfl
 |some x=>
  match cs.drop ss.length with
  | []=>rfl
  | [k]=>rfl
  |_::_::_=>rfl
theorem Ou {w0:World} {F0:Fz} {X:Nat->Prop} {mk:Nat->aG} (q: ∀i j,mk i=mk j->i=j) {cs:LC} {i:Nat} {t:LV} (D:Base w0 F0 X w g) (p:EP cs=true) (h:aF w g mk i cs t):
 ∃g',Fr (λ o=> ∀j,i<=j->j<i+cs.length->o≠mk j) w w g g'/\Base w0 F0 X w g'/\g'.own=g.own/\g'.at_=g.at_/\aF w g' mk i (cs.map (·.to .pure)) t:=by
 have E: ∀cs:LC,EP cs=true->weaken cs (cs.map λ c=>(c.sh,.pure))=some (cs.map (·.to .pure)):=by
  intro cs p
  induction cs with
  |nil=>rfl
  |cons c cs d=>
   simp only[EP,acP,aae]at p
   have u: ∀sh:Sh,Sh.beq sh sh=true:=by
    intro sh
    induction sh using Sh.rec (motive_2:=λ A=>aX A A=true)with
    |int k=>simp[Sh.beq]
    |bool=>rfl
    |str=>rfl
    |sl es d=>simpa [Sh.beq]using d
    |rsl es d=>simpa [Sh.beq]using d
    |dl es d=>simpa [Sh.beq]using d
    |mp k e l m=>simp[Sh.beq,l,m]
    |nil=>rfl
    |cons s ss l m=>simp[aX,l,m]
   have v:Tg.le .pure c.tg=true:=by
    obtain⟨sh,G,x⟩:=c;cases G<;>simp_all [Tg.le]
   have y:c.sh.adn .pure=true:=by
    have B:=p.1.2;have C:=p.1.1.2;cases hs:c.sh<;>first|rfl|(rw[hs]at B C;cases B<;>cases C)
   simp only[abm,weaken,u,v,y,Bool.and_self,cond_true,d p.2,aaL]
 obtain⟨g',f,b,o,z,r,_⟩:=Ej q cs _ _ i t g D (E cs p) h;exact⟨g',f,b,o,z,r⟩
theorem qC {ow:aG} {c:CV} {v:Value} (hs:c.sh.qO=true) (B:c.tg≠ .dead) (h:jZ w g ow c v):
 (∃A k,v= .slice A 0 k/\aQ c.sh c.x=0)\/
 ∃(ad:Addr) (k:Nat) (cs:LV),v= .slice (some ad) (aQ c.sh c.x) k/\aQ c.sh c.x<=k/\ad.spot=none/\(c.sh.qH=true->wB w g.F c.sh c.x cs)/\(∀j,j<cs.length->w.cell? ⟨ad.block,ad.off+j,none⟩=cs[j]?)/\
  (c.tg≠ .own->O9 w g.F ad cs)/\(c.tg≠ .pure->ad.off=0):=by
 have own: ∀l,zq w g ow l c.sh c.x v->(c.tg≠ .own->l=true)->c.tg≠ .pure->
  (∃A k,v= .slice A 0 k/\aQ c.sh c.x=0)\/
  ∃(ad:Addr) (k:Nat) (cs:LV),v= .slice (some ad) (aQ c.sh c.x) k/\aQ c.sh c.x<=k/\ad.spot=none/\(c.sh.qH=true->wB w g.F c.sh c.x cs)/\(∀j,j<cs.length->w.cell? ⟨ad.block,ad.off+j,none⟩=cs[j]?)/\
   (c.tg≠ .own->O9 w g.F ad cs)/\(c.tg≠ .pure->ad.off=0):=by
  intro l h C D;rcases h with⟨hv,p⟩|⟨b,k,cur,M,hv,p,N,O,E,G,q,I⟩
  ·exact .inl ⟨none,0,hv,p⟩
  ·have i:=q.length
   have d: ∀j,j<(cur.toList.take (aQ c.sh c.x*c.sh.n)).length->w.cell? ⟨b,j,none⟩=(cur.toList.take (aQ c.sh c.x*c.sh.n))[j]? :=by
    intro j f;rw[i]at f;rw[cell_of_heap E,aam,if_pos f];simp
   refine .inr ⟨⟨b,0,none⟩,k,_,hv,p,rfl,λ m=>(qY m).1 q,λ j f=>by simpa using d j f,λ t j f=> ?_,λ _=>rfl⟩;refine⟨by simpa using d j f,(I _).2 ⟨C t,by rw[i]at f;simpa using f⟩⟩
 unfold jZ at h;split at h
 ·rename_i e;exact absurd e B
 ·rename_i e
  have m:c.sh.qH=true:=by
   rcases Uz hs with e|⟨es,e⟩
   ·exact e
   ·obtain⟨K,Q,R⟩:=c;simp only at e;subst e;exact h.elim
  rw[yt m]at h;obtain⟨A,k,hv,p,h⟩:=h;rcases h with h|⟨ad,cs,L,u,z,q⟩
  ·exact .inl ⟨A,k,by rw[hv,h],h⟩
  ·exact .inr ⟨ad,k,cs,by rw[hv,L],p,u,λ _=>q,λ j f=>(z j f).1,λ _=>z,λ y=>absurd e y⟩
 ·rename_i e;rw[if_pos hs]at h;exact own false h (λ y=>absurd e y) (by rw[e];simp)
 ·rename_i e;rw[if_pos hs]at h;exact own true h (λ _=>rfl) (by rw[e];simp)
theorem Gu {ow:aG} {c:CV} {v:Value} (h:jZ w g ow c v) {i:Nat} {ds:LC} (m:(yT c i).run=some ds):
 c.sh.qO=true/\c.tg≠ .dead/\bJ ds=true/\ds.length=c.sh.n/\i<aQ c.sh c.x/\ ∃(ad:Addr) (k:Nat) (U:LV),v= .slice (some ad) (aQ c.sh c.x) k/\ad.spot=none/\U.length=c.sh.n/\
  (∀mk j,aF w g mk j ds U)/\(∀j,j<c.sh.n->w.cell? ⟨ad.block,ad.off+(i*c.sh.n+j),none⟩=U[j]?)/\
  (c.tg≠ .own->O9 w g.F ⟨ad.block,ad.off+i*c.sh.n,none⟩ U)/\(c.tg≠ .pure->ad.off=0):=by
 obtain⟨sh,W,x⟩:=c
 have N:W≠ .dead:=by
  rintro rfl;cases sh<;>exact aO m rfl
 have go: ∀{α:Type} {n:Nat} {R:α->LV->Prop} {L:List α->LV->Prop} (u:J7 n R L) (l:List α) (e:α) (cs:LV),L l cs->at? l i=some e->sh.n=n->
  i<l.length/\((cs.drop (i*n)).take n).length=n/\R e ((cs.drop (i*n)).take n)/\(∀j,j<n->((cs.drop (i*n)).take n)[j]? =cs[i*n+j]? /\i*n+j<cs.length):=by
  intro α n R L u l e cs y z hn
  have O:i<l.length:=by
   rcases aaF i l.length with h|h
   ·exact h
   ·simp[at?,aai h]at z
  have Q:=u.get l cs y i e z;have S:=u.length l cs y;have hm:i*n+n<=cs.length:=by rw[S,←abx];exact aaA _ O
  refine⟨O,u.len _ _ Q,Q,λ j B=>⟨?_,by omega⟩⟩;rw[aam,if_pos B,aar]
 cases sh with
 |sl es=>
  have C: ∃e,at? x i=some e/\ds=cellsOf es e:=by
   have u:(at? (α:=ElA es) x i).bind (λ e=>some (cellsOf es e))=some ds:=by
    cases W
    ·exact m
    ·exact m
    ·exact m
    ·exact absurd rfl N
   obtain⟨e,Y,Z⟩:=aa4.1 u;exact⟨e,Y,(aak Z).symm⟩
  obtain⟨e,z,rfl⟩:=C;have hp:=uw es e;have D:(cellsOf es e).length=es.length:=by have:=congrArg List.length (uN es e);simpa using this
  rcases qC rfl N h with⟨A,k,_,h0⟩|⟨ad,k,cs,hv,_,E,p,f,q,t⟩
  ·exfalso;have G:List.length x=0:=h0;simp[at?,aax G]at z
  ·obtain⟨O,y,Q,B⟩:=go (jX (w:=w) (F:=g.F) es) x e cs (p rfl) z rfl;refine⟨rfl,N,hp,D,O,ad,k,_,hv,E,y,λ mk j=>cells_ok mk es e j _ Q,λ j d=> ?_,λ I j d=> ?_,t⟩
   ·obtain⟨K,M⟩:=B j d;rw[K];exact f _ M
   ·rw[y]at d;obtain⟨K,M⟩:=B j d;rw[K];have:=q I _ M;rw[abK];exact this
 |rsl ss=>
  have C: ∃e,at? x i=some e/\ds=tV ss e:=by
   have u:(at? (α:=RT (ElA ss)) x i).bind (λ e=>some (tV ss e))=some ds:=by
    cases W
    ·exact m
    ·exact m
    ·exact m
    ·exact absurd rfl N
   obtain⟨e,Y,Z⟩:=aa4.1 u;exact⟨e,Y,(aak Z).symm⟩
  obtain⟨e,z,rfl⟩:=C;have hp:=xP ss e;have D:(tV ss e).length=ss.length+1:=by have:=congrArg List.length (uN ss e.a);simp[tV]at this ⊢;exact this
  rcases qC rfl N h with⟨A,k,_,h0⟩|⟨ad,k,cs,hv,_,E,p,f,q,t⟩
  ·exfalso;have G:List.length x=0:=h0;simp[at?,aax G]at z
  ·obtain⟨O,y,Q,B⟩:=go (kL (w:=w) (F:=g.F) ss) x e cs (p rfl) z rfl;refine⟨rfl,N,hp,D,O,ad,k,_,hv,E,y,λ mk j=>Cm mk ss e j _ Q,λ j d=> ?_,λ I j d=> ?_,t⟩
   ·obtain⟨K,M⟩:=B j d;rw[K];exact f _ M
   ·rw[y]at d;obtain⟨K,M⟩:=B j d;rw[K];have:=q I _ M;rw[abK];exact this
 |int k=>exact(aO m rfl).elim
 |bool=>exact(aO m rfl).elim
 |str=>exact(aO m rfl).elim
 |dl _=>exact(aO m rfl).elim
 |mp _ _=>exact(aO m rfl).elim
end
section
variable {E:Env} {C:Ctx} {s s':St} {a a':Act} {w w':World} {g g':Gh}
def IK:(sh:Sh)->El sh->Nat->Nat->El sh
 | .sl _,l,lo,d=>List.drop lo (List.take d l)
 | .rsl _,l,lo,d=>List.drop lo (List.take d l)
 |_,x,_,_=>x
theorem tN {c d:CV} {lo e:Nat} (h:yG c lo e=some d):c.sh.qH=true/\c.tg≠ .dead/\d=⟨c.sh,c.tg,IK c.sh c.x lo e⟩:=by
 obtain⟨sh,f,x⟩:=c
 cases sh with
 |sl es=>cases f<;>first|exact(aO h rfl).elim|exact⟨rfl,by simp,(aak h).symm⟩
 |rsl ss=>cases f<;>first|exact(aO h rfl).elim|exact⟨rfl,by simp,(aak h).symm⟩
 |int k=>exact(aO h rfl).elim
 |bool=>exact(aO h rfl).elim
 |str=>exact(aO h rfl).elim
 |dl _=>exact(aO h rfl).elim
 |mp _ _=>exact(aO h rfl).elim
theorem Y8 {α:Type} (l:List α) (lo d:Nat) (h:d<=l.length):((l.take d).drop lo).length=d-lo:=by simp;omega
theorem Ef {sh:Sh} (hs:sh.qH=true) (x:El sh) {lo d:Nat} (h:d<=aQ sh x):aQ sh (IK sh x lo d)=d-lo:=by
 cases sh with
 |sl es=>exact Y8 (α:=ElA es) x lo d h
 |rsl ss=>exact Y8 (α:=RT (ElA ss)) x lo d h
 |_=>simp[Sh.qH]at hs
theorem wB.sub {F:Fz} {sh:Sh} {x:El sh} {cs:LV} (h:wB w F sh x cs) (lo d:Nat):wB w F sh (IK sh x lo d) ((cs.take (d*sh.n)).drop (lo*sh.n)):=by
 cases sh with
 |sl es=>exact(jX es).drop _ _ lo ((jX es).take _ _ d h)
 |rsl ss=>exact(kL ss).drop _ _ lo ((kL ss).take _ _ d h)
 |_=>exact h.elim
theorem jL.sub {F:Fz} {sh:Sh} (hs:sh.qH=true) {x:El sh} {A:Option Addr} {l k:Nat} (h:jL w F sh x (.slice A l k)) {lo d:Nat} (t:lo<=d) (p:d<=l):
 jL w F sh (IK sh x lo d) (Dc A k lo d sh.n):=by
 rw[yt hs]at h ⊢;obtain⟨D,E,hv,G,h⟩:=h;cases hv;have g:=Ef hs x (lo:=lo) p;rw[g];refine⟨_,_,rfl,by omega,?_⟩;by_cases u:d-lo=0
 ·exact .inl u
 ·rcases h with h|⟨ad,cs,rfl,i,v,q⟩
  ·omega
  ·have m:=q.length;have I:d*sh.n<=cs.length:=by rw[m];exact aaA _ p
   have y:lo*sh.n<=d*sh.n:=aaA _ t;refine .inr ⟨ad.add (lo*sh.n),_,?_,?_,?_,q.sub lo d⟩
   ·rw[if_neg (by omega)];rfl
   ·unfold Addr.add;split
    ·exact i
    ·rfl
   ·intro j z;simp only[abe,aaE]at z
    have f:(ad.add (lo*sh.n)).block=ad.block/\(ad.add (lo*sh.n)).off=ad.off+lo*sh.n:=by
     unfold Addr.add;split
     ·rename_i e;rw[e];exact⟨rfl,rfl⟩
     ·exact⟨rfl,rfl⟩
    obtain⟨B,C⟩:=v (lo*sh.n+j) (by omega);rw[f.1,f.2,abK];refine⟨?_,C⟩;rw[B,aar,aam,if_pos (by omega)]
theorem zq.front {ow:aG} {sh:Sh} (hs:sh.qH=true) {x:El sh} {A:Option Addr} {l k:Nat} (h:zq w g ow false sh x (.slice A l k)) {e:Nat} (i:e<=l):
 zq w g ow false sh (IK sh x 0 e) (Dc A k 0 e sh.n):=by
 rcases h with⟨hv,m⟩|⟨b,c,cur,p,hv,m,q,t,u,f,v,y⟩
 ·cases hv;have:e=0:=by omega
  subst this;left;refine⟨by simp[Dc],?_⟩;rw[Ef hs x (by omega)]
 ·cases hv;have d:=Ef hs x (lo:=0) i;right;refine⟨b,k,cur,p,?_,by rw[d];omega,q,t,u,f,?_,λ o=> ?_⟩
  ·rw[d];simp[Dc,Addr.add]
  ·have:=((qY hs).1 v).sub 0 e;rw[qY hs,d,Nat.sub_zero];rw[Nat.zero_mul,abA,ab3,abP (aaA _ i)]at this;exact this
  ·simp[y o]
theorem yS {p:Pl} {c:CV} {i j:Nat} (h:Ny s p=some (c,i,j)):p.sub=some (i,j)/\ ∃(es:List Sh) (l:List (Option (ElA es))),c=⟨.dl es,.own,l⟩/\bf s p 1=some [⟨.dl es,.own,l⟩]:=by
 unfold Ny at h;split at h
 ·rename_i e f hs;split at h
  ·rename_i es l d;cases h;exact⟨hs,es,l,rfl,d⟩
  ·cases h
 ·cases h
theorem OQ {α:Type} {l:List (Option α)} {i:Nat} {e:α} (h:rowAt? l i=some e):l[i]? =some (some e):=by
 unfold rowAt? at h
 cases d:l[i]? with
 |none=>rw[d]at h;cases h
 |some o=>rw[d]at h;simp at h;rw[h]
theorem qh (es:List Sh) (e:ElA es):(nR es e).length=es.length:=by
 have:=congrArg List.length (uN es e);simpa [nR]using this
theorem D5 {es:List Sh} {l:List (Option (ElA es))} {i j n:Nat} {cs:LC} (h:(II ⟨.dl es,.own,l⟩ i j n).run=some cs):
 ∃e,l[i]? =some (some e)/\j+n<=es.length/\cs=((nR es e).drop j).take n:=by
 obtain⟨e,g,d⟩:=aa4.1 (show(rowAt? (α:=ElA es) l i).bind _=some cs from h);simp only[qh]at d
 cases f:Nat.ble (j+n) es.length with
 |false=>rw[f]at d;exact(aO d rfl).elim
 |true=>rw[f]at d;exact⟨e,OQ g,abk f,(aak d).symm⟩
theorem rZ.top {ow:aG} {B:Option Nat} {sh:Sh} {x:El sh} {v:Value} (h:rZ w g ow B sh x v):jZ w g ow ⟨sh,sh.top,x⟩ v:=by
 unfold rZ at h;split at h
 ·rename_i hs;have e:sh.top= .own:=by cases sh<;>first|rfl|simp[Sh.qO]at hs
  rw[e];simp only[jZ,if_pos hs];exact(o8 h.1).2 h.2.1
 ·rename_i hs;have e:sh.top= .pure:=by cases sh<;>first|rfl|(simp[Sh.qO]at hs;done)|exact h.elim
  rw[e];exact h
theorem yH {es:List Sh} {e:ElA es} {k:Nat} {c:CV} (h:(nR es e)[k]? =some c): ∃d,(cellsOf es e)[k]? =some d/\c=⟨d.sh,d.sh.top,d.x⟩:=by
 simp only[nR,aas,aaK]at h;obtain⟨d,f,g⟩:=h;exact⟨d,f,g.symm⟩
theorem Rel.KD (h:Rel E C s a w g) {p:Pl} {es:List Sh} {l:List (Option (ElA es))} (A:bf s p 1=some [⟨.dl es,.own,l⟩]) {i:Nat} (M:i<l.length):
 ∃b k cur d,(aC a w g p.root)[p.cell]? =some (.slice (some ⟨b,0,none⟩) l.length k)/\((aC a w g p.root).drop p.cell).take 1= [.slice (some ⟨b,0,none⟩) l.length k]/\l.length<=k/\k<=maxLen/\g.own b=some (dQ p.root p.cell)/\w.heap[b]? =some (.cells cur d (0,0))/\
  cur.size=k*es.length/\jq w g (dQ p.root p.cell) b es l (cur.toList.take (l.length*es.length))/\(∀o,¬g.F b o)/\ ∀u,u∈cur.toList.take (l.length*es.length)->u.oneCell'=true:=by
 obtain⟨B,_⟩:=h.pl A;obtain⟨v,N,e,q,t⟩:=B;simp only[aF]at t;subst t
 have D:(aC a w g p.root)[p.cell]? =some v:=by
  have:=congrArg (λ l=>l[0]?) e;simp only[aam,aar,aaZ]at this;simpa using this
 simp only[jZ,Sh.qO,if_true]at q;rcases q with⟨_,y⟩|⟨b,k,cur,d,hv,f,G,I,K,m,z,L⟩
 ·have y:l.length=0:=y;omega
 ·subst hv;exact⟨b,k,cur,d,D,e,f,G,I,K,m,z.2,(λ o hF=>by have:=((L o).1 hF).1;cases this),z.1.2⟩
theorem jq.row {ow:aG} {es:List Sh} {l:List (Option (ElA es))} {cs:LV} {B:Nat->Option Nat}
 (m: ∀i x,l[i]? =some (some x)->XV w g ow (λ j=>B (i*es.length+j)) es x ((cs.drop (i*es.length)).take es.length))
 {i:Nat} {e:ElA es} (p:l[i]? =some (some e)) {k:Nat} {c:CV} (f:(cellsOf es e)[k]? =some c): ∃v,cs[i*es.length+k]? =some v/\rZ w g ow (B (i*es.length+k)) c.sh c.x v/\k<es.length:=by
 obtain⟨q,t⟩:=m i e p
 have d:k<es.length:=by
  have:=congrArg List.length (uN es e);simp only[aaH]at this;rw[←this];rcases aaF k (cellsOf es e).length with h|h
  ·exact h
  ·simp[aai h]at f
 have hv:((cs.drop (i*es.length)).take es.length)[k]? =some (((cs.drop (i*es.length)).take es.length)[k]'(by rw[q];exact d)):=aac _;refine⟨_,?_,t k c _ f hv,d⟩;rw[←hv,aam,if_pos d,aar]
theorem Rel.Yv (h:Rel E C s a w g) {p:Pl} {es:List Sh} {l:List (Option (ElA es))} (O:bf s p 1=some [⟨.dl es,.own,l⟩]) {i j m:Nat} {e:ElA es} (M:l[i]? =some (some e)) (Q:j+m<=es.length):
 ∃b k cur z,(aC a w g p.root)[p.cell]? =some (.slice (some ⟨b,0,none⟩) l.length k)/\i<l.length/\w.heap[b]? =some (.cells cur z (0,0))/\
  aF w g (λ _=>dQ p.root p.cell) 0 (((nR es e).drop j).take m) ((cur.toList.drop (i*es.length+j)).take m)/\((cur.toList.drop (i*es.length+j)).take m).length=m:=by
 have A:i<l.length:=by
  rcases aaF i l.length with h|h
  ·exact h
  ·simp[aai h]at M
 obtain⟨b,k,cur,z,R,e2,D,hk,ho,v,G,⟨S,B,U,W,I⟩,hF,N⟩:=h.KD O A;have hN:i*es.length+es.length<=l.length*es.length:=by rw[←abx];exact aaA _ A
 have Y:l.length*es.length<=cur.size:=by rw[G];exact aaA _ D
 have t:((cur.toList.drop (i*es.length+j)).take m).length=m:=by simp;omega
 refine⟨b,k,cur,z,R,A,v,aF.of _ _ _ ?_ λ q c0 u d f=> ?_,t⟩
 ·rw[t];simp only[aaE,abe,qh];omega
 ·simp only[aam,aar]at d f;split at d
  ·rename_i Z;rw[if_pos Z]at f;obtain⟨c1,K,rfl⟩:=yH d;obtain⟨u',y,L,a0⟩:=jq.row I M K;rw[aam,if_pos (by omega)]at y;rw[show i*es.length+j+q=i*es.length+(j+q) by omega,y]at f;cases f;exact rZ.top L
  ·cases d
theorem Xk (es:List Sh) (e:ElA es) (j m:Nat):EX (((nR es e).drop j).take m)=true:=by
 unfold EX;rw[aaV];intro c f;have:=abD (abq f);obtain⟨d,_,rfl⟩:=aaB.1 this;show(match d.sh.top with| .dead=>false|_=>true)=true
 cases d.sh<;>rfl
open Classical in
theorem QF (h:Rel E C s a w g) {hs:LC} {hv:LV} (hh:aF w g .hand 0 hs hv) {p:Pl} {ag:Bool} {n:Nat} {v:Value} {mk:Nat->aG} (c5:TV0 s a w g mk (.rowr p ag n) v)
 {c:CV} {i j:Nat} (hd:Ny s p=some (c,i,j)) {cs:LC} (hp:(II c i j n).run=some cs) {c':CV} (L:moveRow c i=some c') {us:List Upd} (hu:jU s p [c'] false=some us):
 ∃g',Rel E C (s.dX us) a w g'/\isAgg v=ag/\aF w g' .hand 0 (hs++cs) (hv++v.cells.toList)/\g'.at_=g.at_/\Keeps w w g.F g'.F/\(∀b n,g.own b=some (.box n)->g'.own b=some (.box n)):=by
 obtain⟨a6,es,l,rfl,hc⟩:=yS hd;obtain⟨e,he,f7,rfl⟩:=D5 hp
 have hi:i<l.length:=by
  rcases aaF i l.length with h|h
  ·exact h
  ·simp[aai h]at he
 obtain⟨b,k,cur,et,e1,e2,c8,hk,S,M,a7,⟨d0,B,a8,a0,a3⟩,hF,a9⟩:=h.KD hc hi;obtain⟨_,_,i',j',O,b0⟩:=c5;rw[a6]at O;cases O;obtain⟨b2,e5,k2,e6,g1,f2,m1,_,m3,d1,d2⟩:=b0 es l hc;rw[e1]at m1;cases m1;rw[M]at m3;cases m3
 let N:=es.length
 let z:Nat->Nat->Prop:=λ x q=>j<=q/\q<j+n/\ ∃c0 u,(cellsOf es e)[q]? =some c0/\c0.sh.qO=true/\(cur.toList.take (l.length*N))[i*N+q]? =some u/\blk u=some x
 have D: ∀x q,z x q->B (i*N+q)=some x/\g.own x=some (dQ p.root p.cell)/\q<N:=by
  rintro x q ⟨_,_,c0,u,h1,h2,h3,h4⟩;obtain⟨u',h5,h6,h7⟩:=jq.row a3 he h1;rw[h3]at h5;cases h5;unfold rZ at h6;rw[if_pos h2]at h6;exact⟨by rw[←h6.2.2,h4],h6.2.1.nD h4,h7⟩
 have d4: ∀x q Z,z x q->z x Z->q=Z:=by
  intro x q Z h1 h2;have:=a0 _ _ x (D x q h1).1 (D x Z h2).1;omega
 let Q:Nat->Option aG:=λ x=>if A: ∃q,z x q then some (.hand (hs.length+(A.choose-j)))else g.own x
 let g':Gh:={g with own:=Q}
 have d: ∀x,(¬ ∃q,z x q)->g'.own x=g.own x:=λ x A=>by simp only[g',Q,dif_neg A]
 have I: ∀x q,z x q->g'.own x=some (.hand (hs.length+(q-j))):=λ x q A=>by
  have b4: ∃q,z x q:=⟨q,A⟩;simp only[g',Q,dif_pos b4];rw[d4 x _ q b4.choose_spec A]
 have f:Fr (λ o=>o≠dQ p.root p.cell) w w g g':=⟨Keeps.refl _ _,λ x ow hk S=>by
  refine⟨?_,rfl,λ o h=>h⟩;rw[d];exact S;rintro⟨q,A⟩;rw[(D x q A).2.1]at S;cases S;exact hk rfl⟩
 have d5:Base C.w0 C.F0 C.X w g':=⟨h.base.os,h.base.tape,h.base.output,h.base.size,h.base.blk,λ x ow A=>by
  by_cases L: ∃q,z x q
  ·obtain⟨q,K⟩:=L;exact h.base.own x _ (D x q K).2.1
  ·rw[d x L]at A;exact h.base.own x ow A,h.base.keeps,h.base.fz,λ x ow cs t f A hc=>by
  by_cases L: ∃q,z x q
  ·obtain⟨q,K⟩:=L;exact h.base.frz x _ cs t f (D x q K).2.1 hc
  ·rw[d x L]at A;exact h.base.frz x ow cs t f A hc⟩
 have d6: ¬ ∃q,z b q:=by
  rintro⟨q,A⟩;exact a8 _ (D b q A).1
 simp only[moveRow,aag]at L;subst L;refine⟨g',?_,d1,?_,rfl,f.keeps,λ x m S=>(f.own x _ (by cases p.root<;>simp[dQ]) S).1⟩
 ·refine kK h (ds:=[⟨.dl es,.own,List.set l i none⟩]) hc hu rfl (f.mono λ o S=>S.1 p.cell (aav _) (by simp)) d5 rfl ?_ ?_
  ·show aF w g' _ _ _ (((aC a w g p.root).drop p.cell).take 1);rw[e2];refine⟨_,[],rfl,?_,rfl⟩;simp only[jZ,Sh.qO,if_true];have R:(List.set l i none).length=l.length:=aa5;refine .inr ⟨b,k,cur,et,by simp only[aQ];rw[R],by simp only[aQ];rw[R];exact c8,hk,by rw[d b d6];exact S,M,a7,⟨⟨rfl,by simp only[aQ,Sh.n];rw[R];exact a9⟩,?_⟩,λ o=>⟨λ hf=>(hF o hf).elim,λ hf=>by cases hf.1⟩⟩;simp only[aQ,Sh.n];rw[R];refine⟨by rw[R];exact d0,B,a8,a0,λ i' x A=> ?_⟩
   have b5:i'≠i:=by
    rintro rfl;rw[aa9 hi]at A;cases A
   rw[aa3 (Ne.symm b5)]at A;refine XV.imp (g:=g) (g':=g') (Keeps.refl w g.F) (λ q sh u K d8 y hy=> ?_) (a3 i' x A);refine wO.owner (g:=g) (g':=g') rfl (λ x' b6=> ?_) hy;rw[d];exact hy.nD b6;rintro⟨Z,L⟩;have h1:=(D x' Z L).1;have h2:=(D x' Z L).2.2;have h3:=a0 _ _ x' h1 (d8.trans b6)
   have h4:i=i':=by
    have hN:0<N:=by omega
    have a1:(i*N+Z)/N=i:=by rw[abW,Nat.mul_add_div hN,acJ h2,aaZ]
    have a2:(i'*N+q)/N=i':=by rw[abW,Nat.mul_add_div hN,acJ K,aaZ]
    rw[←a1,←a2];exact congrArg (· /N) h3
   exact b5 h4.symm
  ·intro q g7 l' K
   have e0:q=0:=by
    rcases ab6 q with h|h
    ·exact h
    ·rw[aai (by simp;omega)]at K;cases K
   subst e0;simp only[aaN,aag]at K;obtain⟨rfl,_,_⟩:=K;exact⟨l,rfl,λ _ _ _ _=>rfl⟩
 ·refine aF.append hs 0 hv _ _ (hh.fr (f.mono (K':=λ o=> ∃q,o= .hand q) λ o ⟨q,e⟩=>by rw[e];exact(jE _ _ _).symm) _ _ _ (λ q=>⟨q,rfl⟩)) ?_;rw[aa0,d2];refine aF.of _ _ _ ?_ λ q c0 u U W=> ?_
  ·simp only[aaE,abe,qh,aa8,a7];have:i*es.length+es.length<=k*es.length:=by rw[←abx];exact aaA _ (by omega)
   omega
  ·simp only[aam,aar]at U W;split at U
   ·rename_i K;rw[if_pos K]at W;obtain⟨c1,b7,rfl⟩:=yH U;obtain⟨u',b8,G,g9⟩:=jq.row a3 he b7
    have e3:i*es.length+(j+q)<l.length*es.length:=by
     have:i*es.length+es.length<=l.length*es.length:=by rw[←abx];exact aaA _ hi
     omega
    have b9:=b8;rw[aam,if_pos e3]at b9;rw[show i*es.length+j+q=i*es.length+(j+q) by omega,b9]at W;cases W;refine rZ.top (B:=B (i*es.length+(j+q))) ?_;unfold rZ at G ⊢;split
    ·rename_i Y;rw[if_pos Y]at G;refine⟨G.1,wO.owner (g:=g) (g':=g') rfl (λ x A=> ?_) G.2.1,G.2.2⟩;rw[I x (j+q) ⟨by omega,by omega,c1,u,b7,Y,b8,A⟩];congr 2;omega
    ·rename_i Y;rw[if_neg Y]at G;exact G
   ·cases U
theorem iE {p:Pl} (d:p.sub=none) {n:Nat} {cs:LC} (h:(content s p n).run=some cs):bf s p n=some cs:=by
 unfold content at h;rw[d]at h;exact Gt h
theorem sU {hs:LC} {hv:LV} {c:CV} {v:Value}:aF w g .hand 0 (hs++[c]) (hv++[v]) ↔ hv.length=hs.length/\aF w g .hand 0 hs hv/\jZ w g (.hand hs.length) c v:=by
 constructor
 ·intro h;have d:hv.length=hs.length:=by have:=h.length;simp at this;omega
  have e:=h.sub 0 hs.length;simp only[abA,aaZ]at e
  have f:aF w g .hand 0 hs hv:=by
   have k:(hs++[c]).take hs.length=hs:=by simp
   have l:(hv++[v]).take hs.length=hv:=by rw[←d];simp
   rwa [k,l]at e
  obtain⟨u,i,m⟩:=h.get _ 0 _ hs.length c (by simp);rw[←d]at i;simp at i;exact⟨d,f,by rw[i];simpa using m⟩
 ·rintro⟨d,e,p⟩;exact aF.append hs 0 hv [c] [v] e ⟨v,[],rfl,by simpa using p,rfl⟩
theorem aI {v:Value} (h:isAgg v=false):v.cells= #[v]:=by cases v<;>simp[isAgg]at h<;>rfl
theorem IQ {ow:aG} {sh:Sh} (d:sh.qO=true):jZ w g ow (JK sh) (.slice none 0 0):=by
 cases sh with
 |sl es=>exact .inl ⟨rfl,rfl⟩
 |rsl ss=>exact .inl ⟨rfl,rfl⟩
 |dl es=>exact .inl ⟨rfl,rfl⟩
 |_=>simp[Sh.qO]at d
theorem F8 (h:Rel E C s a w g) {hs:LC} {hv:LV} (Q:aF w g .hand 0 hs hv) {x:Operand} {a0:List Sh} {ag:Bool} {cs:LC} {us:List Upd}
 (m:(Ei E s x a0).run=some (ag,cs,us)):
 ∃g',Rel E C (s.dX us) a w g'/\isAgg (a.eval x)=ag/\aF w g' .hand 0 (hs++cs) (hv++(a.eval x).cells.toList)/\g'.at_=g.at_/\Keeps w w g.F g'.F:=by
 have t:=h.at_ x;unfold Ei at m
 cases G:at_ E s x with
 |val K y=>
  rw[G]at m t;rcases t with⟨e,_⟩|t
  ·cases e
  ·simp only[]at m
   cases hp:bJ y with
   |true=>
    rw[hp]at m;simp only[cond_true,Dyn.run,aag,aay]at m;obtain⟨rfl,rfl,rfl⟩:=m;exact⟨g,h,t.1,aF.append hs 0 hv _ _ Q (aF.vN (Keeps.refl _ _) _ 0 _ _ hp t.2),rfl,Keeps.refl _ _⟩
   |false=>
    rw[hp]at m;simp only[cond_false]at m
    cases x with
    |tmp n=>
     simp only[Dyn.run,aag,aay]at m;obtain⟨rfl,rfl,rfl⟩:=m;have a3:(s.tm n).1= .val K y:=G
     have L:bf s ⟨.tmp n,(s.tm n).2,[],0,none⟩ y.length=some y:=by
      rw[bQ];refine⟨y.map λ c=>(c,(s.tm n).2),?_,by simp,by simp,by rw[←qo,nN];simp⟩;have e:s.tm n=(.val K y,(s.tm n).2):=by rw[←a3]
      simp only[aB];rw[e]
     have a4:jU s ⟨.tmp n,(s.tm n).2,[],0,none⟩ (y.map CV.left) false=some [.keep n (.val K (y.map CV.left))]:=by
      have e:s.tm n=(.val K y,(s.tm n).2):=by rw[←a3]
      simp only[jU];rw[e];simp only[cond_false,acF,cond_true,yF _ _ (aaH _)]
     obtain⟨g',r,k,e,Y⟩:=RU h Q L a4;have c5:=t.2.length
     have:((aC a w g (.tmp n)).drop 0).take y.length=(a.eval (.tmp n)).cells.toList:=by
      simp only[aC,abA];exact aaJ (by omega)
     rw[this]at k;exact⟨g',r,t.1,k,e,Y⟩
    |const v=>exact(aO m rfl).elim
    |global gl=>exact(aO m rfl).elim
    |func f=>exact(aO m rfl).elim
 |ref p K n=>
  rw[G]at m t;rcases t with⟨e,_⟩|t
  ·cases e
  ·obtain⟨_,_,D,t⟩:=t;obtain⟨y,I,m⟩:=aT m;have I:=iE D I
   cases R:DK s p y with
   |none=>rw[R]at m;exact(aO m rfl).elim
   |some S=>
    rw[R]at m;simp only[Dyn.run,aag,aay]at m;obtain⟨rfl,rfl,rfl⟩:=m;obtain⟨g',r,k,e,Y⟩:=WI h Q D I R;obtain⟨h1,h2⟩:=t _ I;rw[←h2]at k;exact⟨g',r,h1,k,e,Y⟩
 |rsub p z lo Z=>
  rw[G]at m t;rcases t with⟨e,_⟩|t
  ·cases e
  ·obtain⟨_,_,D,hz,t⟩:=t;obtain⟨y,I,m⟩:=aT m;have I:=iE D I
   match y,I,m with
   | [],_,m=>exact(aO m rfl).elim
   |_::_::_,_,m=>exact(aO m rfl).elim
   | [c],I,m=>
     simp only[]at m
     cases O:yG c lo Z with
     |none=>rw[O]at m;exact(aO m rfl).elim
     |some d=>
      cases R:DK s p [c]with
      |none=>rw[O,R]at m;exact(aO m rfl).elim
      |some S=>
       rw[O,R]at m;simp only[Dyn.run,aag,aay]at m;obtain⟨rfl,rfl,rfl⟩:=m;obtain⟨L,b4,rfl⟩:=tN O;have M:=fZ L;obtain⟨A,l,k,e1,h1,h2,h3,h4⟩:=t c I;obtain⟨g',r,a5,e,Y⟩:=WI h Q D I R
       have ev:((aC a w g p.root).drop p.cell).take 1= [.slice A l k]:=by
        have a6:p.cell<(aC a w g p.root).length:=by
         rcases aaF p.cell (aC a w g p.root).length with h|h
         ·exact h
         ·simp[aai h]at e1
        rw[aaI a6];rw[aac a6]at e1;rw[List.take_succ_cons,acz,aak e1]
       rw[ev]at a5;have U:isAgg (a.eval x)=false:=by rw[h4];rfl
       rw[aI U];obtain⟨l1,l2,l3⟩:=sU.1 a5;obtain⟨B,N,cx⟩:=c;by_cases a8:z=true/\N= .own
       ·obtain⟨rfl,rfl⟩:=a8;have b9:=hz rfl;subst b9;simp only[jZ,if_pos M]at l3;refine⟨g',r,U,sU.2 ⟨l1,l2,?_⟩,e,Y⟩;simp only[Tg.GK,acO,cond_true,jZ,if_pos M];rw[h4];exact l3.front L h2
       ·have W:(bif z&&N.GK then(⟨B,N,IK B cx lo Z⟩:CV)else(⟨B,N,IK B cx lo Z⟩:CV).to .pure)=⟨B,.pure,IK B cx lo Z⟩:=by
         cases z with
         |false=>rfl
         |true=>cases N<;>first|rfl|exact absurd ⟨rfl,rfl⟩ a8
        have c0:Tg.le .pure N=true:=by cases N<;>first|rfl|exact absurd rfl b4
        obtain⟨g2,f2,b2,o2,a2,c2,_⟩:=l3.weak r.base c0 (by cases B<;>first|rfl|simp[Sh.qH]at L)
        have r2:Rel E C (s.dX S) a w g2:=r.world (f2.mono λ o ho=>ho _) b2 a2;refine⟨g2,r2,U,?_,a2.trans e,Y.trans f2.keeps⟩;show aF w g2 .hand 0 (hs++[bif z&&N.GK then(⟨B,N,IK B cx lo Z⟩:CV)else(⟨B,N,IK B cx lo Z⟩:CV).to .pure]) (hv++[a.eval x]);rw[W,sU];refine⟨l1,?_,?_⟩
        ·refine aF.of hs 0 hv l1 λ j c v I hv=> ?_;obtain⟨u,hu,hr⟩:=l2.get hs 0 _ j c I;rw[hu]at hv;cases hv;refine hr.fr f2 ?_
         have:j<hs.length:=by
          rcases aaF j hs.length with h|h
          ·exact h
          ·simp[aai h]at I
         simp;omega
        ·rw[h4];exact jL.sub L c2 h1 h2
 |nilc=>
  rw[G]at m t;rcases t with⟨_,b0⟩|t
  ·match a0,m with
   | [],m=>exact(aO m rfl).elim
   |_::_::_,m=>exact(aO m rfl).elim
   | [sh],m=>
     simp only[]at m
     cases M:sh.qO with
     |false=>rw[M]at m;exact(aO m rfl).elim
     |true=>
      rw[M]at m;simp only[cond_true,Dyn.run,aag,aay]at m;obtain⟨rfl,rfl,rfl⟩:=m;rw[b0];refine⟨g,h,rfl,sU.2 ⟨Q.length,Q,?_⟩,rfl,Keeps.refl _ _⟩;exact IQ M
  ·exact t.elim
 |dead=>rw[G]at m;exact(aO m rfl).elim
 |undef=>rw[G]at m;exact(aO m rfl).elim
 |addr p=>rw[G]at m;exact(aO m rfl).elim
 |rowr p K n=>
  rw[G]at m t;rcases t with⟨e,_⟩|t
  ·cases e
  ·simp only[]at m
   cases O:Ny s p with
   |none=>rw[O]at m;exact(aO m rfl).elim
   |some c3=>
    obtain⟨c,i,j⟩:=c3;rw[O]at m;obtain⟨y,hp,m⟩:=aT m
    cases hm:moveRow c i with
    |none=>rw[hm]at m;exact(aO m rfl).elim
    |some c'=>
     rw[hm]at m;simp only[]at m
     cases hu:jU s p [c'] false with
     |none=>rw[hu]at m;exact(aO m rfl).elim
     |some S=>
      rw[hu]at m;simp only[Dyn.run,aag,aay]at m;obtain⟨rfl,rfl,rfl⟩:=m;obtain⟨g',q1,q2,q3,q4,q5,_⟩:=QF (mk:=V9 x) h Q t O hp hm hu;exact⟨g',q1,q2,q3,q4,q5⟩
 |addr2 p k q=>rw[G]at m;exact(aO m rfl).elim
 |paddr y off=>rw[G]at m;exact(aO m rfl).elim
 |tup ts=>rw[G]at m;exact(aO m rfl).elim
 |fn f=>rw[G]at m;exact(aO m rfl).elim
 |clo f ts=>rw[G]at m;exact(aO m rfl).elim
 |ext p q c=>rw[G]at m;exact(aO m rfl).elim
end
def zeroV:Sh->Value
 | .int k=> .int k 0
 | .bool=> .bool false
 | .str=> .string ByteArray.empty
 | .mp _ _=> .map none
 |_=> .slice none 0 0
def P5:Sh->Value->Bool
 | .int k,.int d n=>decide (k=d)&&decide (n=0)
 | .bool,.bool b=> !b
 | .str,.string b=>match b.data.toList with| []=>true|_=>false
 | .sl _,.slice none 0 0=>true
 | .rsl _,.slice none 0 0=>true
 | .mp _ _,.map none=>true
 |_,_=>false
theorem adJ {sh:Sh} {v:Value} (h:P5 sh v=true):v=zeroV sh:=by
 unfold P5 at h;split at h
 ·simp only[aae,decide_eq_true_eq]at h;simp[zeroV,h.1,h.2]
 ·rename_i b;cases b<;>simp_all [zeroV]
 ·rename_i b;split at h
  ·rename_i e;obtain⟨⟨l⟩⟩:=b;simp at e;subst e;rfl
  ·cases h
 ·rfl
 ·rfl
 ·rfl
 ·cases h
def yK:List Sh->LV->Bool
 | [],[]=>true
 |s::ss,v::d=>P5 s v&&yK ss d
 |_,_=>false
theorem VG: ∀{ss:List Sh} {d:LV},yK ss d=true->d=ss.map zeroV
 | [],[],_=>rfl
 | [],_::_,h=>by simp[yK]at h
 |_::_,[],h=>by simp[yK]at h
 |s::ss,v::d,h=>by
  simp only[yK,aae]at h;rw[adJ h.1,VG h.2];rfl
theorem Ub: ∀{ss:List Sh} {d:LV},yK ss d=true->(ss.all λ s=> !s.adR)=true
 | [],[],_=>rfl
 | [],_::_,h=>by simp[yK]at h
 |_::_,[],h=>by simp[yK]at h
 |s::ss,v::d,h=>by
  simp only[yK,aae]at h;simp only[acP,Ub h.2,acr];cases s<;>first|rfl|(have:=h.1;simp[P5]at this)
def xJ:Sh->List Sh
 | .sl es=>es
 | .rsl ss=>ss++[.rsl ss]
 | .dl es=>es
 |_=>[]
theorem kX (sh:Sh):(xJ sh).length=sh.n:=by cases sh<;>simp[xJ,Sh.n]
def places (P:Program) (d:List Field):Option (List (Nat×Nat)):=d.mapM λ f=>(P.info? f.type).map λ i=>(f.offset,i.size)
def qK (P:Program) (ty:TypeId->Option TyI) (i:TyI):TypeDesc->Bool
 | .slice e=> !i.ag&&decide (i.elem=some e)&&(match i.cells with
   | [sh]=>sh.qH&&(match ty e with|some j=>aX j.cells (xJ sh)&&((j.cells.all λ s=> !s.JR)&&Nat.ble j.cells.length 8)|none=>false)
   |_=>false)
 | .struct d=>i.ag&&decide (i.elem=none)&&(match places P d.toList with
   |some l=>decide (l=i.fields)&&decide (d.toList.map (·.type)=i.ftys)&&l.all λ x=> !decide (x.2=0)&&decide (x.1+x.2<=i.cells.length)
   |none=>false)
 | .int k=> !i.ag&&decide (i.elem=none)&&aX i.cells [.int k]
 | .bool=> !i.ag&&decide (i.elem=none)&&aX i.cells [.bool]
 | .string=> !i.ag&&decide (i.elem=none)&&aX i.cells [.str]
 | .map f g=> !i.ag&&decide (i.elem=none)&&decide (i.ftys= [f,g])&&(match i.cells,ty f,ty g with
   | [.mp k e],some j,some l=>k.scalar&&e.scalar&& !j.ag&& !l.ag&&aX j.cells [k]&&aX l.cells [e]
   |_,_,_=>false)
 |_=>false
def ag5 (P:Program) (ty:TypeId->Option TyI) (t:TypeId) (i:TyI):Bool:=
 match P.info? t,P.underlying t with
 |some info,some d=>match info.zero with
  |some z=>(isAgg z==i.ag)&&yK i.cells z.cells.toList&&decide (info.size=i.cells.length)&&(decide (info.bytes<=128)||Nat.blt 8 i.cells.length)&&qK P ty i d
  |none=>false
 |_,_=>false
def xU (P:Program) (ty:TypeId->Option TyI):Prop:= ∀t i,ty t=some i->ag5 P ty t i=true
theorem jR: ∀{a b:List Sh},aX a b=true->a=b
 | [],[],_=>rfl
 | [],_::_,h=>by simp[aX]at h
 |_::_,[],h=>by simp[aX]at h
 |s::ss,t::ts,h=>by
  simp only[aX,aae]at h;rw[aY7 h.1,jR h.2]
structure Jv (P:Program) (ty:TypeId->Option TyI) (t:TypeId) (i:TyI) (info:TypeInfo) (d:TypeDesc) (z:Value):Prop where
 inf:P.info? t=some info
 und:P.underlying t=some d
 zero:info.zero=some z
 agg:isAgg z=i.ag
 cells:z.cells.toList=i.cells.map zeroV
 size:info.size=i.cells.length
 bytes:i.cells.length<=8->info.bytes<=128
 desc:qK P ty i d=true
 noDl:(i.cells.all λ s=> !s.adR)=true
theorem xU.at_ {P:Program} {ty:TypeId->Option TyI} (h:xU P ty) {t:TypeId} {i:TyI} (g:ty t=some i): ∃info d z,Jv P ty t i info d z:=by
 have:=h t i g;unfold ag5 at this;split at this
 ·rename_i info d k l;split at this
  ·rename_i z m;simp only[aae,beq_iff_eq,decide_eq_true_eq]at this;obtain⟨⟨⟨⟨p,f⟩,q⟩,e⟩,u⟩:=this
   have e:i.cells.length<=8->info.bytes<=128:=λ v=>by
    simp only[abX,decide_eq_true_eq]at e;rcases e with e|e
    ·exact e
    ·have:=(Nat.blt_eq ..).mp e;omega
   exact⟨info,d,z,k,l,m,p,VG f,q,e,u,Ub f⟩
  ·cases this
 ·cases this
section
variable {P:Program} {ty:TypeId->Option TyI} {t:TypeId} {i:TyI} {info:TypeInfo} {d:TypeDesc} {z:Value}
theorem Jv.isRow (h:Jv P ty t i info d z):d.isRow=i.ag:=by
 have:=h.desc;unfold qK at this;split at this<;>simp_all [TypeDesc.isRow]
theorem Jv.one (h:Jv P ty t i info d z) (g:i.ag=false): ∃sh,i.cells= [sh]:=by
 have:=h.desc;unfold qK at this;split at this
 ·simp only[aae]at this;obtain⟨_,e⟩:=this;split at e
  ·exact⟨_,by assumption⟩
  ·cases e
 ·simp[g]at this
 ·simp only[aae]at this;exact⟨_,jR this.2⟩
 ·simp only[aae]at this;exact⟨_,jR this.2⟩
 ·simp only[aae]at this;exact⟨_,jR this.2⟩
 ·simp only[aae]at this;obtain⟨_,e⟩:=this;split at e
  ·rename_i f _ _;exact⟨_,f⟩
  ·cases e
 ·cases this
theorem Jv.slice (h:Jv P ty t i info d z) {sh:Sh} (g:i.cells= [sh]) (hs:sh.qO=true) (m:i.ag=false): ∃e j,d= .slice e/\i.elem=some e/\ty e=some j/\j.cells=xJ sh:=by
 have:=h.desc;unfold qK at this;split at this
 ·rename_i e;simp only[aae,decide_eq_true_eq]at this;obtain⟨⟨_,p⟩,f⟩:=this;rw[g]at f;simp only[aae]at f;obtain⟨_,l⟩:=f;split at l
  ·rename_i j q;exact⟨e,j,rfl,p,q,jR (by simp only[aae]at l;exact l.1)⟩
  ·cases l
 ·simp[m]at this
 ·simp only[aae]at this;have:=jR this.2;rw[g]at this;cases this;cases hs
 ·simp only[aae]at this;have:=jR this.2;rw[g]at this;cases this;cases hs
 ·simp only[aae]at this;have:=jR this.2;rw[g]at this;cases this;cases hs
 ·simp only[aae]at this;obtain⟨_,f⟩:=this;split at f
  ·rename_i k _ _;rw[g]at k;cases k;cases hs
  ·cases f
 ·cases this
theorem Jv.elem (h:Jv P ty t i info d z) {e:TypeId} (l:i.elem=some e): ∃sh j,d= .slice e/\i.ag=false/\i.cells= [sh]/\sh.qH=true/\ty e=some j/\j.cells=xJ sh:=by
 have:=h.desc;unfold qK at this;split at this
 ·rename_i v;simp only[aae,decide_eq_true_eq]at this;obtain⟨⟨m,k⟩,f⟩:=this;rw[l]at k;cases k;split at f
  ·rename_i sh p;simp only[aae]at f;obtain⟨q,g⟩:=f;split at g
   ·rename_i j u;exact⟨sh,j,rfl,by simpa using m,p,q,u,jR (by simp only[aae]at g;exact g.1)⟩
   ·cases g
  ·cases f
 all_goals first|cases this|simp_all
theorem Jv.ajA (h:Jv P ty t i info d z) {e:TypeId} {j:TyI} (k:i.elem=some e) (l:ty e=some j):(j.cells.all λ s=> !s.JR)=true:=by
 have:=h.desc;unfold qK at this;split at this
 ·rename_i m;simp only[aae,decide_eq_true_eq]at this;obtain⟨⟨p,g⟩,f⟩:=this;rw[k]at g;cases g;split at f
  ·rw[l]at f;simp only[aae]at f;exact f.2.2.1
  ·cases f
 all_goals simp_all
theorem Jv.short (h:Jv P ty t i info d z) {e:TypeId} {j:TyI} (k:i.elem=some e) (l:ty e=some j):j.cells.length<=8:=by
 have:=h.desc;unfold qK at this;split at this
 ·rename_i m;simp only[aae,decide_eq_true_eq]at this;obtain⟨⟨p,g⟩,f⟩:=this;rw[k]at g;cases g;split at f
  ·rw[l]at f;simp only[aae]at f;exact abk f.2.2.2
  ·cases f
 all_goals simp_all
theorem Jv.mp (h:Jv P ty t i info d z) {k e:Sh} (q:i.cells= [.mp k e]) (u:i.ag=false): ∃m p j l,d= .map m p/\ty m=some j/\ty p=some l/\k.scalar=true/\e.scalar=true/\j.ag=false/\l.ag=false/\j.cells= [k]/\l.cells= [e]:=by
 have:=h.desc;unfold qK at this;split at this
 case h_6 m p=>
  simp only[aae,decide_eq_true_eq]at this;obtain⟨_,f⟩:=this;split at f
  ·rename_i I K j l g v y;rw[q]at g;cases g;simp only[aae,abw]at f;obtain⟨⟨⟨⟨⟨A,B⟩,C⟩,D⟩,E⟩,G⟩:=f;exact⟨m,p,j,l,rfl,v,y,A,B,C,D,jR E,jR G⟩
  ·cases f
 case h_1=>
  simp only[aae]at this;obtain⟨_,f⟩:=this;rw[q]at f;simp[Sh.qH]at f
 case h_2=>simp[u]at this
 case h_7=>cases this
 all_goals (simp only[aae]at this;have:=jR this.2;rw[q]at this;cases this)
theorem Jv.int (h:Jv P ty t i info d z) {k:IntKind} (e:i.cells= [.int k]) (l:i.ag=false):d= .int k:=by
 have:=h.desc;unfold qK at this;split at this
 ·simp only[aae]at this;obtain⟨_,f⟩:=this;rw[e]at f;simp[Sh.qH]at f
 ·simp[l]at this
 ·simp only[aae]at this;have:=jR this.2;rw[e]at this;cases this;rfl
 ·simp only[aae]at this;have:=jR this.2;rw[e]at this;cases this
 ·simp only[aae]at this;have:=jR this.2;rw[e]at this;cases this
 ·simp only[aae]at this;obtain⟨_,f⟩:=this;split at f
  ·rename_i g _ _;rw[e]at g;cases g
  ·cases f
 ·cases this
theorem Jv.bool (h:Jv P ty t i info d z) (g:i.cells= [.bool]) (k:i.ag=false):d= .bool:=by
 have:=h.desc;unfold qK at this;split at this
 ·simp only[aae]at this;obtain⟨_,e⟩:=this;rw[g]at e;simp[Sh.qH]at e
 ·simp[k]at this
 ·simp only[aae]at this;have:=jR this.2;rw[g]at this;cases this
 ·rfl
 ·simp only[aae]at this;have:=jR this.2;rw[g]at this;cases this
 ·simp only[aae]at this;obtain⟨_,e⟩:=this;split at e
  ·rename_i f _ _;rw[g]at f;cases f
  ·cases e
 ·cases this
theorem Jv.str (h:Jv P ty t i info d z) (g:i.cells= [.str]) (k:i.ag=false):d= .string:=by
 have:=h.desc;unfold qK at this;split at this
 ·simp only[aae]at this;obtain⟨_,e⟩:=this;rw[g]at e;simp[Sh.qH]at e
 ·simp[k]at this
 ·simp only[aae]at this;have:=jR this.2;rw[g]at this;cases this
 ·simp only[aae]at this;have:=jR this.2;rw[g]at this;cases this
 ·rfl
 ·simp only[aae]at this;obtain⟨_,e⟩:=this;split at e
  ·rename_i f _ _;rw[g]at f;cases f
  ·cases e
 ·cases this
theorem Jv.struct (h:Jv P ty t i info d z) (g:i.ag=true): ∃e,d= .struct e/\places P e.toList=some i.fields/\e.toList.map (·.type)=i.ftys/\ ∀x,x∈i.fields->x.2≠0/\x.1+x.2<=i.cells.length:=by
 have:=h.desc;unfold qK at this;split at this
 ·simp[g]at this
 ·rename_i e;simp only[aae]at this;obtain⟨_,f⟩:=this;split at f
  ·rename_i l k;simp only[aae,decide_eq_true_eq]at f;obtain⟨⟨rfl,m⟩,p⟩:=f;refine⟨e,rfl,k,m,λ x q=> ?_⟩;have:=aaV.1 p x q;simpa using this
  ·cases f
 all_goals first|cases this|simp_all
end
section
variable {P:Program} {E:Env} {C:Ctx} {s s':St} {a a':Act} {w w':World} {g g':Gh} {o:Oper} {Q:Exit->Act->World->Prop}
def T.Eo:T->Bool
 | .val _ cs=>bJ cs
 | .tup ts=>ts.all λ x=>bJ x.2
 | .nilc=>false
 | .ext _ _ _=>false
 |_=>true
theorem mF.vN (k:Keeps w w' g.F g'.F) {mk mk':Nat->aG}: ∀(ts:List (Bool×LC)) (i j:Nat) (f:LV),(ts.all λ x=>bJ x.2)=true->mF w g mk i ts f->mF w' g' mk' j ts f
 | [],_,_,_,_,h=>h
 |(ag,cs)::ts,i,j,_,d,⟨v,l,e,⟨m,p⟩,h⟩=>by
  simp only[acP,aae]at d;exact⟨v,l,e,⟨m,aF.vN k cs i j _ d.1 p⟩,mF.vN k ts _ _ l d.2 h⟩
theorem TV0.copy {mk mk':Nat->aG} {t:T} {v:Value} (i:t.Eo=true) (h:TV0 s a w g mk t v):TV0 s a w g mk' t v:=by
 cases t with
 |val ag cs=>exact⟨h.1,aF.vN (Keeps.refl _ _) cs 0 0 _ i h.2⟩
 |tup ts=>obtain⟨d,e,h⟩:=h;exact⟨d,e,mF.vN (Keeps.refl _ _) ts 0 0 d i h⟩
 |paddr cs off=>obtain⟨ad,d,e,u,l,y⟩:=h;exact⟨ad,d,e,u,l,aF.vN (Keeps.refl _ _) cs 0 0 d l y⟩
 |nilc=>exact h
 |dead=>exact h
 |undef=>exact h
 |ref p ag m=>exact h
 |rsub p z lo A=>exact h
 |addr p=>exact h
 |rowr p ag m=>exact h
 |addr2 p k q=>exact h
 |fn f=>exact h
 |clo f ts=>exact h
 |ext p q c=>cases i
theorem oI.copy {mk mk':Nat->aG}: ∀(ts:List T) (d:LV),oI s a w g mk ts d->oI s a w g mk' ts d
 | [],_,h=>h
 |t::ts,_,⟨v,f,e,i,k,h⟩=>⟨v,f,e,i,k.copy (by cases t<;>first|rfl|exact i.elim),oI.copy ts f h⟩
theorem TV.copy {mk mk':Nat->aG} {t:T} {v:Value} (d:t.Eo=true) (h:TV s a w g mk t v):TV s a w g mk' t v:=by
 cases t with
 |clo f ts=>obtain⟨i,e,h⟩:=h;exact⟨i,e,h.copy⟩
 |dead=>exact h
 |undef=>exact h
 |nilc=>exact h
 |val ag cs=>exact TV0.copy (s:=s) (a:=a) (t:= .val ag cs) d h
 |ref p ag m=>exact h
 |rsub p z lo l=>exact h
 |addr p=>exact h
 |rowr p ag m=>exact h
 |addr2 p k q=>exact h
 |paddr cs off=>exact TV0.copy (s:=s) (a:=a) (t:= .paddr cs off) d h
 |tup ts=>exact TV0.copy (s:=s) (a:=a) (t:= .tup ts) d h
 |fn f=>exact h
 |ext p q c=>cases d
theorem Rel.Qw (h:Rel E C s a w g) {d:Nat} (f:DOk E d) {t:T} {v:Value} {mk:Nat->aG} (e:t.Eo=true) (k:TV s a w g mk t v):
 Rel E C (s.dX [.tm d t]) (a.put (some d) v) w g:=by
 refine h.Vj f (Fr.refl _ _ _) h.base rfl ?_;exact TV.copy e (TV.step (K:=λ _=>True) (Fr.refl _ _ _) (λ i=>trivial) (h.Qi d t v (Fr.refl _ _ _) rfl) (TV.copy (mk':= .hand) e k))
theorem bV (h:Rel E C s a w g) {d:Nat} (e:o.dst=some d) (f:DOk E d) {t:T} {v:Value} {mk:Nat->aG} (i:(execOp a.eval o).run P w= .ok (.value v) w)
 (k:t.Eo=true) (l:TV s a w g mk t v):o.wp P a w (λ a' w'=> ∃g',Rel E C (s.dX [.tm d t]) a' w' g') Q:=by
 unfold Oper.wp;rw[i,Oper.upon_value,e];exact⟨g,h.Qw f k l⟩
theorem qj (k:IntKind) (n:Int):TV s a w g .hand (N7 k n) (.int k n):=zV w g .hand rfl rfl rfl rfl
theorem uU (b:Bool):TV s a w g .hand (XO b) (.bool b):=zV w g .hand rfl rfl rfl rfl
theorem ac9 (b:ByteArray):TV s a w g .hand (aje b) (.string b):=zV w g .hand rfl rfl rfl rfl
theorem EO.one {mk:Nat->aG} {c:CV} {v:Value} {ag:Bool} (h:EO w g mk 0 ag [c] v): ∃u,v.cells.toList= [u]/\jZ w g (mk 0) c u/\(ag=false->u=v):=by
 obtain⟨d,u,l,e,i,f⟩:=h;simp only[aF]at f;subst f;refine⟨u,e,i,λ k=> ?_⟩;rw[k]at d;rw[aI d]at e;simpa using e.symm
theorem Rel.yQ (h:Rel E C s a w g) {d:Nat} (e:DOk E d) {ag:Bool} {cs:LC} {v:Value} (f:isAgg v=ag) (l:aF w g .hand 0 cs v.cells.toList):
 ∃g',Rel E C (s.dX [.tm d (.val ag cs)]) (a.put (some d) v) w g'/\g'.at_=g.at_/\Keeps w w g.F g'.F:=by
 let ρ:aG->aG:=λ o=>match o with| .hand i=> .tm d i|o=>o
 refine⟨g.ren ρ,h.Vj e (Fr.ren w g λ o m=> ?_) (h.base.ren ρ) rfl ⟨f,?_⟩,rfl,Keeps.refl _ _⟩
 ·simp only[ρ];cases o<;>simp_all
 ·exact aF.ren cs 0 0 _ (λ k _=>by simp[ρ]) l
theorem eH (s:St) (us d:List Upd):s.dX (us++d)=(s.dX us).dX d:=by simp[St.dX,List.foldl_append]
theorem XG (h:Rel E C s a w g) {d:Nat} (e:o.dst=some d) (i:DOk E d) {x:Operand} {f:List Sh} {ag:Bool} {cs:LC} {us:List Upd}
 (k:(Ei E s x f).run=some (ag,cs,us)) (l:(execOp a.eval o).run P w= .ok (.value (a.eval x)) w):
 o.wp P a w (λ a' w'=> ∃g',Rel E C (s.dX (us++[.tm d (.val ag cs)])) a' w' g') Q:=by
 obtain⟨u,m,p,q,_,_⟩:=F8 h (hs:=[]) (hv:=[]) rfl k;obtain⟨g2,t,_,_⟩:=m.yQ i p (by simpa using q);unfold Oper.wp;rw[l,Oper.upon_value,e,eH];exact⟨g2,t⟩
theorem aK {x:Operand} {t:T} (h:Rel E C s a w g) (d:at_ E s x=t) (f:t≠ .nilc):TV s a w g (V9 x) t (a.eval x):=by
 rcases h.at_ x with⟨e,_⟩|h
 ·rw[d]at e;exact absurd e f
 ·rw[d]at h;exact h
theorem uH (h:Rel E C s a w g) {x:Operand} {k:IntKind} {n:Int} (f:tq E s x=some (k,n)):at_ E s x= .val false [⟨.int k,.pure,n⟩]/\a.eval x= .int k n:=by
 unfold tq at f;split at f
 ·rename_i m p d;cases f;have:=aK h d (by simp);obtain⟨u,e,i,l⟩:=EO.one this;exact⟨d,by rw[←l rfl];exact i⟩
 ·cases f
theorem LQ (h:Rel E C s a w g) {x:Operand} {b:Bool} (d:wH E s x=some b):a.eval x= .bool b:=by
 unfold wH at d;split at d
 ·rename_i l f;cases d;have:=aK h f (by simp);obtain⟨u,e,i,k⟩:=EO.one this;rw[←k rfl];exact i
 ·cases d
end
end Go.AM
end
