import Derived.Calls
import Derived.Laws.Entries
import Derived.Laws.AppendOwn
import Derived.Deep.MidRow
import Derived.Great.BuildSlice
set_option linter.unusedVariables false
theorem Ω{p:Prop}(h:p:=by omega):p:=h
theorem Δ{p:Prop}(h:p:=by simp;omega):p:=h
theorem Θ{p:Prop}(h:p:=by simp):p:=h
theorem Ξ{p:Prop}(h:p:=by decide):p:=h
theorem aac:type_of% @List.getElem?_eq_getElem:=@List.getElem?_eq_getElem
theorem aad:type_of% @List.getElem?_eq_some_iff:=@List.getElem?_eq_some_iff
theorem aae:type_of% @Bool.and_eq_true:=@Bool.and_eq_true
theorem aaf:type_of% @List.getElem_mem:=@List.getElem_mem
theorem aag:type_of% @Option.some.injEq:=@Option.some.injEq
theorem aah:type_of% @List.mem_singleton:=@List.mem_singleton
theorem aai:type_of% @List.mem_of_getElem?:=@List.mem_of_getElem?
theorem aaj:type_of% @Option.bind_some:=@Option.bind_some
theorem aak:type_of% @Option.some.inj:=@Option.some.inj
theorem aal:type_of% @List.getElem?_eq_none:=@List.getElem?_eq_none
theorem aam:type_of% @Int.toNat_natCast:=@Int.toNat_natCast
theorem aan:type_of% @List.getElem?_take:=@List.getElem?_take
theorem aao:type_of% @Nat.eq_of_beq_eq_true:=@Nat.eq_of_beq_eq_true
theorem aap:type_of% @List.mem_append:=@List.mem_append
theorem aaq:type_of% @List.length_append:=@List.length_append
theorem aar:type_of% @List.take_length:=@List.take_length
theorem aas:type_of% @List.getElem?_drop:=@List.getElem?_drop
theorem aat:type_of% @List.take_add_one:=@List.take_add_one
theorem aau:type_of% @List.getElem?_map:=@List.getElem?_map
theorem aav:type_of% @List.eq_nil_of_length_eq_zero:=@List.eq_nil_of_length_eq_zero
theorem aaw:type_of% @Nat.le_refl:=@Nat.le_refl
theorem aax:type_of% @List.getElem?_append_left:=@List.getElem?_append_left
theorem aay:type_of% @List.getElem_of_mem:=@List.getElem_of_mem
theorem aaz:type_of% @Prod.mk.injEq:=@Prod.mk.injEq
theorem aaA:type_of% @Nat.mul_le_mul_right:=@Nat.mul_le_mul_right
theorem aaB:type_of% @List.getElem?_append_right:=@List.getElem?_append_right
theorem aaC:type_of% @List.mem_map:=@List.mem_map
theorem aaD:type_of% @List.append_assoc:=@List.append_assoc
theorem aaE:type_of% @List.length_take:=@List.length_take
theorem aaF:type_of% @List.mem_append_left:=@List.mem_append_left
theorem aaG:type_of% @Nat.lt_or_ge:=@Nat.lt_or_ge
theorem aaH:type_of% @List.length_map:=@List.length_map
theorem aaI:type_of% @List.drop_eq_getElem_cons:=@List.drop_eq_getElem_cons
theorem aaJ:type_of% @List.take_of_length_le:=@List.take_of_length_le
theorem aaK:type_of% @Option.map_eq_some_iff:=@Option.map_eq_some_iff
theorem aaL:type_of% @Option.map_some:=@Option.map_some
theorem aaM:type_of% @List.append_nil:=@List.append_nil
theorem aaN:type_of% @List.pairwise_iff_getElem:=@List.pairwise_iff_getElem
theorem aaO:type_of% @List.getElem?_cons_zero:=@List.getElem?_cons_zero
theorem aaP:type_of% @Nat.le_trans:=@Nat.le_trans
theorem aaQ:type_of% @Option.toList_some:=@Option.toList_some
theorem aaR:type_of% @List.getElem?_set:=@List.getElem?_set
theorem aaS:type_of% @List.mem_cons_of_mem:=@List.mem_cons_of_mem
theorem aaT:type_of% @Classical.byContradiction:=@Classical.byContradiction
theorem aaU:type_of% @List.mem_cons:=@List.mem_cons
theorem aaV:type_of% @List.all_eq_true:=@List.all_eq_true
theorem aaW:type_of% @Array.getElem?_toList:=@Array.getElem?_toList
theorem aaX:type_of% @List.length_cons:=@List.length_cons
theorem aaY:type_of% @List.length_singleton:=@List.length_singleton
theorem aaZ:type_of% @List.ext_getElem?:=@List.ext_getElem?
theorem aa0:type_of% @Nat.add_zero:=@Nat.add_zero
theorem aa1:type_of% @Nat.lt_or_eq_of_le:=@Nat.lt_or_eq_of_le
theorem aa2:type_of% @Nat.zero_add:=@Nat.zero_add
theorem aa3:type_of% @List.drop_of_length_le:=@List.drop_of_length_le
theorem aa4:type_of% @List.mem_append_right:=@List.mem_append_right
theorem aa5:type_of% @List.getElem?_set_ne:=@List.getElem?_set_ne
theorem aa6:type_of% @Option.bind_eq_some_iff:=@Option.bind_eq_some_iff
theorem aa7:type_of% @List.length_set:=@List.length_set
theorem aa8:type_of% @Array.getElem?_eq_getElem:=@Array.getElem?_eq_getElem
theorem aa9:type_of% @Nat.le_of_lt_succ:=@Nat.le_of_lt_succ
theorem abb:type_of% @List.take_append_drop:=@List.take_append_drop
theorem abd:type_of% @Array.length_toList:=@Array.length_toList
theorem abe:type_of% @List.getElem?_set_self:=@List.getElem?_set_self
theorem abf:type_of% @Bool.false_eq_true:=@Bool.false_eq_true
theorem abg:type_of% @List.getD_eq_getElem?_getD:=@List.getD_eq_getElem?_getD
theorem abh:type_of% @List.length_drop:=@List.length_drop
theorem abj:type_of% @Array.getD_eq_getD_getElem?:=@Array.getD_eq_getD_getElem?
theorem abk:type_of% @List.cons.injEq:=@List.cons.injEq
theorem abl:type_of% @Nat.le_of_ble_eq_true:=@Nat.le_of_ble_eq_true
theorem abm:type_of% @Bool.not_true:=@Bool.not_true
theorem abn:type_of% @List.getElem?_replicate:=@List.getElem?_replicate
theorem abo:type_of% @List.map_cons:=@List.map_cons
theorem abp:type_of% @Nat.lt_of_lt_of_le:=@Nat.lt_of_lt_of_le
theorem abq:type_of% @List.flatMap_cons:=@List.flatMap_cons
theorem abr:type_of% @List.mem_of_mem_take:=@List.mem_of_mem_take
theorem abt:type_of% @List.map_append:=@List.map_append
theorem abu:type_of% @Array.toList_inj:=@Array.toList_inj
theorem abv:type_of% @List.mem_or_eq_of_mem_set:=@List.mem_or_eq_of_mem_set
theorem abw:type_of% @Bool.not_eq_true':=@Bool.not_eq_true'
theorem abx:type_of% @Nat.succ_mul:=@Nat.succ_mul
theorem aby:type_of% @Option.getD_some:=@Option.getD_some
theorem abz:type_of% @Array.getElem?_eq_some_iff:=@Array.getElem?_eq_some_iff
theorem abA:type_of% @List.append_eq:=@List.append_eq
theorem abB:type_of% @List.drop_zero:=@List.drop_zero
theorem abC:type_of% @List.length_replicate:=@List.length_replicate
theorem abD:type_of% @List.mem_of_mem_drop:=@List.mem_of_mem_drop
theorem abE:type_of% @List.take_append_of_le_length:=@List.take_append_of_le_length
theorem abG:type_of% @List.mem_cons_self:=@List.mem_cons_self
theorem abH:type_of% @Nat.zero_le:=@Nat.zero_le
theorem abI:type_of% @Int.toNat_of_nonneg:=@Int.toNat_of_nonneg
theorem abJ:type_of% @List.cons.inj:=@List.cons.inj
theorem abK:type_of% @Nat.add_assoc:=@Nat.add_assoc
theorem abL:type_of% @List.take_left:=@List.take_left
theorem abM:type_of% @List.map_map:=@List.map_map
theorem abN:type_of% @Nat.pow_le_pow_right:=@Nat.pow_le_pow_right
theorem abO:type_of% @Nat.add_mul:=@Nat.add_mul
theorem abP:type_of% @Nat.min_eq_left:=@Nat.min_eq_left
theorem abQ:type_of% @List.drop_left:=@List.drop_left
theorem abR:type_of% @List.pairwise_singleton:=@List.pairwise_singleton
theorem abS:type_of% @Int.lt_or_eq_of_le:=@Int.lt_or_eq_of_le
theorem abT:type_of% @Bool.or_eq_true:=@Bool.or_eq_true
theorem abU:type_of% @List.nil_append:=@List.nil_append
theorem abV:type_of% @List.getElem_take:=@List.getElem_take
theorem abW:type_of% @Nat.mul_comm:=@Nat.mul_comm
theorem abX:type_of% @Nat.mul_one:=@Nat.mul_one
theorem abY:type_of% @List.pairwise_append:=@List.pairwise_append
theorem abZ:type_of% @Nat.pow_le_pow_left:=@Nat.pow_le_pow_left
theorem ab1:type_of% @List.mem_range:=@List.mem_range
theorem ab2:type_of% @List.take_take:=@List.take_take
theorem ab3:type_of% @List.getElem?_take_of_lt:=@List.getElem?_take_of_lt
theorem ab4:type_of% @List.pairwise_cons:=@List.pairwise_cons
theorem ab5:type_of% @Nat.eq_zero_or_pos:=@Nat.eq_zero_or_pos
theorem ab6:type_of% @Bool.not_eq_true:=@Bool.not_eq_true
theorem ab7:type_of% @Iff.rfl:=@Iff.rfl
theorem ab8:type_of% @List.any_eq_true:=@List.any_eq_true
theorem ab9:type_of% @Prod.ext:=@Prod.ext
theorem acd:type_of% @Bool.not_false:=@Bool.not_false
theorem ace:type_of% @List.flatten_cons:=@List.flatten_cons
theorem acf:type_of% @List.size_toArray:=@List.size_toArray
theorem acg:type_of% @Nat.lt_trichotomy:=@Nat.lt_trichotomy
theorem ach:type_of% @List.getElem?_range:=@List.getElem?_range
theorem aci:type_of% @List.length_nil:=@List.length_nil
theorem acj:type_of% @List.map_congr_left:=@List.map_congr_left
theorem acn:type_of% @Array.getElem?_eq_none:=@Array.getElem?_eq_none
theorem aco:type_of% @Int.tdiv_eq_ediv_of_nonneg:=@Int.tdiv_eq_ediv_of_nonneg
theorem acp:type_of% @List.mem_flatMap:=@List.mem_flatMap
theorem acr:type_of% @Bool.and_true:=@Bool.and_true
theorem acs:type_of% @Int.lt_or_le:=@Int.lt_or_le
theorem acu:type_of% @List.countP_le_length:=@List.countP_le_length
theorem acv:type_of% @List.map_drop:=@List.map_drop
theorem acw:type_of% @List.map_take:=@List.map_take
theorem acy:type_of% @Nat.sub_self:=@Nat.sub_self
theorem acz:type_of% @List.getElem?_zip_eq_some:=@List.getElem?_zip_eq_some
theorem acA:type_of% @List.take_zero:=@List.take_zero
theorem acB:type_of% @Option.filter_eq_some_iff:=@Option.filter_eq_some_iff
theorem acC:type_of% @Array.size_replicate:=@Array.size_replicate
theorem acD:type_of% @List.foldl_cons:=@List.foldl_cons
theorem acE:type_of% @List.nodup_append:=@List.nodup_append
theorem acF:type_of% @Option.isSome_iff_exists:=@Option.isSome_iff_exists
theorem acG:type_of% @Nat.beq_refl:=@Nat.beq_refl
theorem acH:type_of% @Nat.le_of_eq:=@Nat.le_of_eq
theorem acI:type_of% @List.take_succ_cons:=@List.take_succ_cons
theorem acJ:type_of% @List.cons_append:=@List.cons_append
theorem acK:type_of% @List.ext_getElem:=@List.ext_getElem
theorem acL:type_of% @List.not_mem_nil:=@List.not_mem_nil
theorem acM:type_of% @Nat.div_eq_of_lt:=@Nat.div_eq_of_lt
theorem acN:type_of% @List.mem_replicate:=@List.mem_replicate
theorem acO:type_of% @List.all_append:=@List.all_append
theorem acP:type_of% @List.map_nil:=@List.map_nil
theorem acQ:type_of% @Nat.add_comm:=@Nat.add_comm
theorem acR:type_of% @Bool.true_and:=@Bool.true_and
theorem acS:type_of% @List.all_cons:=@List.all_cons
theorem acT:type_of% @List.pairwise_map:=@List.pairwise_map
theorem acU:type_of% @List.foldl_nil:=@List.foldl_nil
theorem acV:type_of% @List.drop_length:=@List.drop_length
theorem acW:type_of% @List.map_toArray:=@List.map_toArray
theorem acX:type_of% @List.take_append:=@List.take_append
theorem acY:type_of% @Int.le_refl:=@Int.le_refl
theorem acZ:type_of% @Nat.pow_succ:=@Nat.pow_succ
section
namespace Go.AM
inductive Sh where
 |int (k:IntKind)|bool|str|sl (es:List Sh)|rsl (ss:List Sh)|dl (es:List Sh)|mp (k e:Sh)
inductive RT (α:Type) where
 |mk (a:α) (kids:List (RT α))
def RT.a {α:Type}:RT α->α| .mk a _=>a
def RT.kids {α:Type}:RT α->List (RT α)| .mk _ ks=>ks
mutual
def El:Sh->Type
 | .int _=>Int
 | .bool=>Bool
 | .str=>ByteArray
 | .sl es=>List (ElA es)
 | .rsl ss=>List (RT (ElA ss))
 | .dl es=>List (Option (ElA es))
 | .mp k e=>Option (List (El k×El e))
def ElA:List Sh->Type
 | []=>Unit
 |s::ss=>match ss with
  | []=>El s
  |_::_=>El s×ElA ss
end
mutual
def Sh.beq:Sh->Sh->Bool
 | .int k,.int f=>decide (k=f)
 | .bool,.bool=>true
 | .str,.str=>true
 | .sl es,.sl d=>aX0 es d
 | .rsl es,.rsl d=>aX0 es d
 | .dl es,.dl d=>aX0 es d
 | .mp k e,.mp f g=>Sh.beq k f&&Sh.beq e g
 |_,_=>false
def aX0:List Sh->List Sh->Bool
 | [],[]=>true
 |s::ss,t::ts=>Sh.beq s t&&aX0 ss ts
 |_,_=>false
end
theorem aY8: ∀{a b:Sh},Sh.beq a b=true->a=b:=by
 intro a
 induction a using Sh.rec (motive_2:=λ l=> ∀g,aX0 l g=true->l=g)with
 |int k=>intro b;cases b<;>simp[Sh.beq]
 |bool=>intro b;cases b<;>simp[Sh.beq]
 |str=>intro b;cases b<;>simp[Sh.beq]
 |sl es i=>intro b;cases b<;>simp[Sh.beq];exact λ h=>i _ h
 |rsl es i=>intro b;cases b<;>simp[Sh.beq];exact λ h=>i _ h
 |dl es i=>intro b;cases b<;>simp[Sh.beq];exact λ h=>i _ h
 |mp k e d f=>intro b;cases b<;>simp[Sh.beq];exact λ h m=>⟨d h,f m⟩
 |nil=>rename_i g h;cases g<;>simp[aX0]at h ⊢
 |cons s ss d f=>rename_i g h;cases g<;>simp[aX0]at h ⊢;exact⟨d h.1,f _ h.2⟩
inductive Tg where
 |pure|own|tip|dead
def Tg.le:Tg->Tg->Bool
 | .dead,_=>true
 | .pure,b=>match b with| .dead=>false|_=>true
 | .tip,b=>match b with| .tip=>true| .own=>true|_=>false
 | .own,b=>match b with| .own=>true|_=>false
def Sh.top:Sh->Tg
 | .sl _=> .own
 | .rsl _=> .own
 | .dl _=> .own
 | .mp _ _=> .own
 |_=> .pure
def Tg.isPure:Tg->Bool| .pure=>true|_=>false
def Tg.G9:Tg->Bool| .own=>true|_=>false
def Sh.qR:Sh->Bool
 | .sl _=>true
 | .rsl _=>true
 | .dl _=>true
 |_=>false
def Sh.qK:Sh->Bool
 | .sl _=>true
 | .rsl _=>true
 |_=>false
def Sh.base:Sh->Sh
 | .dl es=> .sl es
 |s=>s
def aX5:Sh->Sh
 | .sl es=>bif es.any Sh.qR then .dl es else .sl es
 |s=>s
def Sh.aew:Sh->Bool
 | .dl _=>true
 |_=>false
def Sh.Kr:Sh->Bool
 | .mp _ _=>true
 |_=>false
def Sh.adY:Sh->Tg->Bool
 | .dl _,.own=>true
 | .dl _,.dead=>true
 | .dl _,_=>false
 | .mp _ _,.own=>true
 | .mp _ _,.dead=>true
 | .mp _ _,_=>false
 |_,_=>true
def rowAt? {α:Type} (l:List (Option α)) (i:Nat):Option α:=(l[i]?).join
def oO {α:Type}:List (Option α)->Option (List α)
 | []=>some []
 |none::_=>none
 |some x::l=>(oO l).map (x:: ·)
structure CV where
 sh:Sh
 tg:Tg
 x:El sh
abbrev LC:Type:=List CV
abbrev LV:Type:=List Value
def CV.isPure (c:CV):Bool:=c.tg.isPure
def CV.kill (c:CV):CV:=⟨c.sh,.dead,c.x⟩
def CV.to (c:CV) (t:Tg):CV:=⟨c.sh,t,c.x⟩
def CV.left (c:CV):CV:=bif c.isPure then c else c.kill
def jY (c:CV) (s:Sh):Option (El s):=
 if h:Sh.beq c.sh s=true then some (cast (congrArg El (aY8 h)) c.x)else none
def cellsOf:(es:List Sh)->ElA es->LC
 | [],_=>[]
 | [s],x=>[⟨s,.pure,x⟩]
 |s::t::ss,x=>⟨s,.pure,x.1⟩::cellsOf (t::ss) x.2
def nS (es:List Sh) (x:ElA es):LC:=(cellsOf es x).map λ c=>c.to c.sh.top
def iq:(es:List Sh)->LC->Option (ElA es)
 | [],cs=>match cs with| []=>some ()|_=>none
 | [s],cs=>match cs with
   | [c]=>jY c s
   |_=>none
 |s::t::ss,cs=>match cs with
  |c::cs=>match jY c s,iq (t::ss) cs with
   |some y,some z=>some (y,z)
   |_,_=>none
  | []=>none
def FC (cs:LC):Bool:=cs.all λ c=>match c.tg with| .dead=>false|_=>true
def Fh (cs:LC):Bool:=cs.all λ c=>(match c.tg with| .dead=>false|_=>true)&& !c.sh.aew&& !c.sh.Kr
def uo (ss:List Sh) (t:RT (ElA ss)):LC:=cellsOf ss t.a++[⟨.rsl ss,.pure,t.kids⟩]
def xO (ss:List Sh) (cs:LC):Option (RT (ElA ss)):=
 match iq ss (cs.take ss.length),cs.drop ss.length with
 |some a,[k]=>match jY k (.rsl ss)with|some ks=>some (.mk a ks)|none=>none
 |_,_=>none
def lG:(s:Sh)->El s
 | .int _=>(0:Int)
 | .bool=>false
 | .str=>ByteArray.empty
 | .sl _=>[]
 | .rsl _=>[]
 | .dl _=>[]
 | .mp _ _=>none
def J7 (s:Sh):CV:=⟨s,s.top,lG s⟩
structure TyI where
 ag:Bool
 cells:List Sh
 fields:List (Nat×Nat)
 ftys:List TypeId
 elem:Option TypeId
inductive Root where
 |tmp (n:Nat)|box (n:Nat)
structure Pl where
 root:Root
 inst:Nat
 vers:List Nat
 cell:Nat
 sub:Option (Nat×Nat)
inductive T where
 |dead
 |undef
 |nilc
 |val (ag:Bool) (cs:LC)
 |ref (p:Pl) (ag:Bool) (n:Nat)
 |rsub (p:Pl) (z:Bool) (lo hi:Nat)
 |addr (p:Pl)
 |rowr (p:Pl) (ag:Bool) (n:Nat)
 |addr2 (p:Pl) (k j:Nat)
 |paddr (cs:LC) (off:Nat)
 |tup (ts:List (Bool×LC))
 |fn (f:FuncId)
 |clo (f:FuncId) (caps:List T)
 |ext (p:Pl) (q c:CV)
structure Bx where
 inst:Nat
 cells:List (CV×Nat)
structure St where
 tm:Nat->T×Nat
 bx:Nat->Option Bx
def put {α:Type} (f:Nat->α) (n:Nat) (v:α):Nat->α:=λ m=>bif Nat.beq m n then v else f m
inductive Upd where
 |tm (n:Nat) (t:T)
 |keep (n:Nat) (t:T)
 |bx (n:Nat) (b:Bx)
 |cl (n:Nat) (l:List (Nat×CV×Nat))
def setMany {α:Type}:List α->List (Nat×α)->List α
 |cs,[]=>cs
 |cs,(i,c)::l=>setMany (cs.set i c) l
def Upd.on (s:St):Upd->St
 | .cl n l=>{s with bx:=put s.bx n ((s.bx n).map λ b=>⟨b.inst,setMany b.cells l⟩)}
 | .tm n t=>{s with tm:=put s.tm n (t,(s.tm n).2+1)}
 | .keep n t=>{s with tm:=put s.tm n (t,(s.tm n).2)}
 | .bx n b=>{s with bx:=put s.bx n (some b)}
def St.dW (s:St) (us:List Upd):St:=us.foldl Upd.on s
inductive Dyn (α:Type):Type 1 where
 |ret (a:α)
 |fail
 |chk (c:Bool) (k:Dyn α)
 |idx {β:Type} (o:Option β) (k:β->Dyn α)
def Dyn.run {α:Type}:Dyn α->Option α
 | .ret a=>some a
 | .fail=>none
 | .chk c k=>bif c then k.run else none
 | .idx o k=>o.bind λ b=>(k b).run
def Dyn.runK {α ρ:Type}:Dyn α->(α->Option ρ)->Option ρ
 | .ret a,q=>q a
 | .fail,_=>none
 | .chk c k,q=>bif c then k.runK q else none
 | .idx o k,q=>o.bind λ b=>(k b).runK q
def Dyn.bind {α β:Type}:Dyn α->(α->Dyn β)->Dyn β
 | .ret a,q=>q a
 | .fail,_=> .fail
 | .chk c k,q=> .chk c (k.bind q)
 | .idx o k,q=> .idx o λ b=>(k b).bind q
def Dyn.of {α:Type}:Option α->Dyn α
 |some a=> .ret a
 |none=> .fail
instance:Monad Dyn where
 pure:=Dyn.ret
 bind:=Dyn.bind
theorem Dyn.Vz {α ρ:Type} (d:Dyn α) (q:α->Option ρ):d.runK q=d.run.bind q:=by
 induction d with
 |ret a=>rfl
 |fail=>rfl
 |chk c k e=>cases c<;>simp[Dyn.run,Dyn.runK,e]
 |idx o k e=>cases o<;>simp[Dyn.run,Dyn.runK,e]
theorem Dyn.run_bind {α β:Type} (d:Dyn α) (q:α->Dyn β):(d.bind q).run=d.run.bind λ a=>(q a).run:=by
 induction d with
 |ret a=>rfl
 |fail=>rfl
 |chk c k e=>cases c<;>simp[Dyn.run,Dyn.bind,e]
 |idx o k e=>cases o<;>simp[Dyn.run,Dyn.bind,e]
def nth? {α:Type} (l:List α) (i:Int):Option α:=bif decide (0<=i)then l[i.toNat]? else none
inductive PK where
 |val (ag:Bool) (cells:List (Sh×Tg))
 |ptr (cells:List (Sh×Tg))
 |rptr (cells:List (Sh×Tg))
 |fn (f:FuncId)
 |io (cells:List (Sh×Tg))
 |clo (f:FuncId) (cells:List (Sh×Tg))
def PK.cells:PK->List (Sh×Tg)| .val _ cs=>cs| .ptr cs=>cs| .rptr cs=>cs| .fn _=>[]| .io cs=>cs| .clo _ cs=>cs
def PK.outs:PK->List (Sh×Tg)| .ptr cs=>cs| .io cs=>cs|_=>[]
def aen (ps:List PK) (d:Nat):Bool:=match ps[d]? with|some (.ptr _)=>true|some (.io _)=>true|_=>false
def OU (i:Nat):List (Sh×Tg)->Nat->List (Nat×Nat)
 | [],_=>[]
 |(_,.dead)::l,j=>(i,j)::OU i l (j+1)
 |_::l,j=>OU i l (j+1)
def U5:List PK->Nat->List (Nat×Nat)
 | [],_=>[]
 | .ptr want::ps,i=>OU i want 0++U5 ps (i+1)
 |_::ps,i=>U5 ps (i+1)
structure Sig where
 fn:FuncId
 params:List PK
 res:List (Bool×List (Sh×Tg))
def Sig.ins (g:Sig):List (Sh×Tg):=g.params.flatMap PK.cells
def Sig.outs (g:Sig):List (Sh×Tg):=g.res.flatMap (·.2)++g.params.flatMap PK.outs
abbrev Sig.In (g:Sig):Type:=ElA (g.ins.map (·.1))
abbrev Sig.Out (g:Sig):Type:=ElA (g.outs.map (·.1))
def Sh.scalar:Sh->Bool| .int _=>true| .bool=>true| .str=>true|_=>false
def Sig.scalar (g:Sig):Bool:=g.outs.all (·.1.scalar)&&g.params.all λ p=>match p with| .ptr _=>false| .io _=>false|p=>p.cells.all (·.2.isPure)
structure Env where
 nt:Nat
 fix:Nat->Bool
 ty:TypeId->Option TyI
 glob:Nat->Option (LC)
 sig:Nat->Sig
 spec:Nat->Nat
 call:(i:Nat)->(sig i).In->Option (sig i).Out
 kept:List (Nat×Nat)
def bI (cs:LC):Bool:=cs.all CV.isPure
def OT:Value->T
 | .int k n=> .val false [⟨.int k,.pure,n⟩]
 | .bool b=> .val false [⟨.bool,.pure,b⟩]
 | .string b=> .val false [⟨.str,.pure,b⟩]
 | .slice none 0 0=> .nilc
 |_=> .dead
def at_ (E:Env) (s:St):Operand->T
 | .tmp t=>(s.tm t).1
 | .const v=>OT v
 | .global g=>match E.glob g with|some cs=> .paddr cs 0|none=> .dead
 | .func f=> .fn f
def aA (s:St):Root->Option (Nat×List (CV×Nat))
 | .tmp n=>match s.tm n with
   |(.val _ cs,v)=>some (v,cs.map λ c=>(c,v))
   |_=>none
 | .box n=>match s.bx n with
   |some b=>some (b.inst,b.cells)
   |none=>none
def F5:List Nat->List Nat->Bool
 | [],_=>true
 |v::d,w::e=>Nat.beq v w&&F5 d e
 |_::_,[]=>false
def aV (s:St) (p:Pl) (n:Nat):Option (LC):=
 match aA s p.root with
 |some (inst,cs)=>
  bif Nat.beq inst p.inst&&Nat.ble (p.cell+n) cs.length&&F5 p.vers ((cs.drop p.cell).map (·.2))then some (((cs.drop p.cell).take n).map (·.1))else none
 |none=>none
def D9 (s:St) (p:Pl) (n:Nat):List Nat:=
 match aA s p.root with
 |some (_,cs)=>((cs.drop p.cell).take n).map (·.2)
 |none=>[]
def Di (s:St) (p:Pl):Bool:=
 match p.sub with
 |none=>match aA s p.root with|some (inst,_)=>Nat.beq inst p.inst|none=>false
 |some _=>match aV s p 1 with|some _=>true|none=>false
def setCells (cs:LC) (j:Nat) (ds:LC):LC:=cs.take j++ds++cs.drop (j+ds.length)
def jT (s:St) (p:Pl) (ds:LC) (e:Bool):Option (List Upd):=
 match p.root with
 | .tmp n=>match s.tm n with
   |(.val ag cs,v)=>bif e then none else bif Nat.beq v p.inst then some [.keep n (.val ag (setCells cs p.cell ds))]else none
   |_=>none
 | .box n=>match s.bx n with
   |some b=>bif Nat.beq b.inst p.inst&&Nat.ble (p.cell+ds.length) b.cells.length then
    some [.bx n ⟨b.inst,b.cells.take p.cell++(ds.zip (b.cells.drop p.cell)).map (λ(d,(_,v))=>(d,bif e then v+1 else v))++b.cells.drop (p.cell+ds.length)⟩]
    else none
   |none=>none
def at? {α:Type} (l:List α) (i:Nat):Option α:=l[i]?
def zk (c:CV) (i:Nat):Dyn (LC):=
 match c with
 |⟨.sl es,tg,l⟩=>match tg with
  | .dead=> .fail
  |_=> .idx (at? l i) λ e=> .ret (cellsOf es e)
 |⟨.rsl ss,tg,l⟩=>match tg with
  | .dead=> .fail
  |_=> .idx (at? l i) λ e=> .ret (uo ss e)
 |_=> .fail
def elemAt (c:CV) (i:Int):Dyn (LC):=
 match c with
 |⟨.sl es,tg,l⟩=>match tg with
  | .dead=> .fail
  |_=> .idx (nth? l i) λ e=> .ret (cellsOf es e)
 |⟨.rsl ss,tg,l⟩=>match tg with
  | .dead=> .fail
  |_=> .idx (nth? l i) λ e=> .ret (uo ss e)
 |_=> .fail
def content (s:St) (p:Pl) (n:Nat):Dyn (LC):=
 match p.sub with
 |none=>Dyn.of (aV s p n)
 |some (i,j)=>match aV s p 1 with
  |some [c]=>(zk c i).bind λ cs=>bif Nat.ble (j+n) cs.length then .ret ((cs.drop j).take n)else .fail
  |_=> .fail
def Gu (c:CV) (i:Nat) (cs:LC):Option CV:=
 match c with
 |⟨.sl es,.own,l⟩=>match iq es cs with
  |some e=>some ⟨.sl es,.own,List.set l i e⟩
  |none=>none
 |⟨.rsl ss,.own,l⟩=>match xO ss cs with
  |some e=>some ⟨.rsl ss,.own,List.set l i e⟩
  |none=>none
 |_=>none
def Ik:LC->LC->Bool
 | [],[]=>true
 |a::d,b::e=>Sh.beq a.sh b.sh&&Ik d e
 |_,_=>false
def N9 (s:St) (p:Pl):Option (CV×Nat×Nat):=
 match p.sub with
 |some (i,j)=>match aV s p 1 with
  |some [⟨.dl es,.own,l⟩]=>some (⟨.dl es,.own,l⟩,i,j)
  |_=>none
 |none=>none
def I8 (c:CV) (i j n:Nat):Dyn (LC):=
 match c with
 |⟨.dl es,.own,l⟩=> .idx (rowAt? l i) λ e=>bif Nat.ble (j+n) (nS es e).length then .ret (((nS es e).drop j).take n)else .fail
 |_=> .fail
def moveRow (c:CV) (i:Nat):Option CV:=
 match c with
 |⟨.dl es,.own,l⟩=>some ⟨.dl es,.own,List.set l i none⟩
 |_=>none
def zO (s:St) (n:Nat):List (CV×Nat):=match s.bx n with|some b=>b.cells|none=>[]
def KT (e:Bool):Nat->LC->List (CV×Nat)->List (Nat×CV×Nat)
 |j,d::ds,(_,v)::old=>(j,d,bif e then v+1 else v)::KT e (j+1) ds old
 |_,_,_=>[]
def Oa (s:St) (p:Pl) (ds:LC) (d:Bool) (us:List Upd):List Upd:=match p.root with
 | .box n=>[.cl n (KT d p.cell ds ((zO s n).drop p.cell))]
 | .tmp _=>us
def NY (s:St) (p:Pl) (ds:LC):Dyn (List Upd):=
 match p.sub with
 |none=>match aV s p ds.length with
  |some old=>bif Ik ds old then Dyn.of ((jT s p ds true).map (Oa s p ds true))else .fail
  |none=> .fail
 |some (i,j)=>match aV s p 1 with
  |some [c]=>(zk c i).bind λ cs=>bif Nat.ble (j+ds.length) cs.length&&Fh ds then
   match Gu c i (setCells cs j ds)with
   |some d=>Dyn.of (jT s p [d] false)
   |none=> .fail
   else .fail
  |_=> .fail
def yS (c:CV) (lo d:Nat):Option CV:=
 match c with
 |⟨.sl es,tg,l⟩=>match tg with| .dead=>none|tg=>some ⟨.sl es,tg,List.drop lo (List.take d l)⟩
 |⟨.rsl ss,tg,l⟩=>match tg with| .dead=>none|tg=>some ⟨.rsl ss,tg,List.drop lo (List.take d l)⟩
 |_=>none
def D5 (s:St) (p:Pl) (cs:LC):Option (List Upd):=
 bif bI cs then some []else match p.sub with|none=>(jT s p (cs.map CV.left) false).map (Oa s p (cs.map CV.left) false)|_=>none
def Ez (E:Env) (s:St) (x:Operand) (e:List Sh):Dyn (Bool×LC×List Upd):=
 match at_ E s x with
 | .val ag cs=>bif bI cs then .ret (ag,cs,[])else match x with
   | .tmp n=> .ret (ag,cs,[.keep n (.val ag (cs.map CV.left))])
   |_=> .fail
 | .ref p ag n=>(content s p n).bind λ cs=>match D5 s p cs with
   |some us=> .ret (ag,cs,us)
   |none=> .fail
 | .rsub p z lo f=>(content s p 1).bind λ cs=>match cs with
   | [c]=>match yS c lo f,D5 s p [c]with
     |some d,some us=> .ret (false,[bif z&&d.tg.G9 then d else d.to .pure],us)
     |_,_=> .fail
   |_=> .fail
 | .nilc=>match e with| [sh]=>bif sh.qR then .ret (false,[J7 sh],[])else .fail|_=> .fail
 | .rowr p ag n=>match N9 s p with
   |some (c,i,j)=>(I8 c i j n).bind λ cs=>match moveRow c i with
    |some g=>match jT s p [g] false with
     |some us=> .ret (ag,cs,us)
     |none=> .fail
    |none=> .fail
   |none=> .fail
 |_=> .fail
def ahD (c:CV) (sh:Sh):Dyn CV:=
 match c with
 |⟨.dl es,.own,l⟩=>match sh with
  | .sl _=> .idx (oO l) λ d=> .ret ⟨.sl es,.own,d⟩
  |_=> .ret ⟨.dl es,.own,l⟩
 |c=> .ret c
def thaw:LC->List Sh->Dyn (LC)
 |c::cs,sh::e=>(ahD c sh).bind λ d=>(thaw cs e).bind λ ds=> .ret (d::ds)
 |cs,_=> .ret cs
def JX (E:Env) (s:St) (x:Operand):Dyn (LC):=
 match at_ E s x with
 | .val false cs=> .ret cs
 | .ref p false n=>content s p n
 | .rsub p _ lo e=>(content s p 1).bind λ cs=>match cs with
   | [c]=>Dyn.of ((yS c lo e).map λ d=>[d])
   |_=> .fail
 |_=> .fail
def tY (E:Env) (s:St) (x:Operand):Option (IntKind×Int):=
 match at_ E s x with
 | .val false [⟨.int k,.pure,n⟩]=>some (k,n)
 |_=>none
def wR (E:Env) (s:St) (x:Operand):Option Bool:=
 match at_ E s x with
 | .val false [⟨.bool,.pure,b⟩]=>some b
 |_=>none
def OB (k:IntKind) (n:Int):T:= .val false [⟨.int k,.pure,n⟩]
def Yl (b:Bool):T:= .val false [⟨.bool,.pure,b⟩]
def ajU (b:ByteArray):T:= .val false [⟨.str,.pure,b⟩]
def intCmp (d:BinOp) (a b:Int):Option Bool:=
 match d with
 | .eql=>some (decide (a=b))| .neq=>some (!decide (a=b))| .lss=>some (decide (a<b))
 | .leq=>some (decide (a<=b))| .gtr=>some (decide (b<a))| .geq=>some (decide (b<=a))
 |_=>none
def ajh (op:BinOp) (k:IntKind) (a b:Int):Dyn T:=
 match op with
 | .add=> .ret (OB k (k.wrap (a+b)))
 | .sub=> .ret (OB k (k.wrap (a-b)))
 | .mul=> .ret (OB k (k.wrap (a*b)))
 | .and=> .ret (OB k (bits .and k a b))
 | .or=> .ret (OB k (bits .or k a b))
 | .xor=> .ret (OB k (bits .xor k a b))
 | .andNot=> .ret (OB k (bits .andNot k a b))
 | .quo=> .chk (!decide (b=0)) (.ret (OB k (k.wrap (a.tdiv b))))
 | .rem=> .chk (!decide (b=0)) (.ret (OB k (a.tmod b)))
 |op=>match intCmp op a b with
  |some c=> .ret (Yl c)
  |none=> .fail
def akq (d:BinOp) (a b:Bool):Dyn T:=
 match d with
 | .eql=> .ret (Yl (a==b))
 | .neq=> .ret (Yl (!(a==b)))
 |_=> .fail
def ah7 (d:BinOp) (k:IntKind) (a b:Int):Dyn T:=
 match d with
 | .shl=> .chk (decide (0<=b)&&decide (b<=k.bits)) (.ret (OB k (k.wrap (a*2^b.toNat))))
 | .shr=> .chk (decide (0<=b)&&decide (b<=k.bits)) (.ret (OB k (a/2^b.toNat)))
 |_=> .fail
def Gj:BinOp->Bool| .shl=>true| .shr=>true|_=>false
def akr (d:BinOp) (e:Bool) (x y:T):Dyn T:=
 match x,y with
 | .val false [⟨.int k,.pure,a⟩],.val false [⟨.int f,.pure,b⟩]=>bif Gj d then ah7 d k a b else bif decide (k=f)then ajh d k a b else .fail
 | .val false [⟨.bool,.pure,a⟩],.val false [⟨.bool,.pure,b⟩]=>bif e then akq d a b else .fail
 |_,_=> .fail
def oV {α β:Type} (q:α->α->Bool) (x:α):List (α×β)->Option β
 | []=>none
 |p::l=>bif q x p.1 then some p.2 else oV q x l
def Iw {α β:Type} (q:α->α->Bool) (x:α) (y:β):List (α×β)->List (α×β)
 | []=>[(x,y)]
 |p::l=>bif q x p.1 then(x,y)::l else p::Iw q x y l
def WO {α:Type} (l:Option (List α)):Nat:=match l with|some l=>List.length l|none=>0
def mX {α:Type} (l:Option (List α)):List α:=match l with|some l=>l|none=>[]
def keq:(s:Sh)->El s->El s->Bool
 | .int _,a,b=> @decide (@Eq Int a b) (Int.instDecidableEq a b)
 | .bool,a,b=> @BEq.beq Bool _ a b
 | .str,a,b=> @decide (@Eq ByteArray a b) ((inferInstance:DecidableEq ByteArray) a b)
 |_,_,_=>false
def ieq (a b:Int):Bool:=decide (a=b)
def ah5 (a b:Bool):Bool:=a==b
def seq (a b:ByteArray):Bool:=decide (a=b)
def yg (l:List Int):ByteArray:=⟨(l.map λ n=>UInt8.ofNat n.toNat).toArray⟩
def lenOf (c:CV):Option Nat:=
 match c with
 |⟨.sl _,.dead,_⟩=>none
 |⟨.rsl _,.dead,_⟩=>none
 |⟨.sl _,_,l⟩=>some (List.length l)
 |⟨.rsl _,_,l⟩=>some (List.length l)
 |⟨.dl _,.own,l⟩=>some (List.length l)
 |⟨.str,.pure,b⟩=>some (ByteArray.size b)
 |⟨.mp _ _,.own,l⟩=>some (WO l)
 |_=>none
def ay:Nat:=2^40
def ai6 (c d:CV):Dyn CV:=
 match c,d with
 |⟨.sl es,tg,l⟩,⟨.sl f,e,m⟩=>
  bif (match tg with| .tip=>true| .own=>true|_=>false)&&Tg.le .pure e then
  match jY ⟨.sl f,.pure,m⟩ (.sl es)with
  |some m=> .chk (decide (List.length l+List.length m<=ay)) (.ret ⟨.sl es,tg,List.append l m⟩)
  |none=> .fail
  else .fail
 |⟨.rsl ss,tg,l⟩,⟨.rsl g,e,m⟩=>
  bif (match tg with| .tip=>true| .own=>true|_=>false)&&Tg.le .pure e then
  match jY ⟨.rsl g,.pure,m⟩ (.rsl ss)with
  |some m=> .chk (decide (List.length l+List.length m<=ay)) (.ret ⟨.rsl ss,tg,List.append l m⟩)
  |none=> .fail
  else .fail
 |_,_=> .fail
def vN (E:Env) (fields:List (Nat×Nat)) (cells:List Sh):List (Nat×Operand)->St->LC->List Upd->Dyn (LC×List Upd)
 | [],_,cs,us=> .ret (cs,us)
 |(i,x)::ps,s,cs,us=>match fields[i]? with
  |none=> .fail
  |some (off,n)=>(Ez E s x ((cells.drop off).take n)).bind λ(_,ds,d)=>
   bif Nat.beq ds.length n&&Ik ds ((cs.drop off).take n)then vN E fields cells ps (s.dW d) (setCells cs off ds) (us++d)else .fail
def MK (es:List Sh):List (LC)->Option (List (ElA es))
 | []=>some []
 |r::rs=>bif Fh r then match iq es r,MK es rs with
  |some e,some l=>some (e::l)
  |_,_=>none else none
def Qw (ss:List Sh):List (LC)->Option (List (RT (ElA ss)))
 | []=>some []
 |r::rs=>bif Fh r then match xO ss r,Qw ss rs with
  |some e,some l=>some (e::l)
  |_,_=>none else none
def Vg (s:St) (d:Nat) (cs:LC):List Upd:=
 let i:=(match s.bx d with|some b=>b.inst|none=>0)+1
 [.bx d ⟨i,cs.map λ c=>(c,0)⟩,.tm d (.addr ⟨.box d,i,[],0,none⟩)]
def weaken (cs:LC) (want:List (Sh×Tg)):Option (LC):=
 match cs,want with
 | [],[]=>some []
 |c::cs,(sh,tg)::want=>bif Sh.beq c.sh sh&&Tg.le tg c.tg&&sh.adY tg then(weaken cs want).map (c.to tg:: ·)else none
 |_,_=>none
def leftAs (c:CV) (tg:Tg):CV:=
 match tg with
 | .pure=>match c.tg with
   | .own=>c.to .tip
   |_=>c
 | .dead=>c
 |_=>c.kill
def iL:LC->List (Sh×Tg)->LC
 |c::cs,(_,tg)::want=>(bif c.isPure then c else leftAs c tg)::iL cs want
 |_,_=>[]
def LJ (s:St) (p:Pl) (cs:LC) (want:List (Sh×Tg)):Dyn (LC×List Upd):=
 match weaken cs want with
 |none=> .fail
 |some ds=>bif bI cs then .ret (ds,[])else match p.sub with
  |none=>match jT s p (iL cs want) false with
   |some us=> .ret (ds,Oa s p (iL cs want) false us)
   |none=> .fail
  |_=> .fail
def aeQ (want:List (Sh×Tg)):Dyn (LC):=
 match want with
 | [(sh,tg)]=>bif sh.qK then .ret [(J7 sh).to tg]else .fail
 |_=> .fail
def LK (s:St) (t:T) (x:Operand) (f:Bool) (want:List (Sh×Tg)):Dyn (LC×List Upd):=
 match t with
 | .val ag cs=>bif ag==f then match weaken cs want with
   |none=> .fail
   |some ds=>bif bI cs then .ret (ds,[])else match x with
    | .tmp n=> .ret (ds,[.keep n (.val ag (iL cs want))])
    |_=> .fail else .fail
 | .ref p ag n=>bif ag==f then(content s p n).bind λ cs=>LJ s p cs want else .fail
 | .rsub p _ lo g=>bif f then .fail else(content s p 1).bind λ cs=>match cs with
   | [c]=>match yS c lo g with
     |none=> .fail
     |some d=>match weaken [d] want with
      |none=> .fail
      |some ds=>bif bI ds then match p.sub with
       |none=>match jT s p (iL [c] want) false with
        |some us=> .ret (ds,us)
        |none=> .fail
       |_=> .fail else .fail
   |_=> .fail
 | .nilc=>bif f then .fail else(aeQ want).bind λ ds=> .ret (ds,[])
 | .rowr p ag n=>bif ag||f then .fail else match N9 s p with
   |some (c,i,j)=>(I8 c i j n).bind λ cs=>match cs,want,moveRow c i with
    | [e],[(sh,tg)],some k=>match weaken [e] [(sh,tg)],jT s p [k] false with
      |some ds,some us=> .ret (ds,us)
      |_,_=> .fail
    |_,_,_=> .fail
   |none=> .fail
 | .ext p q c=>match want,x with
   | [(sh,.own)],.tmp n=>bif !f&&Sh.beq c.sh sh&&c.tg.G9 then .ret ([c],[.keep n (.ext p q c.kill)])else .fail
   |_,_=> .fail
 |_=> .fail
def yO (E:Env) (ag:Bool) (want:List (Sh×Tg)):List (Nat×Operand)->Nat->St->List (LC)->List Upd->Dyn (List (LC)×List Upd)
 | [],_,_,rows,us=> .ret (rows.reverse,us)
 |(i,x)::ps,k,s,rows,us=>bif Nat.beq i k then
  (LK s (at_ E s x) x ag want).bind λ r=>yO E ag want ps (k+1) (s.dW r.2) (r.1::rows) (us++r.2)
  else .fail
def rD (want:List (Sh×Tg)):Bool:=want.any λ x=>match x.2 with| .dead=>true|_=>false
def iT (e:Nat):Nat->LC->List (CV×Nat)->List (Sh×Tg)->List (Nat×CV×Nat)
 |j,c::cs,(_,v)::old,(_,tg)::want=>match tg with
  | .dead=>iT e (j+1) cs old want
  |_=>(j,c,v+e)::iT e (j+1) cs old want
 |_,_,_,_=>[]
def akp (E:Env) (t:TypeId):Bool:=match E.ty t with|some i=>i.ag|none=>false
def Zb (t:T) (want:List (Sh×Tg)):Dyn (LC):=
 match t with
 | .paddr cs off=>bif Nat.ble (off+want.length) cs.length then match weaken ((cs.drop off).take want.length) want with
   |some ds=>bif bI ds then .ret ds else .fail
   |none=> .fail else .fail
 |_=> .fail
def aiJ (n:Nat) (d:List (Option Nat)):Bool:=d.all λ b=>match b with|some m=> !(Nat.beq n m)|none=>true
def Sm (s:St) (d:List (Option Nat)) (pk:PK) (t:T) (x:Operand):Dyn (LC×List Upd×Option Nat):=
 match pk with
 | .val ag want=>(LK s t x ag want).bind λ r=> .ret (r.1,r.2,none)
 | .rptr want=>(Zb t want).bind λ ds=> .ret (ds,[],none)
 | .ptr want=>match t with
   | .addr p=>match p.root,p.sub,aV s p want.length with
     | .box n,none,some cs=>bif Nat.beq p.cell 0&&aiJ n d&&(match s.bx n with|some b=>Nat.beq b.cells.length want.length|none=>false)then
       match weaken cs want,jT s p (iL cs want) false with
        |some ds,some us=> .ret (ds,bif rD want then[.cl n (iT 0 0 (iL cs want) (zO s n) want)]else us,some n)
        |_,_=> .fail
       else .fail
     |_,_,_=> .fail
   |_=> .fail
 | .fn f=>match t with
   | .fn g=>bif Nat.beq f g then .ret ([],[],none)else .fail
   |_=> .fail
 | .io want=>(LK s t x false want).bind λ r=> .ret (r.1,r.2,none)
 | .clo _ _=> .fail
def xM (E:Env):List PK->List Operand->List (Option Nat)->St->LC->List Upd->Dyn (LC×List Upd×List (Option Nat))
 | [],[],d,_,cs,us=> .ret (cs,us,d)
 |p::ps,x::e,d,s,cs,us=>(Sm s d p (at_ E s x) x).bind λ r=>xM E ps e (d++[r.2.2]) (s.dW r.2.1) (cs++r.1) (us++r.2.1)
 |_,_,_,_,_,_=> .fail
def Vt (cs:LC) (want:List (Sh×Tg)):Dyn (LC):=
 (thaw cs (want.map (·.1))).bind λ cs=>match weaken cs want with
  |some ds=>bif bI ds then .ret ds else .fail
  |none=> .fail
def SE (s:St) (t:T) (want:List (Sh×Tg)):Dyn (LC):=
 match t with
 | .addr p=>match p.sub with
   |none=>(content s p want.length).bind λ cs=>Vt cs want
   |_=> .fail
 |t=>Zb t want
def XK (E:Env) (s:St) (pk:PK) (x:Operand):Dyn (LC):=
 match pk with
 | .val e want=>match at_ E s x with
   | .val ag cs=>bif ag==e then Vt cs want else .fail
   | .ref p ag n=>bif ag==e then(content s p n).bind λ cs=>Vt cs want else .fail
   | .rsub p _ lo i=>bif e then .fail else(content s p 1).bind λ cs=>match cs with
     | [c]=>match yS c lo i with
       |some d=>Vt [d] want
       |none=> .fail
     |_=> .fail
   | .nilc=>bif e then .fail else(aeQ want).bind λ ds=>bif bI ds then .ret ds else .fail
   |_=> .fail
 | .rptr want=>SE s (at_ E s x) want
 | .ptr _=> .fail
 | .io _=> .fail
 | .fn f=>match at_ E s x with
   | .fn g=>bif Nat.beq f g then .ret []else .fail
   |_=> .fail
 | .clo f want=>match at_ E s x with
   | .clo g [t]=>bif Nat.beq f g then SE s t want else .fail
   |_=> .fail
def y8 (E:Env) (s:St):List PK->List Operand->List T->Dyn (LC)
 | [],[],[]=> .ret []
 |p::ps,x::d,ts=>(XK E s p x).bind λ ds=>(y8 E s ps d ts).bind λ es=> .ret (ds++es)
 | .rptr want::ps,[],t::ts=>(SE s t want).bind λ ds=>(y8 E s ps [] ts).bind λ es=> .ret (ds++es)
 |_,_,_=> .fail
def resT:List (Bool×List (Sh×Tg))->LC->List (Bool×LC)×LC
 | [],cs=>([],cs)
 |(ag,want)::rs,cs=>let(ts,rest):=resT rs (cs.drop want.length); ((ag,cs.take want.length)::ts,rest)
def oL (s:St):List PK->List (Option Nat)->LC->Option (List Upd)
 | [],[],_=>some []
 | .ptr want::ps,some n::d,cs=>match s.bx n,oL s ps d (cs.drop want.length)with
   |some b,some us=>bif Nat.beq (cs.take want.length).length b.cells.length&&Nat.beq b.cells.length want.length then some ((bif rD want then .cl n (iT 1 0 (cs.take want.length) b.cells want)else .bx n ⟨b.inst,((cs.take want.length).zip b.cells).map λ x=>(x.1,x.2.2+1)⟩)::us)else none
   |_,_=>none
 | .ptr _::_,_,_=>none
 | .io want::ps,none::d,cs=>oL s ps d (cs.drop want.length)
 |_::ps,none::d,cs=>oL s ps d cs
 |_,_,_=>none
def Yt:List PK->List Operand->LC->List (Operand×LC)
 | .io want::ps,x::d,cs=>(x,cs.take want.length)::Yt ps d (cs.drop want.length)
 | .ptr want::ps,_::d,cs=>Yt ps d (cs.drop want.length)
 |_::ps,_::d,cs=>Yt ps d cs
 |_,_,_=>[]
def pre (m l:List Int):Bool:=decide (List.take (List.length m) l=m)
def adG (c q:CV):Bool:=
 match c,q with
 |⟨.sl [.int _],_,l⟩,⟨.sl [.int _],_,m⟩=>pre m l
 |_,_=>false
def Vu (E:Env) (s:St) (d:Nat) (x:Operand) (c:CV):Dyn (List Upd):=
 match at_ E s x with
 | .nilc=> .ret []
 | .val false [q]=>match x with
   | .tmp n=>bif Sh.beq c.sh q.sh&&c.sh.qK then .ret [.keep n (.val false [c])]else .fail
   |_=> .fail
 | .ref p false 1=>match p.sub,aV s p 1 with
   |none,some [q]=>bif Sh.beq c.sh q.sh&&c.sh.qK then Dyn.of (jT s p [c] false)else .fail
   |_,_=> .fail
 | .rowr p false 1=>match N9 s p with
   |some (⟨.dl [sh],.own,l⟩,i,j)=>bif Nat.beq j 0&&sh.qK&&c.tg.G9 then match jY c sh with
    |some y=>Dyn.of (jT s p [⟨.dl [sh],.own,List.set l i (some y)⟩] false)
    |none=> .fail
    else .fail
   |_=> .fail
 | .ext p q _=>match x,p.sub,aV s p 1 with
   | .tmp n,none,some [e]=>bif Sh.beq e.sh q.sh&&Sh.beq c.sh q.sh&&c.tg.G9&& !(Nat.beq n d)then match jT s p [q] false with
    |some us=> .chk (adG c q) (.ret (.keep n .dead::us))
    |none=> .fail
     else .fail
   |_,_,_=> .fail
 |_=> .fail
def XU (E:Env) (s:St) (d:Nat):List (Operand×LC)->Dyn (List Upd)
 | []=> .ret []
 | [(x,[c])]=>Vu E s d x c
 |_=> .fail
def retag:List (Sh×Tg)->LC->LC
 |(_,tg)::d,c::cs=>c.to tg::retag d cs
 |_,_=>[]
def akz:List (Bool×LC)->T| [(ag,cs)]=> .val ag cs|ts=> .tup ts
def aiR (d:Nat) (ts:List (Bool×LC)):List Upd:=[.tm d (akz ts)]
def noT (ts:List T):Bool:=match ts with| []=>true|_=>false
def N8 (E:Env) (s:St) (d:Nat) (e:List Operand) (ts:List T) (i:Nat):Dyn (List Upd):=
 bif (E.sig i).scalar then
  (y8 E s (E.sig i).params e ts).bind λ cs=>match iq ((E.sig i).ins.map (·.1)) cs with
   |none=> .fail
   |some a=> .idx (E.call i a) λ r=> .ret (aiR d (resT (E.sig i).res (retag (E.sig i).outs (cellsOf ((E.sig i).outs.map (·.1)) r))).1)
 else bif !(noT ts)then .fail else
  (xM E (E.sig i).params e [] s [] []).bind λ p=>match iq ((E.sig i).ins.map (·.1)) p.1 with
   |none=> .fail
   |some a=> .idx (E.call i a) λ r=>
    match resT (E.sig i).res (retag (E.sig i).outs (cellsOf ((E.sig i).outs.map (·.1)) r))with
    |(ts,rest)=>match oL (s.dW p.2.1) (E.sig i).params p.2.2 rest with
     |none=> .fail
     |some us=>(XU E ((s.dW p.2.1).dW us) d (Yt (E.sig i).params e rest)).bind λ f=> .ret (p.2.1++us++f++aiR d ts)
def ig (E:Env) (t:TypeId):List Sh:=match E.ty t with|some i=>i.cells|none=>[]
def Oh (E:Env) (s:St) (x:Operand) (d:List Sh):Option T:=
 match at_ E s x with
 | .val ag cs=>bif bI cs then some (.val ag cs)else match x with
   | .tmp n=>let v:=(s.tm n).2
     some (.ref ⟨.tmp n,v,cs.map λ _=>v,0,none⟩ ag cs.length)
   |_=>none
 | .nilc=>match d with| [sh]=>bif sh.qR then some (.val false [J7 sh])else none|_=>none
 | .tup _=>none
 | .dead=>none
 | .undef=>none
 | .ext _ _ _=>none
 |t=>some t
def OH (p:Pl) (off:Nat):Pl:=
 match p.sub with
 |none=>{p with cell:=p.cell+off,vers:=[]}
 |some (i,j)=>{p with sub:=some (i,j+off)}
def YB (E:Env) (d:Nat):Bool:=Nat.beq (E.spec d) 2
def intTy (E:Env) (t:TypeId):Option IntKind:=match E.ty t with|some ⟨false,[.int k],_,_,_⟩=>some k|_=>none
def Oz (E:Env) (t:TypeId):Bool:=match E.ty t with|some ⟨false,[.str],_,_,_⟩=>true|_=>false
def Gx (E:Env) (t:TypeId) (c:CV):Bool:=match E.ty t with|some ⟨false,[sh],_,_,some _⟩=>sh.qR&&Sh.beq sh c.sh.base|_=>false
def Sr (E:Env) (s:St) (t:TypeId) (x:Operand) (i:Int):Dyn T:=
 match at_ E s x with
 | .val false [c]=>bif !Gx E t c then .fail else
   match c.tg with
   | .own=>match x with
     | .tmp n=>match lenOf c with
       |some l=> .chk (decide (0<=i)&&decide (i<l)) (.ret (.addr ⟨.tmp n,(s.tm n).2,[(s.tm n).2],0,some (i.toNat,0)⟩))
       |none=> .fail
     |_=> .fail
   | .dead=> .fail
   |_=>(elemAt c i).bind λ cs=> .ret (.paddr cs 0)
 | .ref p false n=>(content s p n).bind λ cs=>match cs with
   | [c]=>bif !Gx E t c then .fail else match c.tg with
     | .own=>match p.sub,lenOf c with
       |none,some l=> .chk (decide (0<=i)&&decide (i<l)) (.ret (.addr {p with sub:=some (i.toNat,0)}))
       |_,_=> .fail
     | .dead=> .fail
     |_=>(elemAt c i).bind λ cs=> .ret (.paddr cs 0)
   |_=> .fail
 | .rsub p _ lo d=>(content s p 1).bind λ cs=>match cs with
   | [c]=>bif !Gx E t c then .fail else match c.tg with
     | .own=>match p.sub with
       |none=> .chk (decide (0<=i)&&decide (i<((d-lo:Nat):Int))) (.ret (.addr {p with sub:=some (lo+i.toNat,0)}))
       |_=> .fail
     |_=> .fail
   |_=> .fail
 | .rowr p false n=>match N9 s p with
   |some (c,r,j)=>(I8 c r j n).bind λ cs=>match cs with
    | [e]=>bif Gx E t e&&e.tg.G9 then match lenOf e with
      |some l=> .chk (decide (0<=i)&&decide (i<l)) (.ret (.addr2 p i.toNat 0))
      |none=> .fail
      else .fail
    |_=> .fail
   |none=> .fail
 |_=> .fail
def YN (b:ByteArray) (i:Int):Option Int:=bif decide (0<=i)then(b[i.toNat]?).map λ c=>(c.toNat:Int)else none
def sliceT (E:Env) (s:St) (t:TypeId) (x:Operand) (lo f:Option Int):Dyn T:=
 let e (c:CV):Dyn T:=bif !Gx E t c then .fail else match lenOf c with
  |some l=> .chk (decide (0<=lo.getD 0)&&decide (lo.getD 0<=f.getD l)&&decide (f.getD l<=l))
   (match yS c (lo.getD 0).toNat (f.getD l).toNat with|some d=> .ret (.val false [d.to .pure])|none=> .fail)
  |none=> .fail
 match at_ E s x with
 | .val false [⟨.str,.pure,b⟩]=>bif !Oz E t then .fail else .chk (decide (0<=lo.getD 0)&&decide (lo.getD 0<=f.getD (ByteArray.size b:Nat))&&decide (f.getD (ByteArray.size b:Nat)<=(ByteArray.size b:Nat)))
  (.ret (ajU (ByteArray.extract b (lo.getD 0).toNat (f.getD (ByteArray.size b:Nat)).toNat)))
 | .val false [c]=>match c.tg with
   | .pure=>e c
   |_=> .fail
 | .ref p false 1=>(content s p 1).bind λ cs=>match cs with
   | [c]=>match c.tg with
     | .dead=> .fail
     | .own=>bif !Gx E t c then .fail else match lenOf c with
       |some l=> .chk (decide (0<=lo.getD 0)&&decide (lo.getD 0<=f.getD l)&&decide (f.getD l<=l)) (.ret (.rsub p lo.isNone (lo.getD 0).toNat (f.getD l).toNat))
       |none=> .fail
     |_=>e c
   |_=> .fail
 |_=> .fail
def ML (E:Env) (s:St):Option Operand->Option (Option Int)
 |none=>some none
 |some x=>match tY E s x with|some (_,n)=>some (some n)|none=>none
def uU (c d:CV) (lo n:Nat):Option CV:=
 match c,d with
 |⟨.sl es,.own,l⟩,⟨.sl e,tg,m⟩=>
  bif Tg.le .pure tg then match jY ⟨.sl e,.pure,m⟩ (.sl es)with
  |some m=>some ⟨.sl es,.own,List.append (List.append (List.take lo l) (List.take n m)) (List.drop (lo+n) l)⟩
  |none=>none else none
 |⟨.rsl ss,.own,l⟩,⟨.rsl f,tg,m⟩=>
  bif Tg.le .pure tg then match jY ⟨.rsl f,.pure,m⟩ (.rsl ss)with
  |some m=>some ⟨.rsl ss,.own,List.append (List.append (List.take lo l) (List.take n m)) (List.drop (lo+n) l)⟩
  |none=>none else none
 |_,_=>none
def yA (E:Env) (s:St) (d:Nat) (t u:TypeId) (e:CV) (p:Pl) (lo:Nat) (f:Option Nat):Dyn (List Upd):=
 match p.sub with
 |some _=> .fail
 |none=>(content s p 1).bind λ cs=>match cs with
  | [q]=>bif Gx E t q&&Gx E u e then match lenOf q,lenOf e with
    |some l,some m=>match uU q e lo (Nat.min m (f.getD l-lo))with
     |some r=>match jT s p [r] false with
      |some us=> .ret (us++[.tm d (OB .i64 (Nat.min m (f.getD l-lo):Nat))])
      |none=> .fail
     |none=> .fail
    |_,_=> .fail
    else .fail
  |_=> .fail
def afC (c:CV) (lo d:Nat):Option CV:=
 match c with
 |⟨.sl es,.own,l⟩=>match iq es (es.map λ s=>⟨s,.pure,lG s⟩)with
  |some e=>some ⟨.sl es,.own,List.append (List.append (List.take lo l) (List.replicate (d-lo) e)) (List.drop d l)⟩
  |none=>none
 |_=>none
def OO (E:Env) (s:St) (t:TypeId) (x:Operand):Dyn (List Upd):=
 match at_ E s x with
 | .rsub p _ lo d=>match p.sub with
   |some _=> .fail
   |none=>(content s p 1).bind λ cs=>match cs with
    | [q]=>bif Gx E t q then match afC q lo d with
      |some r=>Dyn.of (jT s p [r] false)
      |none=> .fail
      else .fail
    |_=> .fail
 |_=> .fail
def agJ (sh:Sh) (n:Nat):Option CV:=
 match sh with
 | .sl es=>match iq es (es.map λ s=>⟨s,.pure,lG s⟩)with
   |some e=>some ⟨.sl es,.own,List.replicate n e⟩
   |none=>none
 | .rsl ss=>match xO ss ((ss++[Sh.rsl ss]).map λ s=>⟨s,.pure,lG s⟩)with
   |some e=>some ⟨.rsl ss,.own,List.replicate n e⟩
   |none=>none
 |_=>none
def aiF (sh:Sh) (n:Nat):Option CV:=
 match sh with
 | .sl [e]=>bif e.qK then some ⟨.dl [e],.own,List.replicate n (some (lG e))⟩else none
 |_=>none
def WM (b:Builtin) (x y:Int):Option Int:=match b with| .min=>some (min x y)| .max=>some (max x y)|_=>none
def Tj (E:Env) (s s':St) (y:Operand) (d:List Sh):Dyn (LC):=
 match at_ E s y,d with
 | .nilc,[sh]=>bif sh.qR then .ret [J7 sh]else .fail
 |_,_=>JX E s' y
def boolTy (E:Env) (t:TypeId):Bool:=match E.ty t with|some i=> !i.ag&&aX0 i.cells [.bool]|none=>false
def aee (E:Env) (s:St):List Operand->Option (List T)
 | []=>some []
 |x::d=>match at_ E s x,aee E s d with
  | .addr p,some ts=>some (.addr p::ts)
  | .paddr cs off,some ts=>some (.paddr cs off::ts)
  |_,_=>none
def uq (E:Env) (d:Nat):Bool:=Nat.beq (E.spec d) 1
def ajm (E:Env) (d:Nat):Bool:=Nat.beq (E.spec d) 3
def Y8:Sh->Bool| .sl [.int _]=>true|_=>false
def aia (E:Env) (s:St) (x:Operand) (d:Nat) (q r:CV):Dyn (List Upd):=
 match at_ E s x with
 | .ref p false 1=>match p.sub with
   |none=>bif q.tg.G9&&Y8 q.sh then .ret [.tm d (.ext p q r)]else .fail
   |some _=> .fail
 |_=> .fail
def aiV (c:CV) (i j:Nat) (row:LC) (e:CV):Option CV:=
 match c with
 |⟨.dl es,.own,l⟩=>match iq es (setCells row j [e])with
  |some x=>some ⟨.dl es,.own,List.set l i (some x)⟩
  |none=>none
 |_=>none
def PO (s:St) (p:Pl) (k q:Nat) (ds:LC):Dyn (List Upd):=
 match N9 s p with
 |some (c,i,j)=>match c with
  |⟨.dl es,.own,l⟩=> .idx (rowAt? l i) λ x=>match(nS es x)[j]? with
   |some e=>(zk e k).bind λ rs=>bif Nat.ble (q+ds.length) rs.length&&bI ds then
    match Gu e k (setCells rs q ds)with
    |some d=>match aiV ⟨.dl es,.own,l⟩ i j (nS es x) d with
     |some f=>Dyn.of (jT s p [f] false)
     |none=> .fail
    |none=> .fail
    else .fail
   |none=> .fail
  |_=> .fail
 |none=> .fail
def Pv (s:St) (p:Pl) (c:CV) (i j:Nat) (ds:LC):Dyn (List Upd):=
 match c,ds with
 |⟨.dl [sh],.own,l⟩,[⟨d,.own,x⟩]=>bif Nat.beq j 0&&sh.qK then match jY ⟨d,.own,x⟩ sh with
  |some y=>match p.root with
   | .tmp n=>match(s.tm n).1 with
     | .val false [_]=>bif Nat.beq p.cell 0 then .ret [.tm n (.val false [⟨.dl [sh],.own,List.set l i (some y)⟩])]else .fail
     |_=> .fail
   | .box _=> .fail
  |none=> .fail
  else .fail
 |_,_=> .fail
def FD (E:Env) (s:St) (x:Operand) (sh:Sh):Option (El sh):=
 match at_ E s x with
 | .val false [⟨d,.pure,y⟩]=>jY ⟨d,.pure,y⟩ sh
 |_=>none
def agO (E:Env) (t:TypeId) (k e:Sh):Bool:=match E.ty t with|some ⟨false,[.mp d f],_,[_,_],none⟩=>Sh.beq k d&&Sh.beq e f&&k.scalar&&e.scalar|_=>false
def aiG (E:Env) (t:TypeId):Option CV:=match E.ty t with
 |some ⟨false,[.mp k e],_,[_,_],none⟩=>bif k.scalar&&e.scalar then some ⟨.mp k e,.own,some []⟩else none
 |_=>none
def ZO (E:Env) (s:St) (x:Operand):Option (Pl×CV):=
 match at_ E s x with
 | .ref p false 1=>match p.sub,aV s p 1 with
   |none,some [c]=>some (p,c)
   |_,_=>none
 |_=>none
def ZL (E:Env) (s:St) (d:Nat) (t:TypeId) (m x:Operand) (ok:Bool):Dyn (List Upd):=
 match ZO E s m with
 |some (_,⟨.mp k e,.own,l⟩)=>bif agO E t k e then match FD E s x k with
  |some y=>bif ok then .ret [.tm d (.tup [(false,[⟨e,.pure,(oV (keq k) y (mX l)).getD (lG e)⟩]),(false,[⟨.bool,.pure,(oV (keq k) y (mX l)).isSome⟩])])]
   else .ret [.tm d (.val false [⟨e,.pure,(oV (keq k) y (mX l)).getD (lG e)⟩])]
  |none=> .fail
  else .fail
 |_=> .fail
def XV (E:Env) (s:St) (t:TypeId) (m x v:Operand):Dyn (List Upd):=
 match ZO E s m with
 |some (p,⟨.mp k e,.own,l⟩)=>bif agO E t k e then match FD E s x k,FD E s v e with
  |some y,some z=> .idx l λ l=>Dyn.of (jT s p [⟨.mp k e,.own,some (Iw (keq k) y z l)⟩] false)
  |_,_=> .fail
  else .fail
 |_=> .fail
def Wy (x:Operand):Bool:=match x with| .const (.map none)=>true|_=>false
def ZT (E:Env) (s:St) (d:Nat) (e:BinOp) (x:Operand):Dyn (List Upd):=
 match e,ZO E s x with
 | .eql,some (_,⟨.mp _ _,.own,l⟩)=> .ret [.tm d (Yl (Option.isNone l))]
 |_,_=> .fail
def aeO (E:Env) (t:TypeId):Bool:=match E.ty t with|some ⟨false,[.mp _ _],_,[_,_],none⟩=>true|_=>false
def RF (E:Env) (s:St) (d:Nat) (x:Operand):Dyn (List Upd):=
 (JX E s x).bind λ cs=>match cs with
 | [⟨.sl [.int .u8],tg,l⟩]=>bif Tg.le .pure tg then .ret [.tm d (ajU (yg l))]else .fail
 |_=> .fail
def aed (E:Env) (t:TypeId):Bool:=match E.ty t with|some ⟨false,[.sl [.int .u8]],_,_,some e⟩=>(match intTy E e with|some .u8=>true|_=>false)|_=>false
def KC (s:St) (p:Pl) (n:Nat) (t:List Sh):List Sh:=
 match p.sub with
 |none=>match aV s p n with|some old=>old.map CV.sh|none=>t
 |some _=>t
def plan (E:Env) (o:Oper) (s:St):Dyn (List Upd):=
 match o.op with
 | .store t a x=>match o.dst with
   |none=>(Ez E s x (ig E t)).bind λ(_,cs,us)=>match at_ E (s.dW us) a with
    | .addr p=>
      bif Nat.beq cs.length (ig E t).length&&FC cs&&(match E.ty t with|some _=>true|none=>false)then
       match N9 (s.dW us) p with
       |some (c,i,j)=>(Pv (s.dW us) p c i j cs).bind λ A=> .ret (us++A)
       |none=>(thaw cs (KC (s.dW us) p cs.length (ig E t))).bind λ cs=>(NY (s.dW us) p cs).bind λ A=> .ret (us++A)
      else .fail
    | .addr2 p k j=>
      bif Nat.beq cs.length (ig E t).length&&(match E.ty t with|some _=>true|none=>false)then
       (PO (s.dW us) p k j cs).bind λ A=> .ret (us++A)
      else .fail
    |_=> .fail
   |some _=> .fail
 |op=>match o.dst with
  |none=>match op with
   | .call c=>match c.callee,c.args.toList,c.argTypes.toList with
     | .builtin .clear,[x],[t]=>OO E s t x
     |_,_,_=> .fail
   | .mapUpdate t m x v=>XV E s t m x v
   |_=> .fail
  |some d=>match op with
   | .move x=>match Oh E s x (ig E o.type)with
     |some t=> .ret [.tm d t]
     |none=>match at_ E s x,x with
      | .tup ts,.tmp n=> .ret [.keep n .dead,.tm d (.tup ts)]
      |_,_=> .fail
   | .assign x=>match at_ E s x with
     | .addr p=> .ret [.tm d (.addr p)]
     | .paddr cs off=> .ret [.tm d (.paddr cs off)]
     | .fn f=> .ret [.tm d (.fn f)]
     | .clo f ts=> .ret [.tm d (.clo f ts)]
     | .rsub p z lo B=>bif YB E d then .ret [.tm d (.rsub p z lo B)]else
       (Ez E s x (ig E o.type)).bind λ(ag,cs,us)=> .ret (us++[.tm d (.val ag cs)])
     | .rowr p ag n=>bif YB E d then .ret [.tm d (.rowr p ag n)]else
       (Ez E s x (ig E o.type)).bind λ(ag,cs,us)=> .ret (us++[.tm d (.val ag cs)])
     |_=>(Ez E s x (ig E o.type)).bind λ(ag,cs,us)=> .ret (us++[.tm d (.val ag cs)])
   | .pick c a b=>match wR E s c with
     |some v=>match bif v then at_ E s a else at_ E s b with
      | .val ag cs=>bif bI cs then .ret [.tm d (.val ag cs)]else .fail
      |_=> .fail
     |none=> .fail
   | .alloc t=>match E.ty t with|some i=> .ret (Vg s d ((bif uq E d then i.cells.map aX5 else i.cells).map J7))|none=> .fail
   | .box t x=>(Ez E s x (ig E t)).bind λ(_,cs,us)=>
    bif Ik cs ((ig E t).map J7)then .ret (us++Vg (s.dW us) d cs)else .fail
   | .build t g=>match E.ty t with
     |some i=>(vN E i.fields i.cells g.toList s ((bif uq E d then i.cells.map aX5 else i.cells).map J7) []).bind λ(cs,us)=>bif i.ag then .ret (us++[.tm d (.val true cs)])else .fail
     |none=> .fail
   | .buildSlice t n g=>match E.ty t with
     |some ⟨_,[sh],_,_,some e⟩=>(yO E (akp E e) ((ig E e).map λ sh=>(sh,bif uq E d then sh.top else .pure)) g.toList 0 s [] []).bind λ(rows,us)=>
      bif Nat.beq rows.length n&&Nat.ble 1 (ig E e).length&&Nat.ble (n*(ig E e).length) 16777216 then
       match sh with
       | .sl es=>match MK es rows with
         |some l=>bif uq E d then .ret (us++[.tm d (.val false [⟨.dl es,.own,List.map some l⟩])])else .ret (us++[.tm d (.val false [⟨.sl es,.own,l⟩])])
         |none=> .fail
       | .rsl ss=>match Qw ss rows with
         |some l=>bif uq E d then .fail else .ret (us++[.tm d (.val false [⟨.rsl ss,.own,l⟩])])
         |none=> .fail
       |_=> .fail
      else .fail
     |_=> .fail
   | .load t a=>match at_ E s a,E.ty t with
     | .addr p,some i=>match N9 s p with
       |some (c,r,j)=>(I8 c r j i.cells.length).bind λ cs=>bif bI cs then .ret [.tm d (.val i.ag cs)]else bif uq E d then(match moveRow c r with
        |some L=>match jT s p [L] false with
         |some us=> .ret (us++[.tm d (.val i.ag cs)])
         |none=> .fail
        |none=> .fail)else .ret [.tm d (.rowr p i.ag i.cells.length)]
       |none=>(content s p i.cells.length).bind λ cs=>
        bif bI cs then .ret [.tm d (.val i.ag cs)]else match p.sub with
         |none=>bif i.ag||FC cs then .ret [.tm d (.ref {p with vers:=D9 s p i.cells.length} i.ag i.cells.length)]else .fail
         |some _=> .fail
     | .paddr cs off,some i=>bif Nat.ble (off+i.cells.length) cs.length then .ret [.tm d (.val i.ag ((cs.drop off).take i.cells.length))]else .fail
     |_,_=> .fail
   | .nilCheck x=>match at_ E s x with
     | .addr p=>bif Di s p then .ret [.tm d (.addr p)]else .fail
     | .paddr cs off=> .ret [.tm d (.paddr cs off)]
     | .fn f=> .ret [.tm d (.fn f)]
     | .clo f ts=> .ret [.tm d (.clo f ts)]
     |_=> .fail
   | .makeInterface t _=>match E.ty t with|some _=> .ret [.tm d .dead]|none=> .fail
   | .makeFunc (.func f) first C=>match first.toList,aee E s C.toList with
     | [],some ts=> .ret [.tm d (.clo f ts)]
     |_,_=> .fail
   | .binOp op t x y _=>bif Wy y then bif aeO E t then ZT E s d op x else .fail else(akr op (boolTy E t) (at_ E s x) (at_ E s y)).bind λ t=> .ret [.tm d t]
   | .makeMap t none=>match aiG E t with|some c=> .ret [.tm d (.val false [c])]|none=> .fail
   | .lookup t m x ok=>ZL E s d t m x ok
   | .unOp op _ x=>match op,at_ E s x with
     | .not,.val false [⟨.bool,.pure,b⟩]=> .ret [.tm d (Yl (!b))]
     | .neg,.val false [⟨.int k,.pure,n⟩]=>(ajh .sub k 0 n).bind λ t=> .ret [.tm d t]
     |_,_=> .fail
   | .convert u t x=>bif aed E u&&Oz E t then RF E s d x else match at_ E s x,intTy E u,intTy E t with
     | .val false [⟨.int _,.pure,n⟩],some _,some k=> .ret [.tm d (OB k (k.wrap n))]
     |_,_,_=> .fail
   | .makeSlice t l c=>match E.ty t,tY E s l,tY E s c with
     |some ⟨_,[sh],_,_,some _⟩,some (_,l),some (_,c)=> .chk (decide (0<=l)&&decide (l<=c)&&decide (c<=(ay:Nat))) (match(bif uq E d then aiF sh l.toNat else agJ sh l.toNat)with
      |some v=> .ret [.tm d (.val false [v])]
      |none=> .fail)
     |_,_,_=> .fail
   | .slice t x lo B M=>match M,ML E s lo,ML E s B with
     |none,some lo,some B=>(sliceT E s t x lo B).bind λ t=> .ret [.tm d t]
     |_,_,_=> .fail
   | .fieldAddr t x f=>match E.ty t with
     |some i=>match i.fields[f]?,at_ E s x with
      |some (off,_),.addr p=>bif i.ag&&Di s p then .ret [.tm d (.addr (OH p off))]else .fail
      |some (off,_),.paddr cs k=>bif i.ag then .ret [.tm d (.paddr cs (k+off))]else .fail
      |_,_=> .fail
     |none=> .fail
   | .indexAddr t x i=>match tY E s i with
     |some (_,i)=>(Sr E s t x i).bind λ t=> .ret [.tm d t]
     |none=> .fail
   | .index t x i=>match at_ E s x,tY E s i,Oz E t with
     | .val false [⟨.str,.pure,b⟩],some (_,i),true=> .idx (YN b i) λ c=> .ret [.tm d (OB .u8 c)]
     |_,_,_=> .fail
   | .field t x f=>match E.ty t with
     |some i=>match i.fields[f]?,i.ftys[f]?,at_ E s x with
      |some (off,n),some N,.val true cs=>match E.ty N with
       |some j=>bif i.ag&&bI ((cs.drop off).take n)&&Nat.beq j.cells.length n&&Nat.ble (off+n) cs.length then .ret [.tm d (.val j.ag ((cs.drop off).take n))]else .fail
       |none=> .fail
      |_,_,_=> .fail
     |none=> .fail
   | .extract x i=>match at_ E s x with
     | .tup ts=>match ts[i]? with
       |some (ag,cs)=>bif bI cs then .ret [.tm d (.val ag cs)]else match x with
        | .tmp n=> .ret [.keep n (.tup (ts.set i (ag,cs.map CV.left))),.tm d (.val ag cs)]
        |_=> .fail
       |none=> .fail
     |_=> .fail
   | .call c=>match c.callee,c.args.toList with
     | .builtin .len,[x]=>(JX E s x).bind λ cs=>match cs,c.argTypes.toList with
       | [e],[t]=>bif Gx E t e||(Oz E t&&Sh.beq e.sh .str)||(aeO E t&&e.sh.Kr)then match lenOf e with
         |some l=> .ret [.tm d (OB .i64 (l:Nat))]
         |none=> .fail else .fail
       |_,_=> .fail
     | .builtin .append,[x,y]=>(Ez E s x (ig E o.type)).bind λ(ag,cs,us)=>match cs with
       | [⟨.dl es,.own,l⟩]=>(Ez E (s.dW us) y []).bind λ(G,ds,I)=>match ag,G,ds,c.argTypes.toList with
         |false,false,[⟨.dl D,.own,m⟩],[t,u]=>bif Gx E t ⟨.dl es,.own,l⟩&&Gx E u ⟨.dl D,.own,m⟩then match jY ⟨.dl D,.own,m⟩ (.dl es)with
          |some m=> .chk (decide (List.length l+List.length m<=ay)) (.ret (us++I++[.tm d (.val false [⟨.dl es,.own,List.append l m⟩])]))
          |none=> .fail
          else .fail
         |_,_,_,_=> .fail
       |_=>(Tj E s (s.dW us) y (ig E o.type)).bind λ ds=>match ag,cs,ds,c.argTypes.toList with
        |false,[q],[e],[t,u]=>bif Gx E t q&&Gx E u e then(ai6 q e).bind λ r=>bif ajm E d then(aia E (s.dW us) x d q r).bind λ A=> .ret (us++A)else .ret (us++[.tm d (.val false [r])])else .fail
        |_,_,_,_=> .fail
     | .builtin .copy,[x,y]=>(JX E s y).bind λ ds=>match ds,c.argTypes.toList,at_ E s x with
       | [e],[t,u],.rsub p _ lo B=>yA E s d t u e p lo (some B)
       | [e],[t,u],.ref p false 1=>yA E s d t u e p 0 none
       |_,_,_=> .fail
     | .builtin b,[x,y]=>match tY E s x,tY E s y with
       |some (k,x),some (O,y)=>match WM b x y with
        |some z=>bif decide (k=O)then .ret [.tm d (OB k z)]else .fail
        |none=> .fail
       |_,_=> .fail
     | .value f,K=>match at_ E s f with
       | .fn f=>bif Nat.beq (E.sig (E.spec d)).fn f then N8 E s d K [] (E.spec d)else .fail
       | .clo f ts=>bif Nat.beq (E.sig (E.spec d)).fn f then N8 E s d K ts (E.spec d)else .fail
       |_=> .fail
     |_,_=> .fail
   |_=> .fail
inductive Loc where
 |tm (n:Nat)|bx (n:Nat)
 |id (n:Nat)
 |bi (n:Nat)
 |bc (n i:Nat)
def Loc.same:Loc->Loc->Bool
 | .tm a,.tm b=>Nat.beq a b
 | .bx a,.bx b=>Nat.beq a b
 | .id a,.id b=>Nat.beq a b
 | .bi a,.bi b=>Nat.beq a b
 | .bc a i,.bc b j=>Nat.beq a b&&Nat.beq i j
 | .bx a,.bi b=>Nat.beq a b
 | .bi a,.bx b=>Nat.beq a b
 | .bx a,.bc b _=>Nat.beq a b
 | .bc a _,.bx b=>Nat.beq a b
 |_,_=>false
def Root.loc:Root->Loc| .tmp n=> .tm n| .box n=> .bx n
def T.loc:T->List Loc
 | .ref p _ _=>[p.root.loc]
 | .rsub p _ _ _=>[p.root.loc]
 | .addr p=>[p.root.loc]
 | .rowr p _ _=>[p.root.loc]
 | .addr2 p _ _=>[p.root.loc]
 | .ext p _ _=>[p.root.loc]
 |_=>[]
def T.uP:T->List Loc
 | .clo _ ts=>ts.flatMap T.loc
 |t=>t.loc
def rF (s:St):Operand->List Loc
 | .tmp t=> .tm t::(s.tm t).1.uP
 |_=>[]
def EG (s:St) (t k:Nat):List Loc:=
 match(s.tm t).1 with
 | .addr p=>match p.root,p.sub with
   | .box n,none=> .tm t:: .bi n::(List.range (max k p.vers.length)).map λ i=> .bc n (p.cell+i)
   |_,_=> .tm t::(T.addr p).uP
 |x=> .tm t::x.uP
def U9 (s:St) (t:Nat):List Loc:=
 match(s.tm t).1 with
 | .ref p ag k=>match p.root,p.sub with
   | .box n,none=> .tm t:: .bi n::(List.range (max k p.vers.length)).map λ i=> .bc n (p.cell+i)
   |_,_=> .tm t::(T.ref p ag k).uP
 |x=> .tm t::x.uP
def ZH (d:Op):Option Nat:=match d with
 | .call c=>match c.callee,c.args.toList with
   | .builtin .len,[.tmp t]=>some t
   |_,_=>none
 |_=>none
def Vk (E:Env) (s:St) (op:Op):List Loc:=
 match op with
 | .move (.tmp t)=>[.id t]
 | .load ty (.tmp t)=>EG s t (ig E ty).length
 | .nilCheck (.tmp t)=>EG s t 0
 | .fieldAddr _ (.tmp t) _=>EG s t 0
 |op=>op.operands.toList.flatMap (rF s)
def SX (E:Env) (s:St) (d:Op):List Loc:=
 match ZH d with
 |some t=>U9 s t
 |none=>Vk E s d
def wU (E:Env) (s:St) (o:Oper):List Loc:=SX E s o.op++(match o.op,o.dst with| .alloc _,some d=>[.bx d]| .box _ _,some d=>[.bx d]|_,_=>[])
def LM:T->T->Bool
 | .val ag cs,.val e d=>(ag==e)&& !bI cs&& !bI d&&Nat.beq cs.length d.length
 |_,_=>false
def Upd.uP (s:St):Upd->List Loc
 | .tm n _=>[.tm n,.id n]
 | .keep n t=>bif LM (s.tm n).1 t then[.tm n]else[.tm n,.id n]
 | .bx n _=>[.bx n]
 | .cl n l=>l.map λ x=> .bc n x.1
def Dx:St->List Upd->List Loc
 |_,[]=>[]
 |s,u::us=>u.uP s++Dx (u.on s) us
def U4 (us:List Upd):List Loc:=us.flatMap λ u=>match u with| .keep n _=>[.id n]|_=>[]
def meets (d e:List Loc):Bool:=d.any λ a=>e.any λ b=>a.same b
structure EF where
 r:List Loc
 w:List Loc
def EF.clash (a b:EF):Bool:=meets a.w (b.r++b.w)||meets b.w a.r
def yV (d:List (List Nat)):List Edge->List Nat
 | []=>[]
 |e::es=>bif Region.binds .any e then e.on::(d.getD e.on []++yV d es)else yV d es
def OI:List Oper->List (List Nat)->List (List Nat)
 | [],d=>d
 |o::os,d=>OI os (d++[yV d o.after.toList])
def ordered (ahead:List Nat) (f:EF):List EF->Nat->Bool
 | [],_=>true
 |g::d,i=>(!(EF.clash g f)||ahead.any (Nat.beq i))&&ordered ahead f d (i+1)
def guards (d:List Oper) (j:Nat):Bool:=d.any λ o=>match o.guard with|some (i,_)=>Nat.beq i j|none=>false
def Xx (d:List Oper) (j:Nat):Option Tmp:=match d[j]? with|some o=>o.dst|none=>none
def DY (s:St) (d:Option Tmp):Option (Option Bool):=
 match d with
 |some d=>match(s.tm d).1 with
  | .val false [⟨.bool,.pure,b⟩]=>some (some b)
  | .undef=>some none
  |_=>none
 |none=>none
def splitAt {ρ:Type} (s:St) (d:Option Tmp) (k:St->Option ρ):Option ρ:=
 match d with
 |none=>k s
 |some d=>match s.tm d with
  |(.val false [⟨.bool,.pure,b⟩],v)=>
   bif b then k {s with tm:=put s.tm d (.val false [⟨.bool,.pure,true⟩],v)}else k {s with tm:=put s.tm d (.val false [⟨.bool,.pure,false⟩],v)}
  |_=>k s
def wz (o:Oper):List Upd:=match o.dst with|some d=>[.tm d .undef]|none=>[]
def La (E:Env) (o:Oper):Bool:=match o.dst with|some d=> !(E.fix d)&&Nat.blt d E.nt|none=>true
def JA (E:Env) (d:Bool) (all:List Oper) (l:List (List Nat)) {ρ:Type}:List Oper->Nat->List EF->St->(St->Option ρ)->Option ρ
 | [],_,_,s,k=>k s
 |o::os,j,m,s,k=>
  let e (us:List Upd) (f:EF):Option ρ:=
   bif La E o&&(!d||ordered (l.getD j []) f m 0)then
    bif guards all j then splitAt (s.dW us) o.dst (λ s'=>JA E d all l os (j+1) (m++[f]) s' k)
    else JA E d all l os (j+1) (m++[f]) (s.dW us) k
   else none
  match o.guard with
  |none=>(plan E o s).runK λ us=>e us ⟨wU E s o++U4 us,Dx s us⟩
  |some (i,want)=>match DY s (Xx all i),Xx all i with
   |some (some b),some g=>bif b==want then(plan E o s).runK λ us=>e us ⟨.tm g::(wU E s o++U4 us),Dx s us⟩
    else e (wz o) ⟨[.tm g],Dx s (wz o)⟩
   |some none,some g=>e (wz o) ⟨[.tm g],Dx s (wz o)⟩
   |_,_=>none
def IC:List Oper->Nat->Bool
 | [],_=>true
 |o::os,j=>(o.after.toList.all λ e=> !(Region.binds .any e)||Nat.blt e.on j)&&IC os (j+1)
def Ia (E:Env) (e:List Oper) (d:Bool) {ρ:Type} (s:St) (k:St->Option ρ):Option ρ:=
 bif !d||IC e 0 then JA E d e (bif d then OI e []else[]) e 0 [] s k else none
inductive JE where
 |tm (n:Nat) (ag:Bool) (cells:List (Sh×Tg))
 |bx (n:Nat) (cells:List (Sh×Tg))
 |adr (n:Nat) (root:Root) (cell:Nat)
 |rf (n:Nat) (root:Root) (cell:Nat) (ag:Bool) (len:Nat)
 |rs (n:Nat) (root:Root) (cell:Nat) (z:Bool)
 |fn (n:Nat) (f:FuncId)
 |clo (n:Nat) (f:FuncId) (caps:List (Root×Nat))
 |pad (n:Nat) (cells:List (Sh×Tg)) (off:Nat)
 |cpd (n:Nat) (f:FuncId) (cells:List (Sh×Tg))
def JE.cells:JE->List (Sh×Tg)
 | .tm _ _ cs=>cs
 | .bx _ cs=>cs
 | .pad _ cs _=>cs
 | .cpd _ _ cs=>cs
 | .rs _ _ _ _=>[(.int .i64,.pure),(.int .i64,.pure)]
 |_=>[]
abbrev J:=List JE
def J.cells (j:J):List (Sh×Tg):=j.flatMap JE.cells
abbrev J.V (j:J):Type:=ElA (J.cells j |>.map (·.1))
def Root.same:Root->Root->Bool
 | .tmp a,.tmp b=>Nat.beq a b
 | .box a,.box b=>Nat.beq a b
 |_,_=>false
def JE.tgt:JE->Loc
 | .tm n _ _=> .tm n
 | .bx n _=> .bx n
 | .adr n _ _=> .tm n
 | .rf n _ _ _ _=> .tm n
 | .rs n _ _ _=> .tm n
 | .fn n _=> .tm n
 | .clo n _ _=> .tm n
 | .pad n _ _=> .tm n
 | .cpd n _ _=> .tm n
def jOk:J->Bool
 | []=>true
 |e::j=>(j.all λ d=> !(e.tgt.same d.tgt))&&jOk j
def kZ (s:St):List T->List (Root×Nat)->Bool
 | [],[]=>true
 | .addr p::ts,(root,cell)::cs=>(match aA s root with
   |some (inst,_)=>Root.same p.root root&&Nat.beq p.cell cell&&Nat.beq p.inst inst&&(match p.sub with|none=>true|_=>false)
   |none=>false)&&kZ s ts cs
 |_,_=>false
def lU (s:St):JE->Option (LC)
 | .tm n ag want=>match(s.tm n).1 with
   | .val d cs=>bif ag==d then weaken cs want else none
   |_=>none
 | .bx n want=>match s.bx n with
   |some b=>weaken (b.cells.map (·.1)) want
   |none=>none
 | .adr n root cell=>match(s.tm n).1,aA s root with
   | .addr p,some (inst,_)=>bif Root.same p.root root&&Nat.beq p.cell cell&&Nat.beq p.inst inst&&(match p.sub with|none=>true|_=>false)then some []else none
   |_,_=>none
 | .rf n root cell ag len=>match(s.tm n).1 with
   | .ref p d e=>match aV s p len with
     |some _=>bif Root.same p.root root&&Nat.beq p.cell cell&&(ag==d)&&Nat.beq len e&&Nat.beq p.vers.length len&&(match p.sub with|none=>true|_=>false)then some []else none
     |none=>none
   |_=>none
 | .rs n root cell z=>match(s.tm n).1 with
   | .rsub p l lo m=>match aV s p 1 with
     |some _=>bif Root.same p.root root&&Nat.beq p.cell cell&&(z==l)&&Nat.beq p.vers.length 1&&(match p.sub with|none=>true|_=>false)then some [⟨.int .i64,.pure,(lo:Int)⟩,⟨.int .i64,.pure,(m:Int)⟩]else none
     |none=>none
   |_=>none
 | .fn n f=>match(s.tm n).1 with
   | .fn g=>bif Nat.beq f g then some []else none
   |_=>none
 | .clo n f i=>match(s.tm n).1 with
   | .clo g ts=>bif Nat.beq f g&&kZ s ts i then some []else none
   |_=>none
 | .pad n want off=>match(s.tm n).1 with
   | .paddr cs k=>bif Nat.beq off k then match weaken cs want with
     |some ds=>bif bI ds then some ds else none
     |none=>none else none
   |_=>none
 | .cpd n f want=>match(s.tm n).1 with
   | .clo g [.paddr cs 0]=>bif Nat.beq f g then match weaken cs want with
     |some ds=>bif bI ds then some ds else none
     |none=>none else none
   |_=>none
def packs (s:St):J->Option (LC)
 | []=>some []
 |e::j=>match lU s e,packs s j with
  |some cs,some ds=>some (cs++ds)
  |_,_=>none
def pack (j:J) (s:St):Option j.V:=match packs s j with|some cs=>iq _ cs|none=>none
def afO (E:Env) (s:St):Bool:=E.kept.all λ x=>match aV s ⟨.box x.1,0,[0],x.2,none⟩ 1 with|some _=>true|none=>false
def Vq (E:Env) (j:J) (s:St):Option j.V:=bif afO E s then pack j s else none
def agP (c:CV):Nat:=match c with|⟨.int _,_,x⟩=>Int.toNat x|_=>0
def sU:St:=⟨λ _=>(.dead,0),λ _=>none⟩
def eH (s:St) (cs:LC):JE->St
 | .tm n ag _=>{s with tm:=put s.tm n (.val ag cs,0)}
 | .bx n _=>{s with bx:=put s.bx n (some ⟨0,cs.map λ c=>(c,0)⟩)}
 | .adr n root cell=>{s with tm:=put s.tm n (.addr ⟨root,0,[],cell,none⟩,0)}
 | .rf n root cell ag len=>{s with tm:=put s.tm n (.ref ⟨root,0,List.replicate len 0,cell,none⟩ ag len,0)}
 | .rs n root cell z=>match cs with
   | [a,b]=>{s with tm:=put s.tm n (.rsub ⟨root,0,[0],cell,none⟩ z (agP a) (agP b),0)}
   |_=>s
 | .fn n f=>{s with tm:=put s.tm n (.fn f,0)}
 | .clo n f d=>{s with tm:=put s.tm n (.clo f (d.map λ x=> .addr ⟨x.1,0,[],x.2,none⟩),0)}
 | .pad n _ off=>{s with tm:=put s.tm n (.paddr cs off,0)}
 | .cpd n f _=>{s with tm:=put s.tm n (.clo f [.paddr cs 0],0)}
def unpacks (s:St):LC->J->St
 |_,[]=>s
 |cs,e::j=>unpacks (eH s (cs.take e.cells.length) e) (cs.drop e.cells.length) j
def unpack (j:J) (x:j.V):St:=unpacks sU (retag (J.cells j) (cellsOf _ x)) j
inductive H where
 |o
 |s (a b:H)
 |j (j:J) (a:H)
 |jr (j:J) (a:H)
 |st (m:Nat) (a b:H)
inductive Ex where
 |normal|exit (id:Nat)|ret
def Zm (E:Env) {ρ:Type} (j:J) (m:(Ex->St->Option j.V)->Option j.V) (k:Ex->St->Option ρ):Option ρ:=
 bif jOk j then(m λ e s=>match e with| .normal=>Vq E j s|_=>none).bind λ x=>k .normal (unpack j x)else none
def aey (E:Env) {ρ:Type} (j:J) (m:(Ex->St->Option (Sum j.V ρ))->Option (Sum j.V ρ)) (k:Ex->St->Option ρ):Option ρ:=
 bif jOk j then(m λ e s=>match e with
  | .normal=>(Vq E j s).bind λ x=>some (.inl x)
  |e=>(k e s).bind λ r=>some (.inr r)).bind λ r=>match r with
  | .inl x=>k .normal (unpack j x)
  | .inr r=>some r
 else none
def bH {α ρ:Type} (d:α->(α->Option ρ)->Option ρ):Nat->α->Option ρ
 |0,_=>none
 |n+1,x=>d x (bH d n)
def inBlock {ρ:Type} (id:Nat) (k:Ex->St->Option ρ):Ex->St->Option ρ
 | .exit i,s=>bif Nat.beq i id then k .normal s else k (.exit i) s
 |e,s=>k e s
def ahE (s:St) (m:Nat):Dyn (List Upd):=
 match(s.tm m).1 with
 | .val false [⟨.dl es,.own,l⟩]=> .idx (oO l) λ d=> .ret [.tm m (.val false [⟨.sl es,.own,d⟩])]
 |_=> .fail
def ev (E:Env) (n:Nat):Code->H->{ρ:Type}->St->(Ex->St->Option ρ)->Option ρ
 | .skip,_,_,s,k=>k .normal s
 | .exit id,_,_,s,k=>k (.exit id) s
 | .ret,_,_,s,k=>k .ret s
 | .label _,_,_,s,k=>k .normal s
 | .scope c,h,_,s,k=>ev E n c h s k
 | .region _ i f,h,_,s,k=>match h with
   | .j j _=>Zm E j (λ d=>Ia E i.toList f s (d .normal)) k
   |_=>Ia E i.toList f s (k .normal)
 | .seq a b,h,_,s,k=>match h with
   | .s q t=>ev E n a q s λ e s'=>match e with
     | .normal=>ev E n b t s' k
     |e=>k e s'
   | .st m q t=>ev E n a q s λ e s'=>match e with
     | .normal=>(ahE s' m).runK λ us=>ev E n b t (s'.dW us) k
     |e=>k e s'
   |_=>none
 | .cond c x y,h,_,s,k=>match wR E s c,h with
   |some b,.s l p=>bif b then ev E n x l s k else ev E n y p s k
   |some b,.j j (.s l p)=>Zm E j (λ d=>bif b then ev E n x l s d else ev E n y p s d) k
   |some b,.jr j (.s l p)=>aey E j (λ d=>bif b then ev E n x l s d else ev E n y p s d) k
   |_,_=>none
 | .block id c,h,_,s,k=>match h with
   | .s g _=>ev E n c g s (inBlock id k)
   | .j j g=>Zm E j (λ d=>ev E n c g s (inBlock id d)) k
   | .jr j g=>aey E j (λ d=>ev E n c g s (inBlock id d)) k
   |_=>none
 | .loop c,h,ρ,s,k=>match h with
   | .j j g=>bif !(jOk j)then none else(Vq E j s).bind λ x=>bH (ρ:=ρ) (λ x rec=>ev E n c g (unpack j x) λ e s'=>match e with
     | .normal=>(Vq E j s').bind rec
     |e=>k e s') n x
   |_=>none
 |_,_,_,_,_=>none
def qJ:List PK->Nat->LC->St->St
 | [],_,_,s=>s
 | .val ag want::ps,i,cs,s=>qJ ps (i+1) (cs.drop want.length) {s with tm:=put s.tm i (.val ag (cs.take want.length),0)}
 | .ptr want::ps,i,cs,s=>qJ ps (i+1) (cs.drop want.length)
  {tm:=put s.tm i (.addr ⟨.box i,0,[],0,none⟩,0),bx:=put s.bx i (some ⟨0,(cs.take want.length).map λ c=>(c,0)⟩)}
 | .rptr want::ps,i,cs,s=>qJ ps (i+1) (cs.drop want.length) {s with tm:=put s.tm i (.paddr (cs.take want.length) 0,0)}
 | .fn f::ps,i,cs,s=>qJ ps (i+1) cs {s with tm:=put s.tm i (.fn f,0)}
 | .io want::ps,i,cs,s=>qJ ps (i+1) (cs.drop want.length) {s with tm:=put s.tm i (.val false (cs.take want.length),0)}
 | .clo f want::ps,i,cs,s=>qJ ps (i+1) (cs.drop want.length) {s with tm:=put s.tm i (.clo f [.paddr (cs.take want.length) 0],0)}
def enter (g:Sig) (x:g.In):St:=qJ g.params 0 (retag g.ins (cellsOf _ x)) sU
def vw (E:Env) (s:St):List ResultVar->List (Bool×List (Sh×Tg))->Option (LC×St)
 | [],[]=>some ([],s)
 | .tmp t::d,(ag,want)::rs=>match(LK s (s.tm t).1 (.tmp t) ag want).run with
   |some (cs,us)=>match vw E (s.dW us) d rs with
    |some (ds,s')=>some (cs++ds,s')
    |none=>none
   |none=>none
 | .cell t ty::d,(ag,want)::rs=>match(s.tm t).1,E.ty ty with
   | .addr p,some i=>match p.sub,aV s p want.length with
     |none,some cs=>bif (i.ag==ag)&&Nat.beq i.cells.length want.length&&(ag||FC cs)then
      match weaken cs want,jT s p (iL cs want) false with
      |some ds,some us=>match vw E (s.dW us) d rs with
       |some (e,s')=>some (ds++e,s')
       |none=>none
      |_,_=>none
      else none
     |_,_=>none
   |_,_=>none
 |_,_=>none
def asIs:LC->List (Sh×Tg)->Option (LC)
 | [],[]=>some []
 |c::cs,(sh,tg)::want=>bif Sh.beq c.sh sh&&Tg.le tg c.tg&&Tg.le c.tg tg then(asIs cs want).map (c:: ·)else none
 |_,_=>none
def tX (s:St):List PK->Nat->Option (LC)
 | [],_=>some []
 | .val _ _::ps,i=>tX s ps (i+1)
 | .rptr _::ps,i=>tX s ps (i+1)
 | .fn _::ps,i=>tX s ps (i+1)
 | .clo _ _::ps,i=>tX s ps (i+1)
 | .io want::ps,i=>match(s.tm i).1,tX s ps (i+1)with
   | .val false cs,some ds=>(asIs cs want).map (· ++ds)
   |_,_=>none
 | .ptr want::ps,i=>match(s.tm i).1,s.bx i,tX s ps (i+1)with
   | .addr p,some b,some ds=>bif Nat.beq p.inst b.inst&&Root.same p.root (.box i)&&Nat.beq p.cell 0&&(match p.sub with|none=>true|_=>false)then(asIs (b.cells.map (·.1)) want).map (· ++ds)else none
   |_,_,_=>none
def leave (E:Env) (g:Sig) (rs:List ResultVar) (s:St):Option g.Out:=
 bif afO E s then match vw E s rs g.res with
 |some (cs,s')=>match tX s' g.params 0 with
  |some ds=>iq _ (cs++ds)
  |none=>none
 |none=>none else none
def look (l:List (Nat×Nat)) (d:Nat):Nat:=match l with| []=>0|(a,b)::l=>bif Nat.beq a d then b else look l d
structure Spec where
 sig:Sig
 fn:Func
 h:H
 calls:List (Nat×Nat)
 ext:Option (sig.In->Option sig.Out)
structure Prg where
 ty:TypeId->Option TyI
 glob:Nat->Option (LC)
 spec:Nat->Spec
abbrev Prg.Fs (p:Prg):Type:=(i:Nat)->(p.spec i).sig.In->Option (p.spec i).sig.Out
def Prg.env (p:Prg) (i:Nat) (f:p.Fs):Env:=⟨(p.spec i).fn.ntmps,aen (p.spec i).sig.params,p.ty,p.glob,λ i=>(p.spec i).sig,look (p.spec i).calls,f,U5 (p.spec i).sig.params 0⟩
def Prg.phi (p:Prg) (i:Nat) (n:Nat) (f:p.Fs) (x:(p.spec i).sig.In):Option (p.spec i).sig.Out:=
 match(p.spec i).ext with
 |some e=>e x
 |none=>ev (p.env i f) n ((p.spec i).fn.body.getD (.refuse "")) (p.spec i).h (enter (p.spec i).sig x) λ e s=>match e with
  | .exit _=>none
  |_=>leave (p.env i f) (p.spec i).sig (p.spec i).fn.results.toList s
def Prg.run (p:Prg):Nat->p.Fs
 |0=>λ _ _=>none
 |n+1=>λ i x=>p.phi i n (p.run n) x
end Go.AM
end
section
namespace Go.AM
open Go
abbrev Fz:=Nat->Nat->Prop
def PS (w:World) (F:Fz) (ad:Addr) (cs:LV):Prop:=
 ∀j,j<cs.length->w.cell? ⟨ad.block,ad.off+j,none⟩=cs[j]? /\F ad.block (ad.off+j)
def fH {α:Type} (R:α->LV->Prop):List α->LV->Prop
 | [],cs=>cs= []
 |x::f,cs=> ∃d e,cs=d++e/\R x d/\fH R f e
def Ip (w:World) (F:Fz) (len:Nat) (d:LV->Prop) (v:Value):Prop:=
 ∃A c,v= .slice A len c/\len<=c/\(len=0\/ ∃ad cs,A=some ad/\ad.spot=none/\PS w F ad cs/\d cs)
mutual
def qQ {α:Type} (w:World) (F:Fz) (R:α->LV->Prop):RT α->LV->Prop
 | .mk a kids,cs=> ∃d v,cs=d++[v]/\R a d/\Ip w F kids.length (jH w F R kids) v
def jH {α:Type} (w:World) (F:Fz) (R:α->LV->Prop):List (RT α)->LV->Prop
 | [],cs=>cs= []
 |t::ts,cs=> ∃d e,cs=d++e/\qQ w F R t d/\jH w F R ts e
end
mutual
def jM (w:World) (F:Fz):(sh:Sh)->El sh->Value->Prop
 | .int k,n,v=>v= .int k n
 | .bool,b,v=>v= .bool b
 | .str,b,v=>v= .string b
 | .sl es,l,v=>Ip w F (List.length l) (fH (dX w F es) l) v
 | .rsl ss,l,v=>Ip w F (List.length l) (jH w F (dX w F ss) l) v
 | .dl _,_,_=>False
 | .mp _ _,_,_=>False
def dX (w:World) (F:Fz):(es:List Sh)->ElA es->LV->Prop
 | [],_,cs=>cs= []
 |s::ss,x,cs=>match ss,x with
  | [],x=> ∃v,cs= [v]/\jM w F s x v
  |t::ts,x=> ∃v d,cs=v::d/\jM w F s x.1 v/\dX w F (t::ts) x.2 d
end
structure Keeps (w w':World) (F F':Fz):Prop where
 sub: ∀b o,F b o->F' b o
 cell: ∀b o,F b o->w'.cell? ⟨b,o,none⟩=w.cell? ⟨b,o,none⟩
theorem Keeps.refl (w:World) (F:Fz):Keeps w w F F:=⟨λ _ _ h=>h,λ _ _ _=>rfl⟩
theorem Keeps.trans {a b c:World} {F G H:Fz} (h:Keeps a b F G) (k:Keeps b c G H):Keeps a c F H:=
 ⟨λ x o f=>k.sub x o (h.sub x o f),λ x o f=>(k.cell x o (h.sub x o f)).trans (h.cell x o f)⟩
section
variable {w w':World} {F F':Fz}
theorem PS.keeps (k:Keeps w w' F F') {ad:Addr} {cs:LV} (h:PS w F ad cs):PS w' F' ad cs:=
 λ j d=>⟨(k.cell _ _ (h j d).2).trans (h j d).1,k.sub _ _ (h j d).2⟩
theorem fH.imp {α:Type} {R d:α->LV->Prop} (f: ∀x cs,R x cs->d x cs): ∀(l:List α) cs,fH R l cs->fH d l cs
 | [],_,h=>h
 |x::i,_,⟨k,g,e,m,p⟩=>⟨k,g,e,f _ _ m,fH.imp f i g p⟩
theorem Ip.imp (k:Keeps w w' F F') {len:Nat} {e d:LV->Prop} (f: ∀cs,e cs->d cs) {v:Value} (h:Ip w F len e v):Ip w' F' len d v:=by
 obtain⟨A,c,hv,g,h⟩:=h;refine⟨A,c,hv,g,?_⟩;rcases h with h|⟨ad,cs,i,hs,l,h⟩
 ·exact .inl h
 ·exact .inr ⟨ad,cs,i,hs,l.keeps k,f _ h⟩
mutual
theorem qQ.imp {α:Type} (k:Keeps w w' F F') {R d:α->LV->Prop} (f: ∀x cs,R x cs->d x cs): ∀(t:RT α) cs,qQ w F R t cs->qQ w' F' d t cs
 | .mk a kids,cs,h=>by
   unfold qQ at h ⊢;obtain⟨g,v,e,i,l⟩:=h;exact⟨g,v,e,f _ _ i,l.imp k (λ cs h=>jH.imp k f kids cs h)⟩
theorem jH.imp {α:Type} (k:Keeps w w' F F') {R d:α->LV->Prop} (f: ∀x cs,R x cs->d x cs): ∀(ts:List (RT α)) cs,jH w F R ts cs->jH w' F' d ts cs
 | [],cs,h=>by unfold jH at h ⊢;exact h
 |t::ts,cs,h=>by
  unfold jH at h ⊢;obtain⟨g,i,e,l,m⟩:=h;exact⟨g,i,e,qQ.imp k f t g l,jH.imp k f ts i m⟩
end
mutual
theorem jM.keeps (k:Keeps w w' F F'): ∀(sh:Sh) (x:El sh) v,jM w F sh x v->jM w' F' sh x v
 | .int _,_,_,h=>h
 | .bool,_,_,h=>h
 | .str,_,_,h=>h
 | .sl es,l,v,h=>by
   simp only[jM]at h ⊢;exact h.imp k (λ cs h=>fH.imp (λ x cs h=>dX.keeps k es x cs h) l cs h)
 | .rsl ss,l,v,h=>by
   simp only[jM]at h ⊢;exact h.imp k (λ cs h=>jH.imp k (λ x cs h=>dX.keeps k ss x cs h) l cs h)
 | .dl es,l,v,h=>by simp only[jM]at h
 | .mp _ _,l,v,h=>by simp only[jM]at h
theorem dX.keeps (k:Keeps w w' F F'): ∀(es:List Sh) (x:ElA es) cs,dX w F es x cs->dX w' F' es x cs
 | [],_,_,h=>h
 | [s],x,cs,h=>by
   simp only[dX]at h ⊢;obtain⟨v,e,h⟩:=h;exact⟨v,e,jM.keeps k s x v h⟩
 |s::t::ss,x,cs,h=>by
  simp only[dX]at h ⊢;obtain⟨v,c,e,d,f⟩:=h;exact⟨v,c,e,jM.keeps k s x.1 v d,dX.keeps k (t::ss) x.2 c f⟩
end
end
theorem dX.length {w:World} {F:Fz}: ∀(es:List Sh) (x:ElA es) cs,dX w F es x cs->cs.length=es.length
 | [],_,_,h=>by simp only[dX]at h;simp[h]
 | [s],x,cs,h=>by
   simp only[dX]at h;obtain⟨v,e,h⟩:=h;simp[e]
 |s::t::ss,x,cs,h=>by
  simp only[dX]at h;obtain⟨v,c,e,f,d⟩:=h;have:=dX.length (t::ss) x.2 c d;simp[e,this]
theorem qQ.length {α:Type} {w:World} {F:Fz} {R:α->LV->Prop} {n:Nat} (d: ∀x cs,R x cs->cs.length=n) (t:RT α) (cs:LV) (h:qQ w F R t cs):cs.length=n+1:=by
 cases t;unfold qQ at h;obtain⟨g,v,e,f,i⟩:=h;simp[e,d _ _ f]
structure KH {α:Type} (n:Nat) (R:α->LV->Prop) (L:List α->LV->Prop):Prop where
 len: ∀x cs,R x cs->cs.length=n
 nil: ∀cs,L [] cs ↔ cs= []
 cons: ∀x xs cs,L (x::xs) cs ↔ ∃c1 c2,cs=c1++c2/\R x c1/\L xs c2
theorem jW {w:World} {F:Fz} (es:List Sh):KH es.length (dX w F es) (fH (dX w F es)):=
 ⟨dX.length es,λ _=>ab7,λ _ _ _=>ab7⟩
theorem kL {w:World} {F:Fz} (ss:List Sh):KH (ss.length+1) (qQ w F (dX w F ss)) (jH w F (dX w F ss)):=
 ⟨qQ.length (dX.length ss),λ _=>by unfold jH;exact ab7,λ _ _ _=>by conv=>lhs;unfold jH⟩
namespace KH
variable {α:Type} {n:Nat} {R:α->LV->Prop} {L:List α->LV->Prop}
theorem length (h:KH n R L): ∀(l:List α) cs,L l cs->cs.length=l.length*n
 | [],cs,d=>by rw[(h.nil cs).1 d];simp
 |x::f,cs,d=>by
  obtain⟨g,i,e,k,m⟩:=(h.cons x f cs).1 d;have:=h.length f i m;have:=h.len x g k;simp[*,abO,acQ]
theorem append (h:KH n R L): ∀(l m:List α) cs ds,L l cs->L m ds->L (l++m) (cs++ds)
 | [],m,cs,ds,d,f=>by rw[(h.nil cs).1 d];exact f
 |x::g,m,cs,ds,d,f=>by
  obtain⟨k,i,e,p,q⟩:=(h.cons x g cs).1 d;exact(h.cons x (g++m) _).2 ⟨k,i++ds,by simp[e],p,h.append g m i ds q f⟩
theorem split (h:KH n R L): ∀(l m:List α) cs,L (l++m) cs->L l (cs.take (l.length*n))/\L m (cs.drop (l.length*n))
 | [],m,cs,f=>by simp only[aci,Nat.zero_mul,acA,abB];exact⟨(h.nil _).2 rfl,f⟩
 |x::d,m,cs,f=>by
  obtain⟨g,i,e,k,q⟩:=(h.cons x (d++m) cs).1 f;have t:=h.len x g k;obtain⟨u,v⟩:=h.split d m i q;have p:(x::d).length*n=g.length+d.length*n:=by simp[t,abO,acQ]
  refine⟨(h.cons x d _).2 ⟨g,i.take (d.length*n),?_,k,u⟩,?_⟩
  ·rw[p,e,acX];simp[aaJ]
  ·rw[p,e,List.drop_append,aa3 Ω];simpa using v
theorem take (h:KH n R L) (l:List α) (cs:LV) (k:Nat) (e:L l cs):L (l.take k) (cs.take (k*n)):=by
 have:=(h.split (l.take k) (l.drop k) cs (by simpa using e)).1;by_cases f:k<=l.length
 ·simpa [abP f]using this
 ·have g:=h.length l cs e;have d:l.length<=k:=by omega
  rw[aaJ (l:=cs) (by rw[g];exact aaA _ d)];rw[aaJ d];exact e
theorem drop (h:KH n R L) (l:List α) (cs:LV) (k:Nat) (e:L l cs):L (l.drop k) (cs.drop (k*n)):=by
 by_cases f:k<=l.length
 ·have:=(h.split (l.take k) (l.drop k) cs (by simpa using e)).2;simpa [abP f]using this
 ·have g:=h.length l cs e;have d:l.length<=k:=by omega
  rw[aa3 d,aa3 (by rw[g];exact aaA _ d)];exact(h.nil _).2 rfl
theorem get (h:KH n R L) (l:List α) (cs:LV) (m:L l cs) (i:Nat) (x:α) (d:l[i]? =some x):R x ((cs.drop (i*n)).take n):=by
 have f:=h.drop l cs i m
 have g:i<l.length:=by
  rcases aaG i l.length with h|h
  ·exact h
  ·simp[aal h]at d
 have e:l.drop i=x::l.drop (i+1):=by
  rw[aaI g];simp[aac g]at d;rw[d]
 rw[e]at f;obtain⟨p,q,e,k,t⟩:=(h.cons _ _ _).1 f;rw[e,←h.len x p k];simpa using k
theorem set (h:KH n R L) (l:List α) (cs:LV) (d:L l cs) (i:Nat) (e:i<l.length) (x:α) (ds:LV) (f:R x ds):L (l.set i x) (cs.take (i*n)++ds++cs.drop ((i+1)*n)):=by
 have g:=h.take l cs i d;have k:=h.drop l cs (i+1) d;rw[List.set_eq_take_append_cons_drop,if_pos e];have:=h.append _ _ _ _ g ((h.cons x (l.drop (i+1)) _).2 ⟨ds,_,rfl,f,k⟩);simpa using this
theorem imp {i:α->LV->Prop} {L':List α->LV->Prop} (h:KH n R L) (d:KH n i L') (k: ∀x cs,R x cs->i x cs): ∀(l:List α) cs,L l cs->L' l cs
 | [],cs,f=>(d.nil cs).2 ((h.nil cs).1 f)
 |x::g,cs,f=>by
  obtain⟨p,m,e,q,t⟩:=(h.cons x g cs).1 f;exact(d.cons x g cs).2 ⟨p,m,e,k _ _ q,h.imp d k g m t⟩
end KH
inductive aF where
 |tm (n i:Nat)|box (n:Nat)|cell (n i:Nat)|hand (i:Nat)
 deriving DecidableEq
structure Gh where
 at_:Nat->Nat
 own:Nat->Option aF
 F:Fz
def Sh.n:Sh->Nat
 | .sl es=>es.length
 | .rsl ss=>ss.length+1
 | .dl es=>es.length
 |_=>0
def aP:(sh:Sh)->El sh->Nat
 | .sl _,l=>List.length l
 | .rsl _,l=>List.length l
 | .dl _,l=>List.length l
 |_,_=>0
def wM (w:World) (F:Fz):(sh:Sh)->El sh->LV->Prop
 | .sl es,l,cs=>fH (dX w F es) l cs
 | .rsl ss,l,cs=>jH w F (dX w F ss) l cs
 |_,_,_=>False
theorem yI {w:World} {F:Fz} {sh:Sh} (h:sh.qK=true) (x:El sh) (v:Value):jM w F sh x v ↔ Ip w F (aP sh x) (wM w F sh x) v:=by
 cases sh<;>simp[Sh.qK]at h<;>simp only[jM,aP]<;>exact ab7
theorem gu {sh:Sh} (h:sh.qK=true):sh.qR=true:=by cases sh<;>simp_all [Sh.qK,Sh.qR]
theorem U2 {sh:Sh} (h:sh.qR=true):sh.qK=true\/ ∃es,sh= .dl es:=by cases sh<;>simp_all [Sh.qK,Sh.qR]
theorem wM.keeps {w w':World} {F F':Fz} (k:Keeps w w' F F') {sh:Sh} {x:El sh} {cs:LV} (h:wM w F sh x cs):wM w' F' sh x cs:=by
 cases sh with
 |sl es=>exact fH.imp (λ x cs h=>dX.keeps k es x cs h) x cs h
 |rsl ss=>exact jH.imp k (λ x cs h=>dX.keeps k ss x cs h) x cs h
 |_=>exact h
theorem wM.length {w:World} {F:Fz} {sh:Sh} {x:El sh} {cs:LV} (h:wM w F sh x cs):cs.length=aP sh x*sh.n:=by
 cases sh with
 |sl es=>exact(jW (w:=w) (F:=F) es).length x cs h
 |rsl ss=>exact(kL (w:=w) (F:=F) ss).length x cs h
 |_=>exact h.elim
def wZ (w:World) (g:Gh) (ow:aF) (d:Bool) (sh:Sh) (x:El sh) (v:Value):Prop:=
 (v= .slice none 0 0/\aP sh x=0)\/
 ∃b c cur e,v= .slice (some ⟨b,0,none⟩) (aP sh x) c/\aP sh x<=c/\c<=maxLen/\g.own b=some ow/\w.heap[b]? =some (.cells cur e (0,0))/\
  cur.size=c*sh.n/\wM w g.F sh x (cur.toList.take (aP sh x*sh.n))/\(∀o,g.F b o ↔ (d=true/\o<aP sh x*sh.n))
def blk:Value->Option Nat
 | .slice (some ad) _ _=>some ad.block
 |_=>none
def sG (w:World) (g:Gh) (ow:aF) (B:Option Nat) (sh:Sh) (x:El sh) (v:Value):Prop:=
 if sh.qR then sh.qK=true/\wZ w g ow false sh x v/\blk v=B else jM w g.F sh x v
def Yr (w:World) (g:Gh) (ow:aF) (B:Nat->Option Nat) (es:List Sh) (x:ElA es) (cs:LV):Prop:=
 cs.length=es.length/\ ∀(k:Nat) (c:CV) (v:Value),(cellsOf es x)[k]? =some c->cs[k]? =some v->sG w g ow (B k) c.sh c.x v
def jm (w:World) (g:Gh) (ow:aF) (b:Nat) (es:List Sh) (l:List (Option (ElA es))) (cs:LV):Prop:=
 cs.length=l.length*es.length/\ ∃B:Nat->Option Nat,(∀k,B k≠some b)/\(∀i j x,B i=some x->B j=some x->i=j)/\
  ∀i x,l[i]? =some (some x)->Yr w g ow (λ j=>B (i*es.length+j)) es x ((cs.drop (i*es.length)).take es.length)
def Xn (w:World) (g:Gh) (ow:aF) (b:Nat) (d:Bool):(sh:Sh)->El sh->LV->Prop
 | .dl es,l,cs=>(d=false/\ ∀u,u∈cs->u.oneCell'=true)/\jm w g ow b es l cs
 |sh,x,cs=>wM w g.F sh x cs
def zK (w:World) (g:Gh) (ow:aF) (d:Bool) (sh:Sh) (x:El sh) (v:Value):Prop:=
 (v= .slice none 0 0/\aP sh x=0)\/
 ∃b c cur e,v= .slice (some ⟨b,0,none⟩) (aP sh x) c/\aP sh x<=c/\c<=maxLen/\g.own b=some ow/\w.heap[b]? =some (.cells cur e (0,0))/\
  cur.size=c*sh.n/\Xn w g ow b d sh x (cur.toList.take (aP sh x*sh.n))/\(∀o,g.F b o ↔ (d=true/\o<aP sh x*sh.n))
theorem rC {w:World} {g:Gh} {ow:aF} {b:Nat} {d:Bool} {sh:Sh} (h:sh.qK=true) {x:El sh} {cs:LV}:Xn w g ow b d sh x cs ↔ wM w g.F sh x cs:=by
 cases sh<;>first|exact ab7|simp[Sh.qK]at h
theorem qg {w:World} {g:Gh} {ow:aF} {d:Bool} {sh:Sh} (h:sh.qK=true) {x:El sh} {v:Value}:zK w g ow d sh x v ↔ wZ w g ow d sh x v:=by
 cases sh<;>first|exact ab7|simp[Sh.qK]at h
theorem Xn.length {w:World} {g:Gh} {ow:aF} {b:Nat} {d:Bool} {sh:Sh} {x:El sh} {cs:LV} (h:Xn w g ow b d sh x cs):cs.length=aP sh x*sh.n:=by
 cases sh with
 |dl es=>exact h.2.1
 |sl es=>exact wM.length (sh:= .sl es) h
 |rsl es=>exact wM.length (sh:= .rsl es) h
 |_=>exact h.elim
structure Fr (K:aF->Prop) (w w':World) (g g':Gh):Prop where
 keeps:Keeps w w' g.F g'.F
 own: ∀b ow,K ow->g.own b=some ow->g'.own b=some ow/\w'.heap[b]? =w.heap[b]? /\ ∀o,g'.F b o->g.F b o
theorem Fr.refl (K:aF->Prop) (w:World) (g:Gh):Fr K w w g g:=⟨Keeps.refl _ _,λ _ _ _ h=>⟨h,rfl,λ _ h=>h⟩⟩
theorem Fr.trans {K:aF->Prop} {a b c:World} {g h i:Gh} (x:Fr K a b g h) (y:Fr K b c h i):Fr K a c g i:=
 ⟨x.keeps.trans y.keeps,λ d ow k e=>by
  obtain⟨f,l,m⟩:=x.own d ow k e;obtain⟨p,q,t⟩:=y.own d ow k f;exact⟨p,q.trans l,λ o h=>m o (t o h)⟩⟩
theorem Fr.mono {K K':aF->Prop} {w w':World} {g g':Gh} (h:Fr K w w' g g') (d: ∀o,K' o->K o):Fr K' w w' g g':=
 ⟨h.keeps,λ b ow k e=>h.own b ow (d ow k) e⟩
def scV:(s:Sh)->El s->Value
 | .int k,n=> .int k n
 | .bool,b=> .bool b
 | .str,b=> .string b
 |_,_=> .bool false
def af4 (w:World) (b:Nat) (k e:Sh) (l:List (El k×El e)):Prop:=
 ∃es d,w.heap[b]? =some (.map es d)/\es.toList.map (λ q=>(q.key,q.val))=l.map λ p=>(scV k p.1,scV e p.2)
def UC (w:World) (g:Gh) (ow:aF):(sh:Sh)->El sh->Value->Prop
 | .mp k e,x,v=>(v= .map none/\x=none)\/ ∃b l,x=some l/\v= .map (some b)/\g.own b=some ow/\af4 w b k e l/\ ∀o,¬g.F b o
 |_,_,_=>False
theorem UC.fr {K:aF->Prop} {w w':World} {g g':Gh} (f:Fr K w w' g g') {ow:aF} (d:K ow) {sh:Sh} {x:El sh} {v:Value} (h:UC w g ow sh x v):UC w' g' ow sh x v:=by
 cases sh with
 |mp k e=>
  rcases h with h|⟨b,l,i,hv,m,⟨es,c,p,q⟩,t⟩
  ·exact .inl h
  ·obtain⟨u,y,z⟩:=f.own b ow d m;exact .inr ⟨b,l,i,hv,u,⟨es,c,y.trans p,q⟩,λ o h=>t o (z o h)⟩
 |_=>exact h.elim
theorem UC.mp {w:World} {g:Gh} {ow:aF} {sh:Sh} {x:El sh} {v:Value} (h:UC w g ow sh x v):sh.Kr=true/\sh.qR=false/\(match v with| .agg _=>true|_=>false)=false/\v.oneCell'=true:=by
 cases sh with
 |mp k e=>rcases h with⟨rfl,_⟩|⟨b,l,d,rfl,_⟩<;>exact⟨rfl,rfl,rfl,rfl⟩
 |_=>exact h.elim
def jZ (w:World) (g:Gh) (ow:aF) (c:CV) (v:Value):Prop:=
 match c.tg with
 | .dead=>True
 | .pure=>jM w g.F c.sh c.x v
 | .own=>if c.sh.qR then zK w g ow false c.sh c.x v else if c.sh.Kr then UC w g ow c.sh c.x v else jM w g.F c.sh c.x v
 | .tip=>if c.sh.qR then zK w g ow true c.sh c.x v else jM w g.F c.sh c.x v
theorem wZ.fr {K:aF->Prop} {w w':World} {g g':Gh} (f:Fr K w w' g g') {ow:aF} (i:K ow) {d:Bool} {sh:Sh} {x:El sh} {v:Value} (h:wZ w g ow d sh x v):wZ w' g' ow d sh x v:=by
 rcases h with h|⟨b,c,cur,k,hv,l,m,p,q,hs,t,e⟩
 ·exact .inl h
 ·obtain⟨u,y,z⟩:=f.own b ow i p;refine .inr ⟨b,c,cur,k,hv,l,m,u,y.trans q,hs,t.keeps f.keeps,λ o=>⟨λ h=>(e o).1 (z o h),λ h=>f.keeps.sub _ _ ((e o).2 h)⟩⟩
theorem sG.imp {w w':World} {g g':Gh} {ow ow':aF} (d:Keeps w w' g.F g'.F) {B:Option Nat} {sh:Sh} {x:El sh} {v:Value} (e:B=blk v-> ∀x,wZ w g ow false sh x v->wZ w' g' ow' false sh x v) (h:sG w g ow B sh x v):sG w' g' ow' B sh x v:=by
 unfold sG at h ⊢;split
 ·rename_i hs;rw[if_pos hs]at h;exact⟨h.1,e h.2.2.symm x h.2.1,h.2.2⟩
 ·rename_i hs;rw[if_neg hs]at h;exact jM.keeps d _ _ _ h
theorem Yr.imp {w w':World} {g g':Gh} {ow ow':aF} (d:Keeps w w' g.F g'.F) {B:Nat->Option Nat} {es:List Sh} {x:ElA es} {cs:LV}
 (e: ∀k sh v,k<es.length->B k=blk v-> ∀x,wZ w g ow false sh x v->wZ w' g' ow' false sh x v) (h:Yr w g ow B es x cs):Yr w' g' ow' B es x cs:=
 ⟨h.1,λ k c v f hv=>(h.2 k c v f hv).imp d (e k c.sh v (by
  rw[←h.1];rcases aaG k cs.length with h|h
  ·exact h
  ·simp[aal h]at hv))⟩
theorem jm.imp {w w':World} {g g':Gh} {ow ow':aF} (f:Keeps w w' g.F g'.F) {b:Nat} {es:List Sh} {l:List (Option (ElA es))} {cs:LV} (m: ∀sh x v,blk v≠some b->wZ w g ow false sh x v->wZ w' g' ow' false sh x v) (h:jm w g ow b es l cs):jm w' g' ow' b es l cs:=by
 obtain⟨p,B,d,q,t⟩:=h;exact⟨p,B,d,q,λ i x u=>Yr.imp f (λ k sh v _ e=>λ x=>m sh x v (by rw[←e];exact d _)) (t i x u)⟩
theorem wZ.owner {w:World} {g g':Gh} {ow ow':aF} {d:Bool} {sh:Sh} {x:El sh} {v:Value} (hF:g'.F=g.F) (e: ∀b,blk v=some b->g'.own b=some ow') (h:wZ w g ow d sh x v):wZ w g' ow' d sh x v:=by
 rcases h with h|⟨b,c,cur,f,hv,i,k,q,l,hs,m,p⟩
 ·exact .inl h
 ·exact .inr ⟨b,c,cur,f,hv,i,k,e b (by rw[hv];rfl),l,hs,by rw[hF];exact m,by rw[hF];exact p⟩
theorem wZ.one {w:World} {g:Gh} {ow:aF} {d:Bool} {sh:Sh} {x:El sh} {v:Value} (h:wZ w g ow d sh x v):v.oneCell'=true:=by
 rcases h with⟨rfl,_⟩|⟨_,_,_,_,rfl,_⟩<;>rfl
theorem wZ.nC {w:World} {g:Gh} {ow:aF} {d:Bool} {sh:Sh} {x:El sh} {v:Value} (h:wZ w g ow d sh x v) {b:Nat} (e:blk v=some b):g.own b=some ow:=by
 rcases h with⟨rfl,_⟩|⟨i,c,cur,k,rfl,l,m,f,_⟩
 ·cases e
 ·cases e;exact f
theorem Xn.fr {K:aF->Prop} {w w':World} {g g':Gh} (f:Fr K w w' g g') {ow:aF} (e:K ow) {b:Nat} {d:Bool} {sh:Sh} {x:El sh} {cs:LV} (h:Xn w g ow b d sh x cs):Xn w' g' ow b d sh x cs:=by
 cases sh with
 |dl es=>exact⟨h.1,h.2.imp f.keeps λ sh x v _=>wZ.fr f e⟩
 |sl es=>exact wM.keeps (sh:= .sl es) f.keeps h
 |rsl es=>exact wM.keeps (sh:= .rsl es) f.keeps h
 |_=>exact h.elim
theorem zK.fr {K:aF->Prop} {w w':World} {g g':Gh} (f:Fr K w w' g g') {ow:aF} (e:K ow) {d:Bool} {sh:Sh} {x:El sh} {v:Value} (h:zK w g ow d sh x v):zK w' g' ow d sh x v:=by
 rcases h with h|⟨b,c,cur,k,hv,l,m,p,q,hs,t,i⟩
 ·exact .inl h
 ·obtain⟨u,y,z⟩:=f.own b ow e p;refine .inr ⟨b,c,cur,k,hv,l,m,u,y.trans q,hs,t.fr f e,λ o=>⟨λ h=>(i o).1 (z o h),λ h=>f.keeps.sub _ _ ((i o).2 h)⟩⟩
theorem jZ.fr {K:aF->Prop} {w w':World} {g g':Gh} (f:Fr K w w' g g') {ow:aF} (d:K ow) {c:CV} {v:Value} (h:jZ w g ow c v):jZ w' g' ow c v:=by
 unfold jZ at h ⊢;split
 ·trivial
 ·rename_i e;rw[e]at h;exact jM.keeps f.keeps _ _ _ h
 ·rename_i e;rw[e]at h;simp only at h ⊢;split
  ·rename_i hs;rw[if_pos hs]at h;exact h.fr f d
  ·rename_i hs;rw[if_neg hs]at h;split
   ·rename_i i;rw[if_pos i]at h;exact h.fr f d
   ·rename_i i;rw[if_neg i]at h;exact jM.keeps f.keeps _ _ _ h
 ·rename_i e;rw[e]at h;simp only at h ⊢;split
  ·rename_i hs;rw[if_pos hs]at h;exact h.fr f d
  ·rename_i hs;rw[if_neg hs]at h;exact jM.keeps f.keeps _ _ _ h
theorem jZ.pure {w w':World} {g g':Gh} (k:Keeps w w' g.F g'.F) {ow ow':aF} {c:CV} {v:Value} (d:c.isPure=true) (h:jZ w g ow c v):jZ w' g' ow' c v:=by
 have e:c.tg= .pure:=by unfold CV.isPure Tg.isPure at d;split at d<;>simp_all
 unfold jZ at h ⊢;rw[e]at h ⊢;exact jM.keeps k _ _ _ h
def aC (w:World) (g:Gh) (mk:Nat->aF):Nat->LC->LV->Prop
 |_,[],d=>d= []
 |i,c::cs,d=> ∃v e,d=v::e/\jZ w g (mk i) c v/\aC w g mk (i+1) cs e
theorem aC.length {w:World} {g:Gh} {mk:Nat->aF}: ∀(cs:LC) (i:Nat) (d:LV),aC w g mk i cs d->d.length=cs.length
 | [],_,_,h=>by simp only[aC]at h;simp[h]
 |c::cs,i,_,⟨v,f,e,_,h⟩=>by simp[e,aC.length cs (i+1) f h]
theorem aC.fr {K:aF->Prop} {w w':World} {g g':Gh} (f:Fr K w w' g g') {mk:Nat->aF}: ∀(cs:LC) (i:Nat) (d:LV),(∀j,K (mk j))->aC w g mk i cs d->aC w' g' mk i cs d
 | [],_,_,_,h=>h
 |c::cs,i,_,k,⟨v,l,e,m,h⟩=>⟨v,l,e,m.fr f (k i),aC.fr f cs (i+1) l k h⟩
theorem aC.get {w:World} {g:Gh} {mk:Nat->aF}: ∀(cs:LC) (i:Nat) (k:LV),aC w g mk i cs k-> ∀j c,cs[j]? =some c-> ∃v,k[j]? =some v/\jZ w g (mk (i+j)) c v
 | [],_,_,_,j,c,p=>by simp at p
 |c::cs,i,_,⟨v,l,e,m,h⟩,0,d,f=>by
  simp at f;subst f;exact⟨v,by simp[e],m⟩
 |c::cs,i,_,⟨v,l,e,m,h⟩,j+1,d,f=>by
  obtain⟨u,q,t⟩:=aC.get cs (i+1) l h j d (by simpa using f);exact⟨u,by simpa [e]using q,by rw[show i+(j+1)=i+1+j by omega];exact t⟩
theorem aC.of {w:World} {g:Gh} {mk:Nat->aF}: ∀(cs:LC) (i:Nat) (e:LV),e.length=cs.length->(∀j c v,cs[j]? =some c->e[j]? =some v->jZ w g (mk (i+j)) c v)->aC w g mk i cs e
 | [],_,e,f,_=>by simpa [aC]using f
 |c::cs,i,[],f,_=>by simp at f
 |c::cs,i,v::e,f,h=>⟨v,e,rfl,by simpa using h 0 c v rfl rfl,aC.of cs (i+1) e (by simpa using f) λ j d u k l=>by
  have:=h (j+1) d u (by simpa using k) (by simpa using l)
  rwa [show i+(j+1)=i+1+j by omega]at this⟩
theorem aC.append {w:World} {g:Gh} {mk:Nat->aF}: ∀(cs:LC) (i:Nat) (d:LV) (ds:LC) (us:LV),aC w g mk i cs d->aC w g mk (i+cs.length) ds us->aC w g mk i (cs++ds) (d++us)
 | [],_,_,_,_,h,k=>by simp only[aC]at h;subst h;simpa using k
 |c::cs,i,_,ds,us,⟨v,f,e,l,h⟩,k=>⟨v,f++us,by simp[e],l,aC.append cs (i+1) f ds us h (by rw[show i+1+cs.length=i+(c::cs).length by simp;omega];exact k)⟩
end Go.AM
end
section
namespace Go.AM
open Go
def isAgg:Value->Bool| .agg _=>true|_=>false
def aB (a:Act) (w:World) (g:Gh):Root->LV
 | .tmp n=>(a.eval (.tmp n)).cells.toList
 | .box n=>match w.heap[g.at_ n]? with
   |some (.cells cur _ _)=>cur.toList
   |_=>[]
def rP (s:St):Root->Nat
 | .tmp n=>(s.tm n).2
 | .box n=>match s.bx n with|some b=>b.inst|none=>0
structure Old (s:St) (p:Pl):Prop where
 inst:p.inst<=rP s p.root
 vers: ∀n b,p.root= .box n->s.bx n=some b->p.inst=b.inst-> ∀(i x:Nat) (c:CV) (v:Nat),p.vers[i]? =some x->b.cells[p.cell+i]? =some (c,v)->x<=v
def Fg (w:World) (g:Gh) (mk:Nat->aF) (i:Nat) (ag:Bool) (cs:LC) (v:Value):Prop:=
 isAgg v=ag/\aC w g mk i cs v.cells.toList
def mD (w:World) (g:Gh) (mk:Nat->aF):Nat->List (Bool×LC)->LV->Prop
 |_,[],d=>d= []
 |i,(ag,cs)::ts,d=> ∃v e,d=v::e/\Fg w g mk i ag cs v/\mD w g mk (i+cs.length) ts e
def Dw (A:Option Addr) (c lo d n:Nat):Value:= .slice (if c=lo then A else A.map (·.add (lo*n))) (d-lo) (c-lo)
def Rt (s:St) (a:Act) (w:World) (g:Gh) (p:Pl) (d:List Sh->Nat->Nat->LV->Prop):Prop:=
 ∃i j,p.sub=some (i,j)/\ ∀es l,aV s p 1=some [⟨.dl es,.own,l⟩]->
  ∃b len k cur e f,(aB a w g p.root)[p.cell]? =some (.slice (some ⟨b,0,none⟩) len k)/\i<len/\w.heap[b]? =some (.cells cur e f)/\d es i j cur.toList
def Row1 (v:Value) (ag:Bool) (m:Nat) (es:List Sh) (i j:Nat) (cs:LV):Prop:=isAgg v=ag/\v.cells.toList=(cs.drop (i*es.length+j)).take m
def akB (v:Value) (k q:Nat) (es:List Sh) (i j:Nat) (cs:LV):Prop:=
 ∃d e f sh,es[j]? =some sh/\cs[i*es.length+j]? =some (.slice (some ⟨d,0,none⟩) e f)/\k<e/\v= .pointer (some ⟨d,k*sh.n+q,none⟩)
def ahW (w:World) (g:Gh) (ow:aF) (q:CV) (v u:Value):Prop:=
 (∃b k l,u= .slice (some ⟨b,0,none⟩) (aP q.sh q.x) k/\v= .slice (some ⟨b,0,none⟩) l k)\/wZ w g ow false q.sh q.x u
theorem ahW.fr {K:aF->Prop} {w w':World} {g g':Gh} (f:Fr K w w' g g') {ow:aF} (d:K ow) {q:CV} {v u:Value} (h:ahW w g ow q v u):ahW w' g' ow q v u:=
 h.imp id λ h=>h.fr f d
def TV0 (s:St) (a:Act) (w:World) (g:Gh) (mk:Nat->aF):T->Value->Prop
 | .dead,_=>True
 | .undef,v=>v=undef
 | .nilc,_=>False
 | .val ag cs,v=>Fg w g mk 0 ag cs v
 | .ref p ag m,v=>Old s p/\p.vers.length=m/\p.sub=none/\ ∀cs,aV s p m=some cs->isAgg v=ag/\v.cells.toList=((aB a w g p.root).drop p.cell).take m
 | .rsub p z lo t,v=>Old s p/\p.vers.length=1/\p.sub=none/\(z=true->lo=0)/\ ∀c,aV s p 1=some [c]->
  ∃A l k,(aB a w g p.root)[p.cell]? =some (.slice A l k)/\lo<=t/\t<=l/\l<=k/\v=Dw A k lo t c.sh.n
 | .addr p,v=>Old s p/\match p.sub with
  |none=> ∃n,p.root= .box n/\ ∀b,s.bx n=some b->b.inst=p.inst->v= .pointer (some ⟨g.at_ n,p.cell,none⟩)
  |some (i,j)=>p.vers.length=1/\ ∀c,aV s p 1=some [c]->
   ∃b l k,(aB a w g p.root)[p.cell]? =some (.slice (some ⟨b,0,none⟩) l k)/\i<l/\v= .pointer (some ⟨b,i*c.sh.n+j,none⟩)
 | .rowr p ag m,v=>Old s p/\p.vers.length=1/\Rt s a w g p (Row1 v ag m)
 | .addr2 p k q,v=>Old s p/\p.vers.length=1/\Rt s a w g p (akB v k q)
 | .paddr cs off,v=> ∃(ad:Addr) (d:LV),v= .pointer (some ⟨ad.block,ad.off+off,none⟩)/\PS w g.F ad d/\bI cs=true/\aC w g mk 0 cs d
 | .tup ts,v=> ∃d,v= .tuple d.toArray/\mD w g mk 0 ts d
 | .fn f,v=>v= .func (.func f) #[] #[]
 | .clo _ _,_=>False
 | .ext p q c,v=>Old s p/\p.vers.length=1/\p.sub=none/\isAgg v=false/\jZ w g (mk 0) c v/\Y8 q.sh=true/\q.tg= .own/\c.sh=q.sh/\
  ∀e,aV s p 1=some [e]-> ∃u,(aB a w g p.root)[p.cell]? =some u/\ahW w g (mk 1) q v u
def oJ (s:St) (a:Act) (w:World) (g:Gh) (mk:Nat->aF):List T->LV->Prop
 | [],d=>d= []
 |t::ts,d=> ∃v e,d=v::e/\(match t with| .addr _=>True| .paddr _ _=>True|_=>False)/\TV0 s a w g mk t v/\oJ s a w g mk ts e
def TV (s:St) (a:Act) (w:World) (g:Gh) (mk:Nat->aF) (t:T) (v:Value):Prop:=
 match t with
 | .clo f ts=> ∃d,v= .func (.func f) #[] d.toArray/\oJ s a w g mk ts d
 |t=>TV0 s a w g mk t v
def Fa (w:World) (g:Gh) (n:Nat) (b:Bx):Prop:=
 ∃cur d,w.heap[g.at_ n]? =some (.cells cur d (0,0))/\g.own (g.at_ n)=some (.box n)/\(∀o,¬g.F (g.at_ n) o)/\aC w g (.cell n) 0 (b.cells.map (·.1)) cur.toList
structure Base (w0:World) (F0:Fz) (X:Nat->Prop) (w:World) (g:Gh):Prop where
 os:w.os=w0.os
 tape:w.tape=w0.tape
 output:w.output=w0.output
 size:w0.heap.size<=w.heap.size
 blk: ∀b,b<w0.heap.size-> ¬X b->w.heap[b]? =w0.heap[b]?
 own: ∀b ow,g.own b=some ow->(X b\/w0.heap.size<=b)/\b<w.heap.size
 keeps:Keeps w0 w F0 g.F
 fz: ∀b o,g.F b o->(F0 b o\/X b\/w0.heap.size<=b)/\b<w.heap.size
 frz: ∀b ow cs t f,g.own b=some ow->w.heap[b]? =some (.cells cs t f)->f=(0,0)
structure Ctx where
 w0:World
 F0:Fz
 X:Nat->Prop
 par:Nat->Option Value
 kept:Nat->Nat->Option Value
def KeptAt (s:St) (a:Act) (w:World) (g:Gh) (n j:Nat) (v:Value):Prop:= ∀cs,aV s ⟨.box n,0,[0],j,none⟩ 1=some cs->(aB a w g (.box n))[j]? =some v
def DOk (E:Env) (d:Nat):Prop:=E.fix d=false/\d<E.nt
structure Rel (E:Env) (C:Ctx) (s:St) (a:Act) (w:World) (g:Gh):Prop where
 tm: ∀n,TV s a w g (.tm n) (s.tm n).1 (a.eval (.tmp n))
 bx: ∀n b,s.bx n=some b->Fa w g n b
 size:a.tmps.size=E.nt
 defers:a.defers= []
 glob: ∀gl cs,E.glob gl=some cs->bI cs=true/\ ∃vs,PS w g.F ⟨gl,0,none⟩ vs/\aC w g .hand 0 cs vs
 base:Base C.w0 C.F0 C.X w g
 par: ∀n v,C.par n=some v->E.fix n=true->a.eval (.tmp n)=v
 aux: ∀n j v,C.kept n j=some v->(n,j)∈E.kept/\KeptAt s a w g n j v
theorem bF {α:Type} (f:Nat->α) (n:Nat) (v:α):put f n v n=v:=by simp[put]
theorem bJ {α:Type} (f:Nat->α) (n:Nat) (v:α) {m:Nat} (h:m≠n):put f n v m=f m:=by
 have:Nat.beq m n=false:=by
  rw[←ab6];intro d;exact h (aao d)
 simp[put,this]
theorem eval_put_same (a:Act) (d:Nat) (v:Value) (h:d<a.tmps.size):(a.put (some d) v).eval (.tmp d)=v:=by
 simp[Act.put,Act.eval,h]
theorem yY (a:Act) (d:Nat) (v:Value) {n:Nat} (h:n≠d):(a.put (some d) v).eval (.tmp n)=a.eval (.tmp n):=by
 simp only[Act.put,Act.eval,abj,Array.getElem?_setIfInBounds];rw[if_neg (λ e=>h e.symm)]
theorem size_put (a:Act) (d:Option Tmp) (v:Value):(a.put d v).tmps.size=a.tmps.size:=by cases d<;>simp[Act.put]
theorem Xw (a:Act) (d:Option Tmp) (v:Value):(a.put d v).defers=a.defers:=by cases d<;>rfl
theorem IY {d:CV} {cs:LC} (h: [d].map CV.sh=cs.map CV.sh): ∃c,cs= [c]/\d.sh=c.sh:=by
 match cs,h with
 | [],h=>simp at h
 | [c],h=>exact⟨c,rfl,by simpa using h⟩
 |_::_::_,h=>simp at h
structure Fe (s s':St) (a a':Act) (w w':World) (g g':Gh) (r:Root):Prop where
 old: ∀p,p.root=r->Old s p->Old s' p
 cells: ∀p m cs',p.root=r->Old s p->p.vers.length=m->aV s' p m=some cs'->
  ∃cs,aV s p m=some cs/\cs'.map CV.sh=cs.map CV.sh/\((aB a' w' g' r).drop p.cell).take m=((aB a w g r).drop p.cell).take m
 at_: ∀n b' p,r= .box n->s'.bx n=some b'->p.root=r->Old s p->b'.inst=p.inst-> ∃b,s.bx n=some b/\b.inst=p.inst/\g'.at_ n=g.at_ n
 rows: ∀p es l',p.root=r->Old s p->p.vers.length=1->aV s' p 1=some [⟨.dl es,.own,l'⟩]-> ∃l,aV s p 1=some [⟨.dl es,.own,l⟩]/\
  ∀b len k,(aB a w g r)[p.cell]? =some (.slice (some ⟨b,0,none⟩) len k)->w'.heap[b]? =w.heap[b]?
theorem nZ {α:Type} {l d:List α} {c:Nat} (h:(l.drop c).take 1=(d.drop c).take 1):l[c]? =d[c]? :=by
 have:=congrArg (λ x=>x[0]?) h;simpa [aan,aas]using this
section
variable {s s':St} {a a':Act} {w w':World} {g g':Gh} {K:aF->Prop} {mk:Nat->aF}
theorem KeptAt.step {n j:Nat} {v:Value} (f:Fe s s' a a' w w' g g' (.box n)) (h:KeptAt s a w g n j v):KeptAt s' a' w' g' n j v:=λ cs k=>by
 obtain⟨d,l,_,hv⟩:=f.cells ⟨.box n,0,[0],j,none⟩ 1 cs rfl ⟨abH _,λ _ _ _ _ _ i x c u e _=>by
  cases i with
  |zero=>simp at e;omega
  |succ i=>simp at e⟩ rfl k
 exact(nZ hv).trans (h d l)
theorem mD.fr (f:Fr K w w' g g') (d: ∀i,K (mk i)): ∀(ts:List (Bool×LC)) (i:Nat) (k:LV),mD w g mk i ts k->mD w' g' mk i ts k
 | [],_,_,h=>h
 |(ag,cs)::ts,i,_,⟨v,l,e,⟨m,p⟩,h⟩=>⟨v,l,e,⟨m,aC.fr f cs i _ d p⟩,mD.fr f d ts _ l h⟩
theorem Rt.step {p:Pl} (e:Fe s s' a a' w w' g g' p.root) (m:Old s p) (hv:p.vers.length=1) {q:List Sh->Nat->Nat->LV->Prop} (h:Rt s a w g p q):Rt s' a' w' g' p q:=by
 obtain⟨i,j,hs,h⟩:=h;refine⟨i,j,hs,λ es v t=> ?_⟩;obtain⟨l,y,z⟩:=e.rows p es v rfl m hv t;obtain⟨_,_,_,d⟩:=e.cells p 1 _ rfl m hv t;obtain⟨b,len,k,cur,A,f,u,B,C,D⟩:=h es l y;exact⟨b,len,k,cur,A,f,(nZ d).trans u,B,(z b len k u).trans C,D⟩
theorem TV0.step (f:Fr K w w' g g') (N: ∀i,K (mk i)) (B: ∀r,Fe s s' a a' w w' g g' r) {t:T} {v:Value} (h:TV0 s a w g mk t v):TV0 s' a' w' g' mk t v:=by
 cases t with
 |dead=>trivial
 |undef=>exact h
 |nilc=>exact h
 |val ag cs=>exact⟨h.1,aC.fr f cs 0 _ N h.2⟩
 |ref p ag m=>
  obtain⟨y,hv,hs,h⟩:=h;refine⟨(B p.root).old p rfl y,hv,hs,λ R C=> ?_⟩;obtain⟨cs,L,_,d⟩:=(B p.root).cells p m R rfl y hv C;obtain⟨E,G⟩:=h cs L;exact⟨E,G.trans d.symm⟩
 |rsub p z lo hi=>
  obtain⟨y,hv,hs,hz,h⟩:=h;refine⟨(B p.root).old p rfl y,hv,hs,hz,λ S C=> ?_⟩;obtain⟨cs,L,D,d⟩:=(B p.root).cells p 1 [S] rfl y hv C;obtain⟨c,rfl,M⟩:=IY D;obtain⟨A,l,k,e,E,G,O,U⟩:=h c L;exact⟨A,l,k,(nZ d).trans e,E,G,O,by rw[M];exact U⟩
 |addr p=>
  obtain⟨y,h⟩:=h;refine⟨(B p.root).old p rfl y,?_⟩
  cases I:p.sub with
  |none=>
   rw[I]at h;obtain⟨n,hn,h⟩:=h;refine⟨n,hn,λ b' W hi=> ?_⟩;obtain⟨b,hb,Y,Z⟩:=(B p.root).at_ n b' p hn W rfl y hi;rw[Z];exact h b hb Y
  |some ij=>
   obtain⟨i,j⟩:=ij;rw[I]at h;obtain⟨hv,h⟩:=h;refine⟨hv,λ S C=> ?_⟩;obtain⟨cs,L,D,d⟩:=(B p.root).cells p 1 [S] rfl y hv C;obtain⟨c,rfl,M⟩:=IY D;obtain⟨b,l,k,e,E,G⟩:=h c L;exact⟨b,l,k,(nZ d).trans e,E,by rw[M];exact G⟩
 |rowr p ag m=>
  obtain⟨y,hv,h⟩:=h;exact⟨(B p.root).old p rfl y,hv,h.step (B p.root) y hv⟩
 |addr2 p k q=>
  obtain⟨y,hv,h⟩:=h;exact⟨(B p.root).old p rfl y,hv,h.step (B p.root) y hv⟩
 |paddr cs off=>
  obtain⟨ad,Q,e,E,G,O⟩:=h;exact⟨ad,Q,e,E.keeps f.keeps,G,aC.fr f cs 0 Q N O⟩
 |tup ts=>
  obtain⟨Q,e,h⟩:=h;exact⟨Q,e,mD.fr f N ts 0 Q h⟩
 |fn f=>exact h
 |clo f ts=>exact h.elim
 |ext p q c=>
  obtain⟨y,hv,hs,E,G,O,U,h5,h6⟩:=h;refine⟨(B p.root).old p rfl y,hv,hs,E,G.fr f (N 0),O,U,h5,λ e' he=> ?_⟩;obtain⟨cs,L,D,d⟩:=(B p.root).cells p 1 [e'] rfl y hv he;obtain⟨e,rfl,_⟩:=IY D;obtain⟨u,hu,hx⟩:=h6 e L;exact⟨u,(nZ d).trans hu,hx.fr f (N 1)⟩
theorem oJ.step (f:Fr K w w' g g') (d: ∀i,K (mk i)) (k: ∀r,Fe s s' a a' w w' g g' r): ∀(ts:List T) (l:LV),oJ s a w g mk ts l->oJ s' a' w' g' mk ts l
 | [],_,h=>h
 |t::ts,_,⟨v,m,e,p,q,h⟩=>⟨v,m,e,p,TV0.step f d k q,oJ.step f d k ts m h⟩
theorem TV.step (f:Fr K w w' g g') (d: ∀i,K (mk i)) (l: ∀r,Fe s s' a a' w w' g g' r) {t:T} {v:Value} (h:TV s a w g mk t v):TV s' a' w' g' mk t v:=by
 cases t with
 |clo fn ts=>obtain⟨u,e,h⟩:=h;exact⟨u,e,oJ.step f d l ts u h⟩
 |dead=>exact TV0.step f d l (t:= .dead) (v:=v) h
 |undef=>exact TV0.step f d l (t:= .undef) h
 |nilc=>exact TV0.step f d l (t:= .nilc) (v:=v) h
 |val ag cs=>exact TV0.step f d l (t:= .val ag cs) h
 |ref p ag m=>exact TV0.step f d l (t:= .ref p ag m) h
 |rsub p z lo y=>exact TV0.step f d l (t:= .rsub p z lo y) h
 |addr p=>exact TV0.step f d l (t:= .addr p) h
 |rowr p ag m=>exact TV0.step f d l (t:= .rowr p ag m) h
 |addr2 p k q=>exact TV0.step f d l (t:= .addr2 p k q) h
 |paddr cs off=>exact TV0.step f d l (t:= .paddr cs off) h
 |tup ts=>exact TV0.step f d l (t:= .tup ts) h
 |fn A=>exact TV0.step f d l (t:= .fn A) h
 |ext p q c=>exact TV0.step f d l (t:= .ext p q c) h
theorem Fa.step {n:Nat} {b:Bx} (f:Fr K w w' g g') (k: ∀i,K (.cell n i)) (l:K (.box n)) (d:g'.at_ n=g.at_ n) (h:Fa w g n b):Fa w' g' n b:=by
 obtain⟨cur,m,p,q,t,u⟩:=h;obtain⟨v,y,z⟩:=f.own _ _ l q;exact⟨cur,m,by rw[d];exact y.trans p,by rw[d];exact v,λ o e=>t o (z o (by rw[d]at e;exact e)),aC.fr f _ 0 _ k u⟩
end
theorem aC.vY {w w':World} {g g':Gh} (k:Keeps w w' g.F g'.F) {mk mk':Nat->aF}: ∀(cs:LC) (i j:Nat) (f:LV),bI cs=true->aC w g mk i cs f->aC w' g' mk' j cs f
 | [],_,_,_,_,h=>h
 |c::cs,i,j,_,d,⟨v,l,e,m,h⟩=>by
  simp only[bI,acS,aae]at d;exact⟨v,l,e,m.pure k d.1,aC.vY k cs (i+1) (j+1) l d.2 h⟩
theorem qy {α β:Type} (f:α->β) (l:List α) (a b:Nat):((l.map f).drop a).take b=((l.drop a).take b).map f:=by
 simp[acw,acv]
theorem nN (cs:LC) (v:Nat):(cs.map λ c=>(c,v)).map (·.1)=cs:=by
 rw[abM];exact List.map_id cs
theorem E8: ∀(d e:List Nat),F5 d e=true ↔ ∀(i x:Nat),d[i]? =some x->e[i]? =some x
 | [],e=>by simp[F5]
 |v::d,[]=>by
  simp only[F5,abf,false_iff];intro h;have:=h 0 v rfl;simp at this
 |v::d,w::e=>by
  simp only[F5,aae,E8 d e];constructor
  ·rintro⟨g,k⟩ i x f
   cases i with
   |zero=>simp at f ⊢;rw[←f];exact(aao g).symm
   |succ i=>simpa using k i x (by simpa using f)
  ·intro h;refine⟨?_,λ i x f=> ?_⟩
   ·have:=h 0 v rfl;simp at this;rw[this];exact acG v
   ·have:=h (i+1) x (by simpa using f);simpa using this
theorem bM {s:St} {p:Pl} {n:Nat} {cs:LC}:aV s p n=some cs ↔ ∃cells,aA s p.root=some (p.inst,cells)/\p.cell+n<=cells.length/\
 (∀(i x:Nat),p.vers[i]? =some x->(cells[p.cell+i]?).map (·.2)=some x)/\cs=((cells.drop p.cell).take n).map (·.1):=by
 unfold aV
 cases h:aA s p.root with
 |none=>simp
 |some u=>
  obtain⟨inst,cells⟩:=u
  have d:(Nat.beq inst p.inst&&Nat.ble (p.cell+n) cells.length&&F5 p.vers ((cells.drop p.cell).map (·.2)))=true ↔
   inst=p.inst/\p.cell+n<=cells.length/\ ∀(i x:Nat),p.vers[i]? =some x->(cells[p.cell+i]?).map (·.2)=some x:=by
   rw[aae,aae,E8];constructor
   ·rintro⟨⟨k,f⟩,g⟩;exact⟨aao k,abl f,λ i x l=>by have:=g i x l;simpa [aas]using this⟩
   ·rintro⟨k,f,g⟩;exact⟨⟨by rw[k];exact acG _,Nat.ble_eq_true_of_le f⟩,λ i x l=>by simpa [aas]using g i x l⟩
  simp only[];cases q:(Nat.beq inst p.inst&&Nat.ble (p.cell+n) cells.length&&F5 p.vers ((cells.drop p.cell).map (·.2)))with
  |false=>
   simp only[cond_false];constructor
   ·intro h;cases h
   ·rintro⟨m,e,f,g,t⟩;cases e;have:=d.2 ⟨rfl,f,g⟩;rw[q]at this;cases this
  |true=>
   obtain⟨k,f,g⟩:=d.1 q;simp only[cond_true,aag];constructor
   ·intro h;exact⟨cells,by rw[k],f,g,h.symm⟩
   ·rintro⟨m,e,_,_,t⟩;cases e;exact t.symm
def dO:Root->Nat->aF
 | .tmp n=> .tm n
 | .box n=> .cell n
theorem xq (r:Root): ∀i j,dO r i=dO r j->i=j:=by cases r<;>simp[dO]
section
variable {E:Env} {C:Ctx} {s s':St} {a a':Act} {w w':World} {g g':Gh} {K:aF->Prop}
theorem aC.sub {mk:Nat->aF} {cs:LC} {i:Nat} {e:LV} (h:aC w g mk i cs e) (k m:Nat):aC w g mk (i+k) ((cs.drop k).take m) ((e.drop k).take m):=by
 refine aC.of _ _ _ (by simp[h.length]) λ j c v d hv=> ?_;simp only[aan,aas]at d hv;split at d
 ·rename_i f;rw[if_pos f]at hv;obtain⟨u,l,p⟩:=h.get cs i e (k+j) c d;rw[l]at hv;cases hv
  rwa [show i+k+j=i+(k+j) by omega]
 ·cases d
theorem Rel.root (h:Rel E C s a w g) {r:Root} {inst:Nat} {cells:List (CV×Nat)} (d:aA s r=some (inst,cells)):aC w g (dO r) 0 (cells.map (·.1)) (aB a w g r):=by
 cases r with
 |tmp n=>
  simp only[aA]at d;split at d
  ·rename_i ag cs v e;cases d;have:=h.tm n;rw[e]at this;simp only[aB,dO,nN];exact this.2
  ·cases d
 |box n=>
  simp only[aA]at d;split at d
  ·rename_i b e;cases d;obtain⟨cur,k,f,_,_,i⟩:=h.bx n b e;simp only[aB,f,dO];exact i
  ·cases d
theorem Rel.pl (h:Rel E C s a w g) {p:Pl} {m:Nat} {cs:LC} (d:aV s p m=some cs):aC w g (dO p.root) p.cell cs (((aB a w g p.root).drop p.cell).take m)/\cs.length=m:=by
 rw[bM]at d;obtain⟨cells,e,f,_,rfl⟩:=d;have:=(h.root e).sub p.cell m;rw[aa2]at this;rw[←qy];exact⟨this,Δ⟩
theorem jF (r:Root) (i j:Nat):dO r i≠ .hand j:=by cases r<;>simp[dO]
theorem Rel.afE (h:Rel E C s a w g) {p:Pl} {es:List Sh} {l:List (Option (ElA es))} (f:aV s p 1=some [⟨.dl es,.own,l⟩]) {b len k:Nat}
 (hv:(aB a w g p.root)[p.cell]? =some (.slice (some ⟨b,0,none⟩) len k)):g.own b=some (dO p.root p.cell):=by
 obtain⟨i,_⟩:=h.pl f;obtain⟨v,t,e,d,_⟩:=i
 have m:v= .slice (some ⟨b,0,none⟩) len k:=by
  have:=congrArg (λ l=>l[0]?) e;simp only[aan,aas,aa0]at this;simp at this;rw[hv]at this;exact(aak this).symm
 subst m;simp only[jZ,Sh.qR,if_true]at d;rcases d with⟨d,_⟩|⟨u,c,cur,y,d,_,_,q,_⟩
 ·cases d
 ·cases d;exact q
theorem Rel.xA (h:Rel E C s a w g) (f:Fr K w w' g g') {p:Pl} (d:K (dO p.root p.cell)) {es:List Sh} {l:List (Option (ElA es))} (e:aV s p 1=some [⟨.dl es,.own,l⟩]) {b len k:Nat}
 (hv:(aB a w g p.root)[p.cell]? =some (.slice (some ⟨b,0,none⟩) len k)):w'.heap[b]? =w.heap[b]? :=(f.own _ _ d (h.afE e hv)).2.1
theorem Rel.gen (h:Rel E C s a w g) (f:Fr K w w' g g') (D:Base C.w0 C.F0 C.X w' g') (z: ∀r,Fe s s' a a' w w' g g' r)
 (k:a'.tmps.size=a.tmps.size) (l:a'.defers=a.defers)
 (m: ∀n,((∀i,K (.tm n i))/\(s'.tm n).1=(s.tm n).1/\a'.eval (.tmp n)=a.eval (.tmp n))\/TV s' a' w' g' (.tm n) (s'.tm n).1 (a'.eval (.tmp n)))
 (p: ∀n b,s'.bx n=some b->(s.bx n=some b/\(∀i,K (.cell n i))/\K (.box n)/\g'.at_ n=g.at_ n)\/Fa w' g' n b) (e: ∀n,E.fix n=true->a'.eval (.tmp n)=a.eval (.tmp n):=by intro n _;rfl):Rel E C s' a' w' g':=by
 refine⟨λ n=> ?_,λ n b G=> ?_,k.trans h.size,l.trans h.defers,λ I cs L=> ?_,D,λ n v hv A=>(e n A).trans (h.par n v hv A),λ n j v hv=>⟨(h.aux n j v hv).1,(h.aux n j v hv).2.step (z _)⟩⟩
 ·rcases m n with⟨q,t,hv⟩|t
  ·rw[t,hv];exact TV.step f q z (h.tm n)
  ·exact t
 ·rcases p n b G with⟨d,q,u,y⟩|d
  ·exact Fa.step f q u y (h.bx n b d)
  ·exact d
 ·obtain⟨d,B,M,N⟩:=h.glob I cs L;exact⟨d,B,M.keeps f.keeps,aC.vY f.keeps cs 0 0 B d N⟩
theorem Fe.same {r:Root} (v:rP s' r=rP s r) (y:aA s' r=aA s r) (q: ∀n,r= .box n->s'.bx n=s.bx n/\((s.bx n).isSome=true->g'.at_ n=g.at_ n))
 (hv:(aA s r).isSome=true->aB a' w' g' r=aB a w g r)
 (z: ∀p es l,p.root=r->aV s p 1=some [⟨.dl es,.own,l⟩]-> ∀b len k,(aB a w g r)[p.cell]? =some (.slice (some ⟨b,0,none⟩) len k)->w'.heap[b]? =w.heap[b]?):Fe s s' a a' w w' g g' r:=by
 have t: ∀p m f,p.root=r->aV s' p m=some f->aV s p m=some f:=by
  intro p m f d h;rw[bM]at h ⊢;rw[d,y]at h;rw[d];exact h
 refine⟨λ p d u=>⟨by have:=u.inst;rw[d]at this ⊢;omega,λ n b e i v=> ?_⟩,λ p m f d u _ h=>⟨f,?_,rfl,?_⟩,λ n A p B i d u v=> ?_,λ p es l d u _ h=>⟨l,t p 1 _ d h,z p es l d (t p 1 _ d h)⟩⟩
 ·have:=q n (d▸e);rw[this.1]at i;exact u.vers n b e i v
 ·rw[bM]at h ⊢;rw[d,y]at h;rw[d];exact h
 ·rw[hv];rw[bM]at h;obtain⟨cells,e,_⟩:=h;rw[d,y]at e;rw[e];rfl
 ·have:=q n B;rw[this.1]at i;exact⟨A,i,v,this.2 (by rw[i];rfl)⟩
theorem Rel.KE (h:Rel E C s a w g) (f:Fr K w w' g g') {n:Nat} (i:K (.box n)) (d:g'.at_ n=g.at_ n) (hs:(aA s (.box n)).isSome=true):aB a' w' g' (.box n)=aB a w g (.box n):=by
 simp only[aA]at hs
 cases e:s.bx n with
 |none=>rw[e]at hs;simp at hs
 |some b=>
  obtain⟨cur,m,_,k,_,_⟩:=h.bx n b e;obtain⟨_,l,_⟩:=f.own _ _ i k;simp only[aB,d,l]
theorem Rel.world (h:Rel E C s a w g) (f:Fr (λ o=> ∀i,o≠ .hand i) w w' g g') (e:Base C.w0 C.F0 C.X w' g') (d:g'.at_=g.at_):Rel E C s a w' g':=
 h.gen f e (λ r=>Fe.same rfl rfl (λ n _=>⟨rfl,λ _=>by rw[d]⟩) (λ hs=>by
  cases r with
  |tmp n=>rfl
  |box n=>exact h.KE f (λ i=>Θ) (by rw[d]) hs) (λ p es l m q b len k hv=>h.xA f (λ i=>jF _ _ _) q (by rw[m];exact hv))) rfl rfl
  (λ n=> .inl ⟨λ i j=>Θ,rfl,rfl⟩) (λ n b t=> .inl ⟨t,λ i j=>Θ,λ j=>Θ,by rw[d]⟩)
theorem Rel.LW (h:Rel E C s a w g) {d:Nat} {t:T} (f:Fr (λ o=>(∀i,o≠ .tm d i)/\ ∀i,o≠ .hand i) w w' g g') (hb:Base C.w0 C.F0 C.X w' g') (I:g'.at_=g.at_)
 (Q: ∀y u,t= .val y u-> ∃ag cs,(s.tm d).1= .val ag cs/\u.map CV.sh=cs.map CV.sh/\
  ∀(i:Nat) es L,u[i]? =some ⟨.dl es,.own,L⟩-> ∃l,cs[i]? =some ⟨.dl es,.own,l⟩/\ ∀b len k,(a.eval (.tmp d)).cells.toList[i]? =some (.slice (some ⟨b,0,none⟩) len k)->w'.heap[b]? =w.heap[b]?)
 (ht:TV (s.dW [.keep d t]) a w' g' (.tm d) t (a.eval (.tmp d))):Rel E C (s.dW [.keep d t]) a w' g':=by
 have hs:s.dW [.keep d t]= {s with tm:=put s.tm d (t,(s.tm d).2)}:=rfl;refine h.gen f hb (λ r=> ?_) rfl rfl (λ n=> ?_) (λ n b B=> .inl ⟨B,λ i=>⟨λ j=>Θ,λ j=>Θ⟩,⟨λ j=>Θ,λ j=>Θ⟩,by rw[I]⟩)
 ·rw[hs]
  cases r with
  |tmp n=>
   by_cases B:n=d
   ·subst B
    have key: ∀(p:Pl) m u,p.root= .tmp n->aV {s with tm:=put s.tm n (t,(s.tm n).2)} p m=some u-> ∃y q ag cs,t= .val y q/\(s.tm n).1= .val ag cs/\u=(q.drop p.cell).take m/\p.cell+m<=q.length/\
     aV s p m=some ((cs.drop p.cell).take m)/\q.map CV.sh=cs.map CV.sh/\ ∀(i:Nat) es L,q[i]? =some ⟨.dl es,.own,L⟩-> ∃l,cs[i]? =some ⟨.dl es,.own,l⟩/\ ∀b len k,(a.eval (.tmp n)).cells.toList[i]? =some (.slice (some ⟨b,0,none⟩) len k)->w'.heap[b]? =w.heap[b]? :=by
     intro p m u z D;rw[bM]at D;obtain⟨cells,e,Y,h2,h3⟩:=D;rw[z]at e;simp only[aA,bF]at e;split at e
     ·rename_i y q v M;simp only[aaz]at M;obtain⟨O,R⟩:=M;obtain⟨ag,cs,Z,N,S⟩:=Q y q O;have hl:q.length=cs.length:=by have:=congrArg List.length N;simpa using this
      cases e
      have A:aV s p m=some ((cs.drop p.cell).take m):=by
       rw[bM];refine⟨cs.map λ c=>(c,p.inst),?_,by simpa [←hl]using Y,λ i x hx=> ?_,by rw[←qy,nN]⟩
       ·rw[z];simp only[aA];have:s.tm n=(.val ag cs,p.inst):=by rw[←Z,←R]
        rw[this]
       ·have:=h2 i x hx;simp only[aau,Option.map_map]at this ⊢
        cases K:q[p.cell+i]? with
        |none=>rw[K]at this;simp at this
        |some c=>
         have G:p.cell+i<cs.length:=by
          rw[←hl];rcases aaG (p.cell+i) q.length with h|h
          ·exact h
          ·simp[aal h]at K
         rw[aac G];rw[K]at this;simpa using this
      refine⟨y,q,ag,cs,O,Z,?_,by simpa using Y,A,N,S⟩;rw[h3,←qy,nN]
     ·cases e
    refine⟨λ p z U=>⟨?_,λ k b e=>by rw[z]at e;cases e⟩,λ p m u z U _ D=> ?_,λ k b p e=>(by cases e),λ p es L z U hv D=> ?_⟩
    ·have:=U.inst;rw[z]at this ⊢;simp only[rP,bF]at this ⊢;exact this
    ·obtain⟨y,q,ag,cs,O,R,rfl,_,A,N,_⟩:=key p m u z D;refine⟨_,A,?_,rfl⟩;simp only[acw,acv,N]
    ·obtain⟨y,q,ag,cs,O,R,e3,a7,A,N,S⟩:=key p 1 _ z D
     have e4:q[p.cell]? =some ⟨.dl es,.own,L⟩:=by
      have:=congrArg (λ l=>l[0]?) e3;simp only[aan,aas,aa0]at this;simpa using this.symm
     obtain⟨l,W,e6⟩:=S p.cell es L e4;refine⟨l,?_,λ b len k hv=>e6 b len k hv⟩;rw[A]
     have G:p.cell<cs.length:=by
      rcases aaG p.cell cs.length with h|h
      ·exact h
      ·simp[aal h]at W
     rw[aaI G];rw[aac G]at W;rw[acI,acA,aak W]
   ·exact Fe.same (by simp only[rP,bJ _ _ _ B]) (by simp only[aA,bJ _ _ _ B]) (λ k e=>by cases e) (λ _=>rfl) (λ p es l z D b len k hv=>h.xA f ⟨λ i e=>(by rw[z]at e;cases e;exact B rfl),λ i=>jF _ _ _⟩ D (by rw[z];exact hv))
  |box n=>exact Fe.same rfl rfl (λ k e=>⟨rfl,λ _=>by rw[I]⟩) (h.KE f ⟨λ i=>Θ,λ i=>Θ⟩ (by rw[I])) (λ p es l z D b len k hv=>h.xA f ⟨λ i e=>(by rw[z]at e;cases e),λ i=>jF _ _ _⟩ D (by rw[z];exact hv))
 ·by_cases B:n=d
  ·subst B;right;have:((s.dW [.keep n t]).tm n).1=t:=by rw[hs];simp[bF]
   rw[this];exact ht
  ·left;exact⟨λ i=>⟨λ j e=>by cases e;exact B rfl,λ j=>Θ⟩,by rw[hs];simp[bJ _ _ _ B],rfl⟩
end
theorem Rel.QC {E:Env} {C:Ctx} {s:St} {a:Act} {w w':World} {g g':Gh} (h:Rel E C s a w g) (d:Nat) (t:T) (v:Value)
 (f:Fr (λ o=>(∀i,o≠ .tm d i)/\ ∀i,o≠ .hand i) w w' g g') (K:g'.at_=g.at_): ∀r,Fe s (s.dW [.tm d t]) a (a.put (some d) v) w w' g g' r:=by
 have hs:s.dW [.tm d t]= {s with tm:=put s.tm d (t,(s.tm d).2+1)}:=rfl;rw[hs];intro r
 cases r with
 |tmp n=>
  by_cases G:n=d
  ·subst G
   have key: ∀p m y,p.root= .tmp n->Old s p->aV {s with tm:=put s.tm n (t,(s.tm n).2+1)} p m=some y->False:=by
    intro p m y q z u;have I:=z.inst;rw[q]at I;simp only[rP]at I;unfold aV at u;rw[q]at u;simp only[aA,bF]at u;split at u
    ·rename_i inst cs B;split at B
     ·cases B;simp only[cond_eq_ite,aae]at u;split at u
      ·rename_i M;have:=aao M.1.1;simp_all;omega
      ·cases u
     ·cases B
    ·cases u
   refine⟨λ p q z=>⟨?_,λ k b e=>by rw[q]at e;cases e⟩,λ p m y q z _ u=>(key p m y q z u).elim,λ k b p e=>(by cases e),λ p es Q q z _ u=>(key p _ _ q z u).elim⟩;have:=z.inst;rw[q]at this ⊢;simp only[rP,bF]at this ⊢;omega
  ·have A: ∀p m,p.root= .tmp n->aV {s with tm:=put s.tm d (t,(s.tm d).2+1)} p m=aV s p m:=by
    intro p m q;unfold aV;rw[q];simp only[aA,bJ _ _ _ G]
   refine⟨λ p q z=>⟨?_,λ k b e=>by rw[q]at e;cases e⟩,λ p m y q z _ u=>⟨y,?_,rfl,?_⟩,λ k b p e=>(by cases e),λ p es l q z _ u=>⟨l,(A p 1 q).symm.trans u,λ b len k hv=>h.xA f ⟨λ i e=>(by rw[q]at e;cases e;exact G rfl),λ i=>jF _ _ _⟩ ((A p 1 q).symm.trans u) (by rw[q];exact hv)⟩⟩
   ·have:=z.inst;rw[q]at this ⊢;simp only[rP,bJ _ _ _ G]at this ⊢;exact this
   ·unfold aV at u ⊢;rw[q]at u ⊢;simp only[aA,bJ _ _ _ G]at u ⊢;exact u
   ·simp only[aB,yY _ _ _ G]
 |box n=>
  have A: ∀p m,p.root= .box n->aV {s with tm:=put s.tm d (t,(s.tm d).2+1)} p m=aV s p m:=by
   intro p m q;unfold aV;rw[q];rfl
  refine⟨λ p q z=>⟨?_,λ k b e L I=>z.vers k b e L I⟩,λ p m y q z _ u=>⟨y,?_,rfl,?_⟩,λ k b p e L q z I=>⟨b,L,I,(by rw[K])⟩,λ p es l q z _ u=>⟨l,(A p 1 q).symm.trans u,λ b len k hv=>h.xA f ⟨λ i e=>(by rw[q]at e;cases e),λ i=>jF _ _ _⟩ ((A p 1 q).symm.trans u) (by rw[q];exact hv)⟩⟩
  ·have:=z.inst;rw[q]at this ⊢;exact this
  ·unfold aV at u ⊢;rw[q]at u ⊢;exact u
  ·have: ∃b,s.bx n=some b:=by
    unfold aV at u;rw[q]at u;simp only[aA]at u
    cases D:s.bx n with
    |none=>rw[D]at u;simp at u
    |some b=>exact⟨b,rfl⟩
   obtain⟨b,D⟩:=this;obtain⟨cur,R,S,N,_,_⟩:=h.bx n b D;obtain⟨_,O,_⟩:=f.own _ _ ⟨λ i=>Θ,λ i=>Θ⟩ N;simp only[aB,K,O]
theorem ae3 (a:Act) (d:Nat):a.put (some d) (a.eval (.tmp d))=a:=by
 have:a.tmps.setIfInBounds d (a.eval (.tmp d))=a.tmps:=by
  apply Array.ext_getElem?;intro i;simp only[Array.getElem?_setIfInBounds,Act.eval,abj];split
  ·rename_i e;subst e;by_cases h:d<a.tmps.size
   ·simp[h]
   ·simp[h]
  ·rfl
 show{a with tmps:=a.tmps.setIfInBounds d _}=a;rw[this]
theorem Rel.afz {E:Env} {C:Ctx} {s:St} {a:Act} {w w':World} {g g':Gh} (h:Rel E C s a w g) {d:Nat} {t:T} (f:Fr (λ o=>(∀i,o≠ .tm d i)/\ ∀i,o≠ .hand i) w w' g g') (p:Base C.w0 C.F0 C.X w' g') (k:g'.at_=g.at_)
 (q:TV (s.dW [.tm d t]) a w' g' (.tm d) t (a.eval (.tmp d))):Rel E C (s.dW [.tm d t]) a w' g':=by
 have m:=h.QC d t (a.eval (.tmp d)) f k;rw[ae3]at m;refine h.gen f p m rfl rfl (λ n=> ?_) (λ n b l=> .inl ⟨l,λ i=>⟨λ j=>Θ,λ j=>Θ⟩,⟨λ j=>Θ,λ j=>Θ⟩,by rw[k]⟩);have hs:s.dW [.tm d t]= {s with tm:=put s.tm d (t,(s.tm d).2+1)}:=rfl;by_cases l:n=d
 ·subst l;right;have:((s.dW [.tm n t]).tm n).1=t:=by rw[hs];simp[bF]
  rw[this];exact q
 ·left;exact⟨λ i=>⟨λ j e=>by cases e;exact l rfl,λ j=>Θ⟩,by rw[hs];simp[bJ _ _ _ l],rfl⟩
theorem Rel.VL {E:Env} {C:Ctx} {s:St} {a:Act} {w w':World} {g g':Gh} (h:Rel E C s a w g) {d:Nat} (z:DOk E d) {t:T} {v:Value}
 (f:Fr (λ o=>(∀i,o≠ .tm d i)/\ ∀i,o≠ .hand i) w w' g g') (G:Base C.w0 C.F0 C.X w' g') (k:g'.at_=g.at_)
 (I:TV (s.dW [.tm d t]) (a.put (some d) v) w' g' (.tm d) t v):Rel E C (s.dW [.tm d t]) (a.put (some d) v) w' g':=by
 have hs:s.dW [.tm d t]= {s with tm:=put s.tm d (t,(s.tm d).2+1)}:=rfl;have p:d<a.tmps.size:=by rw[h.size];exact z.2
 have A:=h.QC d t v f k
 refine⟨λ n=> ?_,λ n b q=> ?_,by rw[size_put];exact h.size,by rw[Xw];exact h.defers,λ K cs L=> ?_,G,λ n u l y=>by
  rw[yY _ _ _ (λ e=>by rw[e,z.1]at y;cases y)];exact h.par n u l y,λ n j u l=>⟨(h.aux n j u l).1,(h.aux n j u l).2.step (A _)⟩⟩
 ·by_cases m:n=d
  ·subst m;rw[eval_put_same _ _ _ p];have:((s.dW [.tm n t]).tm n).1=t:=by rw[hs];simp[bF]
   rw[this];exact I
  ·rw[yY _ _ _ m];have:((s.dW [.tm d t]).tm n).1=(s.tm n).1:=by rw[hs];simp[bJ _ _ _ m]
   rw[this];exact TV.step f (λ i=>⟨λ j e=>by cases e;exact m rfl,λ j=>Θ⟩) A (h.tm n)
 ·exact Fa.step f (λ i=>⟨λ j=>Θ,λ j=>Θ⟩) ⟨λ j=>Θ,λ j=>Θ⟩ (by rw[k]) (h.bx n b q)
 ·obtain⟨B,D,M,N⟩:=h.glob K cs L;exact⟨B,D,M.keeps f.keeps,aC.vY f.keeps cs 0 0 D B N⟩
section
variable {E:Env} {C:Ctx} {s s':St} {a a':Act} {w w':World} {g g':Gh}
theorem QZ {α:Type} {l d:List α} {c m:Nat} (h: ∀i,i<m->l[c+i]? =d[c+i]?):(l.drop c).take m=(d.drop c).take m:=by
 apply aaZ;intro i;simp only[aan,aas];split
 ·rename_i e;exact h i e
 ·rfl
theorem Rel.ahe (h:Rel E C s a w g) {n:Nat} {A:Bx} (f:Fr (λ o=>(∀i,o≠ .cell n i)/\o≠ .box n/\ ∀i,o≠ .hand i) w w' g g') (hb:Base C.w0 C.F0 C.X w' g') (S: ∀m,m≠n->g'.at_ m=g.at_ m)
 (hk:rP s (.box n)<A.inst\/ ∃b,s.bx n=some b/\A.inst=b.inst/\A.cells.length=b.cells.length/\g'.at_ n=g.at_ n/\
  ∀(i:Nat) (c:CV) (v:Nat),b.cells[i]? =some (c,v)-> ∃(u:CV) (v':Nat),A.cells[i]? =some (u,v')/\u.sh=c.sh/\v<=v'/\(v'=v->(aB a w' g' (.box n))[i]? =(aB a w g (.box n))[i]? /\
   ∀es N,u=⟨.dl es,.own,N⟩-> ∃l,c=⟨.dl es,.own,l⟩/\ ∀K len k,(aB a w g (.box n))[i]? =some (.slice (some ⟨K,0,none⟩) len k)->w'.heap[K]? =w.heap[K]?))
 (hr:Fa w' g' n A):Rel E C (s.dW [.bx n A]) a w' g':=by
 have hs:s.dW [.bx n A]= {s with bx:=put s.bx n (some A)}:=rfl;refine h.gen f hb (λ r=> ?_) rfl rfl (λ m=> .inl ⟨λ i=>⟨λ j=>Θ,Θ,λ j=>Θ⟩,by rw[hs],rfl⟩) (λ m b z=> ?_)
 ·rw[hs]
  cases r with
  |tmp m=>exact Fe.same rfl rfl (λ k e=>by cases e) (λ _=>rfl) (λ p es l d G b len k hv=>h.xA f ⟨λ i=>by rw[d];simp[dO],by rw[d];simp[dO],λ i=>jF _ _ _⟩ G (by rw[d];exact hv))
  |box m=>
   by_cases z:m=n
   ·subst z;rcases hk with hk|⟨b,L,hi,hl,a1,G⟩
    ·refine⟨λ p d y=>⟨?_,λ k b1 e I U=> ?_⟩,λ p k B d y _ G=> ?_,λ k b1 p e I d y U=> ?_,λ p es N d y _ G=> ?_⟩
     ·have:=y.inst;rw[d]at this ⊢;simp only[rP,bF]at hk this ⊢;omega
     ·exfalso;rw[d]at e;cases e;simp only[bF,aag]at I;subst I;have:=y.inst;rw[d]at this;omega
     ·exfalso;rw[bM]at G;obtain⟨cells,e,_⟩:=G;rw[d]at e;simp only[aA,bF,aag,aaz]at e;have:=y.inst;rw[d]at this;omega
     ·exfalso;cases e;simp only[bF,aag]at I;subst I;have:=y.inst;rw[d]at this;omega
     ·exfalso;rw[bM]at G;obtain⟨cells,e,_⟩:=G;rw[d]at e;simp only[aA,bF,aag,aaz]at e;have:=y.inst;rw[d]at this;omega
    ·have O: ∀(p:Pl) (k:Nat) B,p.root= .box m->Old s p->p.vers.length=k->aV {s with bx:=put s.bx m (some A)} p k=some B->
      ((∀i,i<k-> ∃c u v,b.cells[p.cell+i]? =some (c,v)/\A.cells[p.cell+i]? =some (u,v)/\u.sh=c.sh/\p.vers[i]? =some v/\(aB a w' g' (.box m))[p.cell+i]? =(aB a w g (.box m))[p.cell+i]? /\
        ∀es N,u=⟨.dl es,.own,N⟩-> ∃l,c=⟨.dl es,.own,l⟩/\ ∀K len k,(aB a w g (.box m))[p.cell+i]? =some (.slice (some ⟨K,0,none⟩) len k)->w'.heap[K]? =w.heap[K]?)/\
      aV s p k=some (((b.cells.drop p.cell).take k).map (·.1))/\B=((A.cells.drop p.cell).take k).map (·.1)):=by
      intro p k B d y hv D;rw[bM]at D;obtain⟨cells,e,I,U,h3⟩:=D;rw[d]at e;simp only[aA,bF]at e;simp only[aag,aaz]at e;obtain⟨e1,e2⟩:=e;subst e2
      have key: ∀i,i<k-> ∃c u v,b.cells[p.cell+i]? =some (c,v)/\A.cells[p.cell+i]? =some (u,v)/\u.sh=c.sh/\p.vers[i]? =some v/\(aB a w' g' (.box m))[p.cell+i]? =(aB a w g (.box m))[p.cell+i]? /\
       ∀es N,u=⟨.dl es,.own,N⟩-> ∃l,c=⟨.dl es,.own,l⟩/\ ∀K len k,(aB a w g (.box m))[p.cell+i]? =some (.slice (some ⟨K,0,none⟩) len k)->w'.heap[K]? =w.heap[K]? :=by
       intro i q;have t:p.cell+i<b.cells.length:=by omega
       obtain⟨u,v',h4,h5,h6,h7⟩:=G (p.cell+i) (b.cells[p.cell+i].1) (b.cells[p.cell+i].2) (by rw[aac t]);have Q:p.vers[i]? =some (p.vers[i]' Ω):=aac _;have h8:=U i _ Q;rw[h4]at h8;simp only[aaL,aag]at h8;have h9:=y.vers m b d L (by rw[←e1,hi]) i _ _ _ Q (by rw[aac t]);have a9:v'=b.cells[p.cell+i].2:=by omega
       subst a9;exact⟨_,u,_,by rw[aac t],h4,h5,by rw[Q,←h8],(h7 rfl).1,(h7 rfl).2⟩
      refine⟨key,?_,h3⟩;rw[bM];refine⟨b.cells,by rw[d];simp only[aA,L];rw[←hi,e1],Ω,λ i x Q=> ?_,rfl⟩
      have q:i<k:=by
       rw[←hv];rcases aaG i p.vers.length with h|h
       ·exact h
       ·simp[aal h]at Q
      obtain⟨c,u,v,R,_,_,W,_⟩:=key i q;rw[R];rw[Q]at W;simpa using W.symm
     refine⟨λ p d y=>⟨?_,λ k b1 e I U i x c v Q hv=> ?_⟩,λ p k B d y hv D=> ?_,λ k b1 p e I d y U=> ?_,λ p es N d y hv D=> ?_⟩
     ·have:=y.inst;rw[d]at this ⊢;simp only[rP,bF,L]at this ⊢;omega
     ·rw[d]at e;cases e;simp only[bF,aag]at I;subst I
      have t:p.cell+i<b.cells.length:=by
       rw[←hl];rcases aaG (p.cell+i) A.cells.length with h|h
       ·exact h
       ·simp[aal h]at hv
      obtain⟨u,v',h4,_,h5,_⟩:=G (p.cell+i) (b.cells[p.cell+i].1) (b.cells[p.cell+i].2) (by rw[aac t]);rw[hv]at h4;cases h4;have:=y.vers m b d L (by rw[U,hi]) i x _ _ Q (by rw[aac t]);omega
     ·obtain⟨key,Y,h3⟩:=O p k B d y hv D;have Z:=QZ (m:=k) (λ i q=>by obtain⟨_,_,_,_,_,_,_,h,_⟩:=key i q;exact h);refine⟨((b.cells.drop p.cell).take k).map (·.1),Y,?_,Z⟩
      ·rw[h3];simp only[abM];apply aaZ;intro i;simp only[aau,aan,aas];by_cases q:i<k
       ·rw[if_pos q,if_pos q];obtain⟨c,u,v,R,W,k3,_⟩:=key i q;rw[R,W];simp[k3]
       ·rw[if_neg q,if_neg q]
     ·cases e;simp only[bF,aag]at I;subst I;exact⟨b,L,by rw[←hi,U],a1⟩
     ·obtain⟨key,Y,h3⟩:=O p 1 _ d y hv D;obtain⟨c,u,v,R,W,_,_,_,k3⟩:=key 0 Ω;rw[aa0]at R W k3
      have e4:u=⟨.dl es,.own,N⟩:=by
       have:=congrArg (λ l=>l[0]?) h3;simp only[aau,aan,aas,aa0,W]at this;simpa using this.symm
      obtain⟨l,e5,e6⟩:=k3 es N e4;refine⟨l,?_,e6⟩;rw[Y]
      have t:p.cell<b.cells.length:=by
       rcases aaG p.cell b.cells.length with h|h
       ·exact h
       ·simp[aal h]at R
      rw[aaI t];rw[aac t]at R;rw[acI,acA,aak R,abo,e5];rfl
   ·refine Fe.same (by simp only[rP,bJ _ _ _ z]) (by simp only[aA,bJ _ _ _ z]) (λ k e=> ?_) ?_ ?_
    ·cases e;exact⟨bJ _ _ _ z,λ _=>S m z⟩
    ·exact h.KE f ⟨λ i=>Θ,λ e=>by cases e;exact z rfl,λ i=>Θ⟩ (S m z)
    ·exact λ p es l d G b len k hv=>h.xA f ⟨λ i e=>(by rw[d]at e;cases e;exact z rfl),by rw[d];simp[dO],λ i=>jF _ _ _⟩ G (by rw[d];exact hv)
 ·rw[hs]at z;by_cases M:m=n
  ·subst M;simp only[bF,aag]at z;subst z;exact .inr hr
  ·simp only[bJ _ _ _ M]at z;exact .inl ⟨z,λ i=>⟨λ j e=>by cases e;exact M rfl,Θ,λ j=>Θ⟩,⟨λ j=>Θ,λ e=>by cases e;exact M rfl,λ j=>Θ⟩,S m M⟩
def Gh.ren (g:Gh) (ρ:aF->aF):Gh:={g with own:=λ b=>(g.own b).map ρ}
theorem Fr.ren {K:aF->Prop} (w:World) (g:Gh) {ρ:aF->aF} (h: ∀o,K o->ρ o=o):Fr K w w g (g.ren ρ):=
 ⟨Keeps.refl _ _,λ b ow k e=>⟨by simp[Gh.ren,e,h ow k],rfl,λ _ h=>h⟩⟩
theorem Base.ren {w0:World} {F0:Fz} {X:Nat->Prop} (h:Base w0 F0 X w g) (ρ:aF->aF):Base w0 F0 X w (g.ren ρ):=
 ⟨h.os,h.tape,h.output,h.size,h.blk,λ b ow e=>by
  simp only[Gh.ren,aaK]at e;obtain⟨o,e,_⟩:=e;exact h.own b o e,h.keeps,h.fz,λ b ow cs t f e d=>by
  simp only[Gh.ren,aaK]at e;obtain⟨o,e,_⟩:=e;exact h.frz b o cs t f e d⟩
theorem wZ.ren {ρ:aF->aF} {ow:aF} {d:Bool} {sh:Sh} {x:El sh} {v:Value} (h:wZ w g ow d sh x v):wZ w (g.ren ρ) (ρ ow) d sh x v:=by
 rcases h with h|⟨b,c,cur,e,hv,f,i,k,l,hs,m,p⟩
 ·exact .inl h
 ·exact .inr ⟨b,c,cur,e,hv,f,i,by simp[Gh.ren,k],l,hs,m,p⟩
theorem Xn.ren {ρ:aF->aF} {ow:aF} {b:Nat} {d:Bool} {sh:Sh} {x:El sh} {cs:LV} (h:Xn w g ow b d sh x cs):Xn w (g.ren ρ) (ρ ow) b d sh x cs:=by
 cases sh with
 |dl es=>exact⟨h.1,jm.imp (g:=g) (g':=g.ren ρ) (ow':=ρ ow) (show Keeps w w g.F g.F from Keeps.refl _ _) (λ sh x v _=>wZ.ren) h.2⟩
 |_=>exact h
theorem zK.ren {ρ:aF->aF} {ow:aF} {d:Bool} {sh:Sh} {x:El sh} {v:Value} (h:zK w g ow d sh x v):zK w (g.ren ρ) (ρ ow) d sh x v:=by
 rcases h with h|⟨b,c,cur,e,hv,f,i,k,l,hs,m,p⟩
 ·exact .inl h
 ·exact .inr ⟨b,c,cur,e,hv,f,i,by simp[Gh.ren,k],l,hs,m.ren,p⟩
theorem UC.ren {ρ:aF->aF} {ow:aF} {sh:Sh} {x:El sh} {v:Value} (h:UC w g ow sh x v):UC w (g.ren ρ) (ρ ow) sh x v:=by
 cases sh with
 |mp k e=>
  rcases h with h|⟨b,l,d,hv,f,i,m⟩
  ·exact .inl h
  ·exact .inr ⟨b,l,d,hv,by simp[Gh.ren,f],i,m⟩
 |_=>exact h.elim
theorem jZ.ren {ρ:aF->aF} {ow:aF} {c:CV} {v:Value} (h:jZ w g ow c v):jZ w (g.ren ρ) (ρ ow) c v:=by
 unfold jZ at h ⊢;split
 ·trivial
 ·rename_i e;rw[e]at h;exact h
 ·rename_i e;rw[e]at h;simp only at h ⊢;split
  ·rename_i hs;rw[if_pos hs]at h;exact h.ren
  ·rename_i hs;rw[if_neg hs]at h;split
   ·rename_i d;rw[if_pos d]at h;exact h.ren
   ·rename_i d;rw[if_neg d]at h;exact h
 ·rename_i e;rw[e]at h;simp only at h ⊢;split
  ·rename_i hs;rw[if_pos hs]at h;exact h.ren
  ·rename_i hs;rw[if_neg hs]at h;exact h
theorem aC.ren {ρ:aF->aF} {mk mk':Nat->aF}: ∀(cs:LC) (i j:Nat) (d:LV),(∀k,k<cs.length->ρ (mk (i+k))=mk' (j+k))->aC w g mk i cs d->aC w (g.ren ρ) mk' j cs d
 | [],_,_,_,_,h=>h
 |c::cs,i,j,_,f,⟨v,l,e,m,h⟩=>⟨v,l,e,by have:=m.ren (ρ:=ρ);rw[show ρ (mk i)=mk' j from f 0 Θ]at this;exact this,
  aC.ren cs (i+1) (j+1) l (λ k p=>by have:=f (k+1) Δ;rw[show i+(k+1)=i+1+k by omega,show j+(k+1)=j+1+k by omega]at this;exact this) h⟩
theorem aC.left {mk:Nat->aF} (k:Keeps w w' g.F g'.F): ∀(cs:LC) (i:Nat) (d:LV),aC w g mk i cs d->aC w' g' mk i (cs.map CV.left) d
 | [],_,_,h=>h
 |c::cs,i,_,⟨v,f,e,l,h⟩=>⟨v,f,e,by
  unfold CV.left
  cases m:c.isPure with
  |true=>simp only[cond_true];exact l.pure k m
  |false=>simp only[cond_false];trivial,aC.left k cs (i+1) f h⟩
def Gh.freeze (g:Gh) (b m:Nat):Gh:={g with F:=λ d o=>g.F d o\/(d=b/\o<m)}
theorem cell_of_heap {b:Nat} {cur:Array Value} {d:TypeId} {f:Nat×Nat} (h:w.heap[b]? =some (.cells cur d f)) (o:Nat):w.cell? ⟨b,o,none⟩=cur[o]? :=by
 simp[World.cell?,h]
theorem lt_of_heap {b:Nat} {o:Obj} (h:w.heap[b]? =some o):b<w.heap.size:=(abz.1 h).1
theorem Base.freeze {w0:World} {F0:Fz} {X:Nat->Prop} (h:Base w0 F0 X w g) {b:Nat} {ow:aF} (e:g.own b=some ow) (m:Nat):Base w0 F0 X w (g.freeze b m):=
 ⟨h.os,h.tape,h.output,h.size,h.blk,h.own,h.keeps.trans ⟨λ _ _ d=> .inl d,λ _ _ _=>rfl⟩,λ f o d=>by
  rcases d with d|⟨rfl,_⟩
  ·exact h.fz f o d
  ·obtain⟨i,k⟩:=h.own _ _ e;exact⟨.inr i,k⟩,h.frz⟩
theorem zK.freeze {w0:World} {F0:Fz} {X:Nat->Prop} (A:Base w0 F0 X w g) {ow:aF} {q:Bool} {sh:Sh} (d:sh.qK=true) {x:El sh} {v:Value} (h:zK w g ow q sh x v):
 ∃g',Fr (λ o=>o≠ow) w w g g'/\Base w0 F0 X w g'/\g'.own=g.own/\g'.at_=g.at_/\jM w g'.F sh x v/\zK w g' ow true sh x v:=by
 rcases h with⟨hv,i⟩|⟨b,c,cur,C,hv,i,D,t,B,hs,l,u⟩
 ·refine⟨g,Fr.refl _ _ _,A,rfl,rfl,?_,.inl ⟨hv,i⟩⟩;rw[yI d];exact⟨none,0,by rw[hv,i],Ω,.inl i⟩
 ·have l:=(rC d).1 l;have k:Keeps w w g.F (g.freeze b (aP sh x*sh.n)).F:=⟨λ _ _ u=> .inl u,λ _ _ _=>rfl⟩;have m:=l.length
  have p:PS w (g.freeze b (aP sh x*sh.n)).F ⟨b,0,none⟩ (cur.toList.take (aP sh x*sh.n)):=by
   intro j y;rw[m]at y;refine⟨?_,.inr ⟨rfl,by simpa using y⟩⟩;rw[cell_of_heap B,aan,if_pos y];simp
  refine⟨g.freeze b (aP sh x*sh.n),⟨k,λ E ow' z e=>⟨e,rfl,λ o f=> ?_⟩⟩,A.freeze t _,rfl,rfl,?_,?_⟩
  ·rcases f with f|⟨rfl,_⟩
   ·exact f
   ·rw[t]at e;cases e;exact absurd rfl z
  ·rw[yI d];exact⟨_,c,hv,i,.inr ⟨_,_,rfl,rfl,p,l.keeps k⟩⟩
  ·refine .inr ⟨b,c,cur,C,hv,i,D,t,B,hs,(rC d).2 (l.keeps k),λ o=> ?_⟩;simp only[Gh.freeze,u o,true_and];constructor
   ·rintro(⟨_,h⟩|h)
    ·exact h
    ·exact h
   ·intro h;exact .inr h
theorem CJ {ow:aF} {c:CV} {v:Value} (hs:c.sh.qR=false) (d:c.sh.Kr=false) (f:c.tg≠ .dead) (h:jZ w g ow c v):jM w g.F c.sh c.x v:=by
 unfold jZ at h;split at h
 ·rename_i e;exact absurd e f
 ·exact h
 ·simpa [hs,d]using h
 ·simpa [hs]using h
theorem jZ.weak {w0:World} {F0:Fz} {X:Nat->Prop} (y:Base w0 F0 X w g) {ow:aF} {c:CV} {v:Value} {tg:Tg} (d:Tg.le tg c.tg=true) (B:c.sh.adY tg=true) (h:jZ w g ow c v):
 ∃g',Fr (λ o=>o≠ow) w w g g'/\Base w0 F0 X w g'/\g'.own=g.own/\g'.at_=g.at_/\jZ w g' ow (c.to tg) v/\jZ w g' ow (leftAs c tg) v:=by
 obtain⟨sh,z,x⟩:=c;have u:tg= .pure->z≠ .dead:=by rintro rfl;cases z<;>simp[Tg.le]at d ⊢
 have l:sh.qR=false->sh.Kr=false->z≠ .dead->jM w g.F sh x v:=λ hs G I=>CJ (c:=⟨sh,z,x⟩) hs G I h;by_cases A:sh.qK=true
 ·have m:=gu A
  cases tg with
  |dead=>exact⟨g,Fr.refl _ _ _,y,rfl,rfl,trivial,h⟩
  |pure=>
   cases z with
   |dead=>simp[Tg.le]at d
   |pure=>exact⟨g,Fr.refl _ _ _,y,rfl,rfl,h,h⟩
   |own=>
    simp only[jZ,m,if_true]at h;obtain⟨g',f,C,o',a',p,t⟩:=h.freeze y A;exact⟨g',f,C,o',a',p,by simp only[leftAs,CV.to,jZ,m,if_true];exact t⟩
   |tip=>
    simp only[jZ,m,if_true]at h;obtain⟨g',f,C,o',a',p,t⟩:=h.freeze y A;exact⟨g',f,C,o',a',p,by simp only[leftAs,jZ,m,if_true];exact t⟩
  |tip=>
   cases z with
   |dead=>simp[Tg.le]at d
   |pure=>simp[Tg.le]at d
   |tip=>exact⟨g,Fr.refl _ _ _,y,rfl,rfl,h,trivial⟩
   |own=>
    simp only[jZ,m,if_true]at h;obtain⟨g',f,C,o',a',p,t⟩:=h.freeze y A;exact⟨g',f,C,o',a',by simp only[CV.to,jZ,m,if_true];exact t,trivial⟩
  |own=>
   cases z with
   |own=>exact⟨g,Fr.refl _ _ _,y,rfl,rfl,h,trivial⟩
   |dead=>simp[Tg.le]at d
   |pure=>simp[Tg.le]at d
   |tip=>simp[Tg.le]at d
 by_cases m:sh.qR=true
 ·rcases U2 m with e|⟨es,rfl⟩
  ·exact absurd e A
  ·cases tg with
   |dead=>exact⟨g,Fr.refl _ _ _,y,rfl,rfl,trivial,h⟩
   |own=>
    cases z with
    |own=>exact⟨g,Fr.refl _ _ _,y,rfl,rfl,h,trivial⟩
    |dead=>simp[Tg.le]at d
    |pure=>simp[Tg.le]at d
    |tip=>simp[Tg.le]at d
   |pure=>simp[Sh.adY]at B
   |tip=>simp[Sh.adY]at B
 by_cases D:sh.Kr=true
 ·cases sh with
  |mp k e=>
   cases tg with
   |dead=>exact⟨g,Fr.refl _ _ _,y,rfl,rfl,trivial,h⟩
   |own=>
    cases z with
    |own=>exact⟨g,Fr.refl _ _ _,y,rfl,rfl,h,trivial⟩
    |dead=>simp[Tg.le]at d
    |pure=>simp[Tg.le]at d
    |tip=>simp[Tg.le]at d
   |pure=>simp[Sh.adY]at B
   |tip=>simp[Sh.adY]at B
  |_=>simp[Sh.Kr]at D
 ·have q:sh.Kr=false:=by simpa using D
  have i:sh.qR=false:=by simpa using m
  refine⟨g,Fr.refl _ _ _,y,rfl,rfl,?_,?_⟩
  ·cases tg with
   |dead=>trivial
   |pure=>exact l i q (u rfl)
   |own=>cases z<;>simp[Tg.le]at d;simp only[CV.to,jZ,i,q,abf,if_false];exact l i q Θ
   |tip=>cases z<;>simp[Tg.le]at d<;>(simp only[CV.to,jZ,i,abf,if_false];exact l i q Θ)
  ·cases tg with
   |dead=>trivial
   |own=>trivial
   |tip=>trivial
   |pure=>
    have E:=l i q (u rfl)
    cases z with
    |dead=>exact absurd rfl (u rfl)
    |pure=>exact E
    |own=>simp only[leftAs,CV.to,jZ,i,abf,if_false];exact E
    |tip=>simp only[leftAs,jZ,i,abf,if_false];exact E
theorem EC {w0:World} {F0:Fz} {X:Nat->Prop} {mk:Nat->aF} (d: ∀i j,mk i=mk j->i=j): ∀(cs:LC) (want:List (Sh×Tg)) (ds:LC) (i:Nat) (k:LV) (g:Gh),
 Base w0 F0 X w g->weaken cs want=some ds->aC w g mk i cs k->
 ∃g',Fr (λ o=> ∀j,i<=j->j<i+cs.length->o≠mk j) w w g g'/\Base w0 F0 X w g'/\g'.own=g.own/\g'.at_=g.at_/\aC w g' mk i ds k/\aC w g' mk i (iL cs want) k/\ds.length=cs.length/\
  ds.map CV.sh=cs.map CV.sh/\(iL cs want).map CV.sh=cs.map CV.sh
 | [],[],ds,i,k,g,m,f,h=>by
   simp only[weaken,aag]at f;subst f;exact⟨g,Fr.refl _ _ _,m,rfl,rfl,h,h,rfl,rfl,rfl⟩
 | [],_::_,ds,i,k,g,m,f,h=>by simp[weaken]at f
 |_::_,[],ds,i,k,g,m,f,h=>by simp[weaken]at f
 |c::cs,(sh,tg)::want,ds,i,k,g,m,f,⟨v,l,e,C,h⟩=>by
  simp only[weaken,cond_eq_ite,aae]at f;split at f
  ·rename_i p;obtain⟨G,t,rfl⟩:=aaK.1 f;have y:c.sh.adY tg=true:=by rw[aY8 p.1.1];exact p.2
   obtain⟨D,z,I,K,L,p1,q1⟩:=C.weak m p.1.2 y;have A: ∀j,mk (i+1+j)≠mk i:=λ j e=>by have:=d _ _ e;omega
   have M:aC w D mk (i+1) cs l:=by
    refine aC.of cs (i+1) l h.length λ j c v p hv=> ?_;obtain⟨u,N,O⟩:=h.get cs (i+1) l j c p;rw[N]at hv;cases hv;exact O.fr z (A j)
   obtain⟨g2,q,Q,R,S,p2,q2,U,W,Y⟩:=EC d cs want G (i+1) l D I t M;have E: ∀j,i+1<=j->j<i+1+cs.length->mk i≠mk j:=λ j Z _ e=>by have:=d _ _ e;omega
   refine⟨g2,(z.mono λ o B=>by simpa using B i (aaw _) Θ).trans (q.mono λ o B j Z a0=>B j Ω Δ),Q,R.trans K,S.trans L,⟨v,l,e,p1.fr q E,p2⟩,?_,by simp[U],by simp[CV.to,W],?_⟩
   ·refine⟨v,l,e,?_,q2⟩
    cases hp:c.isPure with
    |true=>simp only[cond_true];exact C.pure (z.keeps.trans q.keeps) hp
    |false=>simp only[cond_false];exact q1.fr q E
   ·simp only[iL,abo,Y,abk,and_true]
    cases c.isPure with
    |true=>rfl
    |false=>
     simp only[cond_false];cases tg<;>simp only[leftAs,CV.kill];cases c.tg<;>simp[CV.to]
  ·cases f
theorem uj {cs ds:LC} {j:Nat} (h:j+ds.length<=cs.length):(setCells cs j ds).length=cs.length:=by
 simp[setCells];omega
theorem kY {cs ds:LC} {j:Nat} (h:j+ds.length<=cs.length) (i:Nat):(setCells cs j ds)[i]? =if j<=i/\i<j+ds.length then ds[i-j]? else cs[i]? :=by
 unfold setCells;have d:min j cs.length=j:=by omega
 by_cases e:i<j
 ·rw[if_neg Ω,aaD,aax Δ,aan,if_pos e]
 ·by_cases f:i<j+ds.length
  ·rw[if_pos ⟨Ω,f⟩,aax Δ,aaB Δ];simp[d]
  ·rw[if_neg Ω,aaB Δ];simp only[aaq,aaE,d,aas];congr 1;omega
theorem aC.setCells {mk:Nat->aF} {cs ds:LC} {d us:LV} {i j:Nat} (t:j+ds.length<=cs.length) (y:us.length=ds.length) (h:aC w g mk i cs d)
 (K:aF->Prop) (f:Fr K w w' g g') (z: ∀k,k<cs.length-> ¬(j<=k/\k<j+ds.length)->K (mk (i+k))) (A:aC w' g' mk (i+j) ds us):
 aC w' g' mk i (setCells cs j ds) (d.take j++us++d.drop (j+us.length)):=by
 have B:=h.length;refine aC.of _ _ _ (by rw[uj t];simp;omega) λ k c v e hv=> ?_;rw[kY t]at e;split at e
 ·rename_i l;obtain⟨u,m,p⟩:=A.get ds (i+j) us (k-j) c e
  have:(d.take j++us++d.drop (j+us.length))[k]? =us[k-j]? :=by
   rw[aax Δ,aaB Δ];congr 1;simp;omega
  rw[this,m]at hv;cases hv
  rwa [show i+j+(k-j)=i+k by omega]at p
 ·rename_i l
  have q:k<cs.length:=by
   rcases aaG k cs.length with h|h
   ·exact h
   ·simp[aal h]at e
  obtain⟨u,m,p⟩:=h.get cs i d k c e
  have:(d.take j++us++d.drop (j+us.length))[k]? =d[k]? :=by
   by_cases C:k<j
   ·rw[aaD,aax Δ,aan,if_pos C]
   ·rw[aaB Δ];simp only[aaq,aaE,aas];congr 1;omega
  rw[this,m]at hv;cases hv;exact p.fr f (z k q l)
theorem FZ {α:Type} (d:List α) (j m:Nat):d.take j++(d.drop j).take m++d.drop (j+((d.drop j).take m).length)=d:=by
 rw[aaD]
 have:(d.drop j).take m++d.drop (j+((d.drop j).take m).length)=d.drop j:=by
  have e:d.drop (j+((d.drop j).take m).length)=(d.drop j).drop ((d.drop j).take m).length:=by rw[List.drop_drop]
  rw[e]
  conv=>rhs;rw[←abb m (d.drop j)]
  congr 1;by_cases f:m<=(d.drop j).length
  ·rw[aaE,abP f]
  ·rw[aaE,Nat.min_eq_right Ω,acV,aa3 Ω]
 rw[this,abb]
def Dh (a:Act) (w w':World) (g:Gh) (r:Root) (c:Nat) (cs ds:LC):Prop:=
 ∀(i:Nat) es d,ds[i]? =some ⟨.dl es,.own,d⟩-> ∃l,cs[i]? =some ⟨.dl es,.own,l⟩/\ ∀b len k,(aB a w g r)[c+i]? =some (.slice (some ⟨b,0,none⟩) len k)->w'.heap[b]? =w.heap[b]?
theorem Dh.of {a:Act} {w w':World} {g:Gh} {r:Root} {c:Nat} {cs ds:LC} (h: ∀d,d∈ds->d.tg= .own->d.sh.qK=true\/d.sh.qR=false):Dh a w w' g r c cs ds:=by
 intro i es f e;rcases h _ (aai e) rfl with h|h<;>simp[Sh.qK,Sh.qR]at h
theorem kK (h:Rel E C s a w g) {p:Pl} {cs ds:LC} {us:List Upd} (hc:aV s p ds.length=some cs) (t:jT s p ds false=some us) (W:ds.map CV.sh=cs.map CV.sh)
 (f:Fr (λ o=>(∀j,p.cell<=j->j<p.cell+ds.length->o≠dO p.root j)/\ ∀j,o≠ .hand j) w w' g g') (hb:Base C.w0 C.F0 C.X w' g') (u:g'.at_=g.at_)
 (B:aC w' g' (dO p.root) p.cell ds (((aB a w g p.root).drop p.cell).take ds.length)) (y:Dh a w w' g p.root p.cell cs ds):Rel E C (s.dW us) a w' g':=by
 rw[bM]at hc;obtain⟨cells,e,hl,_,rfl⟩:=hc
 have D: ∀(i:Nat) es l v,cells[i]? =some (⟨.dl es,.own,l⟩,v)-> ¬(p.cell<=i/\i<p.cell+ds.length)-> ∀b len k,(aB a w g p.root)[i]? =some (.slice (some ⟨b,0,none⟩) len k)->w'.heap[b]? =w.heap[b]? :=by
  intro i es l v d hn b len k hv
  have M:i<cells.length:=by
   rcases aaG i cells.length with h|h
   ·exact h
   ·simp[aal h]at d
  have a5:aV s ⟨p.root,p.inst,[],i,none⟩ 1=some [⟨.dl es,.own,l⟩]:=by
   rw[bM];refine⟨cells,e,M,λ j x hx=>by simp at hx,?_⟩;rw[aaI M];rw[aac M]at d;simp[aak d]
  refine h.xA f ⟨λ j S Y e=> ?_,λ j=>jF _ _ _⟩ a5 hv;have:=xq _ _ _ e;simp only at this;subst this;exact hn ⟨S,Y⟩
 unfold jT at t
 cases U:p.root with
 |tmp n=>
  rw[U]at e t f B;simp only[aA]at e;simp only[]at t;split at e
  ·rename_i ag Z v z;rw[z]at t;simp only[cond_eq_ite,abf,if_false]at t;split at t
   ·cases t;cases e;have q:p.cell+ds.length<=Z.length:=by simpa using hl
    have ht:=h.tm n;rw[z]at ht;refine h.LW (f.mono λ o I=>⟨λ j _ _=>I.1 j,I.2⟩) hb u (λ b4 b5 e=> ?_) ?_
    ·cases e;refine⟨ag,Z,by rw[z],?_,λ i es N d=> ?_⟩
     ·apply aaZ;intro i;simp only[aau,kY q];split
      ·rename_i d;have:=congrArg (λ l=>l[i-p.cell]?) W;simp only[←qy,nN,aau,aan,aas]at this;rw[if_pos Ω,show p.cell+(i-p.cell)=i by omega]at this;exact this
      ·rfl
     ·rw[kY q]at d;split at d
      ·rename_i hj;obtain⟨l,A,e2⟩:=y _ es N d;refine⟨l,?_,λ b len k hv=>e2 b len k (by rw[U,show p.cell+(i-p.cell)=i by omega];exact hv)⟩;simp only[aau,aan,aas]at A;rw[if_pos Ω,show p.cell+(i-p.cell)=i by omega]at A;simpa using A
      ·rename_i hj;exact⟨N,d,λ b len k hv=>D i es N _ (by rw[aau,d];rfl) hj b len k (by rw[U];exact hv)⟩
    ·refine⟨ht.1,?_⟩;have O:=ht.2.length;have:=aC.setCells (w':=w') (g':=g') (us:=(((a.eval (.tmp n)).cells.toList.drop p.cell).take ds.length)) q (by simp[O];omega) ht.2 _ f (λ k hk hn=>⟨λ j S Y e=>by simp[dO]at e;omega,λ j=>Θ⟩) (by rw[aa2];exact B)
     rwa [FZ]at this
   ·cases t
  ·cases e
 |box n=>
  rw[U]at e t f B;simp only[aA]at e;simp only[]at t;split at e
  ·rename_i b z;rw[z]at t;simp only[cond_eq_ite,abf,if_false]at t;split at t
   ·cases t;simp only[aag,aaz]at e;obtain⟨A,e2⟩:=e;subst e2;obtain⟨cur,et,S,Y,h3,h4⟩:=h.bx n b z;obtain⟨o1,o2,o3⟩:=f.own _ _ ⟨λ j _ _=>by simp[dO],λ j=>Θ⟩ Y;have Q:aB a w g (.box n)=cur.toList:=by simp only[aB,S]
    have q:p.cell+ds.length<=(b.cells.map (·.1)).length:=by simpa using hl
    have b2:((ds.zip (b.cells.drop p.cell)).map λ x=>((x.1,x.2.2):CV×Nat)).length=ds.length:=by simp;omega
    have K: ∀(i:Nat) (c:CV) (v:Nat),b.cells[i]? =some (c,v)->
     ∃R,(b.cells.take p.cell++(ds.zip (b.cells.drop p.cell)).map (λ x=>((x.1,x.2.2):CV×Nat))++b.cells.drop (p.cell+ds.length))[i]? =some (R,v)/\
      (setCells (b.cells.map (·.1)) p.cell ds)[i]? =some R/\R.sh=c.sh:=by
     intro i c v d
     have c1:i<b.cells.length:=by
      rcases aaG i b.cells.length with h|h
      ·exact h
      ·simp[aal h]at d
     rw[kY q];by_cases h5:i<p.cell
     ·refine⟨c,?_,by rw[if_neg Ω];simp[d],rfl⟩;rw[aaD,aax Δ,aan,if_pos h5,d]
     ·by_cases h6:i<p.cell+ds.length
      ·have y:i-p.cell<ds.length:=by omega
       refine⟨ds[i-p.cell],?_,by rw[if_pos Ω];exact aac y,?_⟩
       ·rw[aax Δ,aaB Δ];have A:i-(b.cells.take p.cell).length=i-p.cell:=by simp;omega
        have hz:(ds.zip (b.cells.drop p.cell))[i-p.cell]? =some (ds[i-p.cell],(c,v)):=
         acz.2 ⟨aac y,(by rw[aas,show p.cell+(i-p.cell)=i by omega];exact d)⟩
        rw[A,aau,hz];rfl
       ·have:=congrArg (λ l=>l[i-p.cell]?) W;simp only[abM,aau,aan,aas]at this;rw[if_pos y,show p.cell+(i-p.cell)=i by omega,d,aac y]at this;simpa using this
      ·refine⟨c,?_,by rw[if_neg Ω];simp[d],rfl⟩;rw[aaB Δ,aas];have A:p.cell+ds.length+(i-(b.cells.take p.cell++(ds.zip (b.cells.drop p.cell)).map (λ x=>((x.1,x.2.2):CV×Nat))).length)=i:=by simp;omega
       rw[A,d]
    have L:(b.cells.take p.cell++(ds.zip (b.cells.drop p.cell)).map (λ x=>((x.1,x.2.2):CV×Nat))++b.cells.drop (p.cell+ds.length)).length=b.cells.length:=by simp;omega
    have a2:(b.cells.take p.cell++(ds.zip (b.cells.drop p.cell)).map (λ x=>((x.1,x.2.2):CV×Nat))++b.cells.drop (p.cell+ds.length)).map (·.1)=setCells (b.cells.map (·.1)) p.cell ds:=by
     apply aaZ;intro i;rw[aau];rcases aaG i b.cells.length with d|d
     ·obtain⟨R,k1,G,_⟩:=K i b.cells[i].1 b.cells[i].2 (aac d);rw[k1,G];rfl
     ·rw[aal (by rw[L];exact d),aal (by rw[uj q];simpa using d)];rfl
    refine h.ahe (f.mono λ o I=>⟨λ j _ _ e=> ?_,I.2.2⟩) hb (λ m _=>by rw[u]) (.inr ⟨b,z,rfl,L,by rw[u],λ i c v d=> ?_⟩) ?_
    ·exact I.1 j (by simpa [dO]using e)
    ·obtain⟨R,k1,G,k3⟩:=K i c v d;refine⟨R,v,k1,k3,aaw _,λ _=>⟨by simp only[aB,u,o2],λ es N e=> ?_⟩⟩;rw[kY q]at G;split at G
     ·rename_i hj;rw[e]at G;obtain⟨l,A,e2⟩:=y _ es N G;refine⟨l,?_,λ b len k hv=>e2 b len k (by rw[U,show p.cell+(i-p.cell)=i by omega];exact hv)⟩;simp only[aau,aan,aas]at A;rw[if_pos Ω,show p.cell+(i-p.cell)=i by omega,d]at A;simpa using A
     ·rename_i hj;rw[aau,d]at G;have G:c=R:=by simpa using G
      subst G;exact⟨N,e,λ b len k hv=>D i es N v (by rw[d,e]) hj b len k (by rw[U];exact hv)⟩
    ·refine⟨cur,et,by rw[u];exact o2.trans S,by rw[u];exact o1,λ o I=>h3 o (o3 o (by rw[u]at I;exact I)),?_⟩;simp only[a2];rw[Q]at B;have O:=h4.length;have:=aC.setCells (w':=w') (g':=g') (us:=((cur.toList.drop p.cell).take ds.length)) q (by simp at O ⊢;omega) h4 _ f (λ k hk hn=>⟨λ j S Y e=>by simp[dO]at e;omega,λ j=>Θ⟩) (by rw[aa2];exact B)
     rwa [FZ]at this
   ·cases t
  ·cases e
def WU:Operand->Nat->aF
 | .tmp n=> .tm n
 |_=> .hand
theorem GU {α:Type} {o:Option α} {x:α} (h:(Dyn.of o).run=some x):o=some x:=by
 cases o with
 |none=>simp[Dyn.of,Dyn.run]at h
 |some y=>simpa [Dyn.of,Dyn.run]using h
theorem aS {α β:Type} {d:Dyn α} {q:α->Dyn β} {x:β} (h:(d.bind q).run=some x): ∃y,d.run=some y/\(q y).run=some x:=by
 rw[Dyn.run_bind]at h;exact aa6.1 h
theorem CO (w:World) (g:Gh) (mk:Nat->aF) {c:CV} {v:Value} (e:c.tg= .pure) (hv:isAgg v=false) (h:jM w g.F c.sh c.x v) (d:v.cells= #[v]):Fg w g mk 0 false [c] v:=
 ⟨hv,v,[],by rw[d],by unfold jZ;rw[e];exact h,rfl⟩
theorem aei (w:World) (g:Gh) (s:St) (a:Act) (mk:Nat->aF) (v:Value):(OT v= .nilc/\v= .slice none 0 0)\/TV s a w g mk (OT v) v:=by
 cases v with
 |int k n=>exact .inr (CO w g mk rfl rfl rfl rfl)
 |bool b=>exact .inr (CO w g mk rfl rfl rfl rfl)
 |string b=>exact .inr (CO w g mk rfl rfl rfl rfl)
 |slice A l c=>
  unfold OT;split
  ·rename_i h;cases h
  ·rename_i h;cases h
  ·rename_i h;cases h
  ·rename_i h;cases h;exact .inl ⟨rfl,rfl⟩
  ·exact .inr trivial
 |_=>exact .inr trivial
theorem Rel.at_ (h:Rel E C s a w g) (x:Operand):(at_ E s x= .nilc/\a.eval x= .slice none 0 0)\/TV s a w g (WU x) (at_ E s x) (a.eval x):=by
 cases x with
 |tmp n=>exact .inr (h.tm n)
 |const v=>exact aei w g s a _ v
 |global d=>
  right;simp only[Go.AM.at_]
  cases e:E.glob d with
  |none=>trivial
  |some cs=>
   obtain⟨i,k,l,m⟩:=h.glob d cs e;exact⟨⟨d,0,none⟩,k,rfl,l,i,m⟩
 |func f=>exact .inr rfl
theorem agI (cs:LC):(cs.map CV.left).map CV.sh=cs.map CV.sh:=by
 induction cs with
 |nil=>rfl
 |cons c cs d=>
  simp only[abo,d,abk,and_true];unfold CV.left;cases c.isPure<;>rfl
theorem SK (h:Rel E C s a w g) {hs:LC} {hv:LV} (B:aC w g .hand 0 hs hv) {p:Pl} {m:Nat} {cs:LC} {us:List Upd} (A:aV s p m=some cs)
 (D:jT s p (cs.map CV.left) false=some us):
 ∃g',Rel E C (s.dW us) a w g'/\aC w g' .hand 0 (hs++cs) (hv++((aB a w g p.root).drop p.cell).take m)/\g'.at_=g.at_/\Keeps w w g.F g'.F:=by
 obtain⟨u,y⟩:=h.pl A
 let ρ:aF->aF:=λ o=>match p.root,o with
  | .tmp n,.tm k j=>if k=n/\p.cell<=j/\j<p.cell+m then .hand (hs.length+(j-p.cell))else o
  | .box n,.cell k j=>if k=n/\p.cell<=j/\j<p.cell+m then .hand (hs.length+(j-p.cell))else o
  |_,o=>o
 have l: ∀o,(∀j,p.cell<=j->j<p.cell+(cs.map CV.left).length->o≠dO p.root j)->ρ o=o:=by
  intro o v;simp only[aaH,y]at v;simp only[ρ]
  cases z:p.root with
  |tmp n=>
   cases o<;>simp only;rename_i k j;split
   ·rename_i f;exact absurd (by rw[z,f.1];rfl) (v j f.2.1 f.2.2)
   ·rfl
  |box n=>
   cases o<;>simp only;rename_i k j;split
   ·rename_i f;exact absurd (by rw[z,f.1];rfl) (v j f.2.1 f.2.2)
   ·rfl
 have q: ∀i,ρ (.hand i)= .hand i:=λ i=>l _ (λ j _ _=>by cases p.root<;>simp[dO])
 have t: ∀k,k<m->ρ (dO p.root (p.cell+k))= .hand (hs.length+k):=by
  intro k f;simp only[ρ]
  cases z:p.root with
  |tmp n=>simp only[dO];rw[if_pos ⟨trivial,Ω,Ω⟩];congr 1;omega
  |box n=>simp only[dO];rw[if_pos ⟨trivial,Ω,Ω⟩];congr 1;omega
 refine⟨g.ren ρ,?_,?_,rfl,Keeps.refl _ _⟩
 ·refine kK h (ds:=cs.map CV.left) (by simpa [y]using A) D (agI cs) (Fr.ren w g λ o v=>l o v.1) (h.base.ren ρ) rfl ?_ ?_;have:=aC.left (w':=w) (g':=g.ren ρ) (mk:=dO p.root) (Keeps.refl w g.F) cs p.cell _ u;simpa [y]using this;refine Dh.of λ d G=> ?_;obtain⟨c,_,rfl⟩:=aaC.1 G;intro e;unfold CV.left at e
  cases u:c.isPure with
  |true=>
   rw[u]at e;have e:c.tg= .own:=e;simp[CV.isPure,Tg.isPure,e]at u
  |false=>rw[u]at e;cases e
 ·refine aC.append hs 0 hv cs _ (aC.ren hs 0 0 hv (λ k _=>by simpa using q (0+k)) B) ?_;rw[aa2];exact aC.ren cs p.cell hs.length _ (λ k f=>t k Ω) u
theorem PG (e:Bool): ∀(ds:LC) (cs:List (CV×Nat)) (j:Nat),j+ds.length<=cs.length->
 setMany cs (KT e j ds (cs.drop j))=cs.take j++((ds.zip (cs.drop j)).map λ x=>(x.1,bif e then x.2.2+1 else x.2.2))++cs.drop (j+ds.length)
 | [],cs,j,_=>by simp[KT,setMany]
 |d::ds,cs,j,h=>by
  have f:j<cs.length:=by simp at h;omega
  rw[aaI f];simp only[KT,setMany,List.zip_cons_cons,abo];have g:cs.drop (j+1)=(cs.set j (d,bif e then cs[j].2+1 else cs[j].2)).drop (j+1):=by rw[List.drop_set_of_lt Ω]
  have:=PG e ds (cs.set j (d,bif e then cs[j].2+1 else cs[j].2)) (j+1) (by simp at h ⊢;omega);rw[←g]at this;rw[this]
  have i:(cs.set j (d,bif e then cs[j].2+1 else cs[j].2)).take (j+1)=cs.take j++[(d,bif e then cs[j].2+1 else cs[j].2)]:=by
   rw[aat,List.take_set_of_le (aaw _)];simp[f]
  have k:(cs.set j (d,bif e then cs[j].2+1 else cs[j].2)).drop (j+1+ds.length)=cs.drop (j+(d::ds).length):=by
   rw[List.drop_set_of_lt Ω];congr 1;simp;omega
  rw[i,k];simp
theorem Qc {p:Pl} {ds:LC} {d:Bool} {us:List Upd} (h:jT s p ds d=some us):s.dW (Oa s p ds d us)=s.dW us:=by
 unfold jT at h;unfold Oa
 cases f:p.root with
 |tmp n=>rfl
 |box n=>
  rw[f]at h;simp only[]at h ⊢
  cases e:s.bx n with
  |none=>rw[e]at h;cases h
  |some b=>
   rw[e]at h;simp only[cond_eq_ite,aae]at h;split at h
   ·rename_i g;cases h;have i:=abl g.2;simp only[zO,e,St.dW,acD,acU,Upd.on,aaL];rw[PG d ds b.cells p.cell i];cases d<;>rfl
   ·cases h
theorem yR (cs ds:LC) (h:ds.length=cs.length):setCells cs 0 ds=ds:=by
 simp[setCells,h]
theorem Xk (h:Rel E C s a w g) {hs:LC} {hv:LV} (f:aC w g .hand 0 hs hv) {p:Pl} {m:Nat} {cs:LC} {us:List Upd} (k:p.sub=none)
 (i:aV s p m=some cs) (d:D5 s p cs=some us):
 ∃g',Rel E C (s.dW us) a w g'/\aC w g' .hand 0 (hs++cs) (hv++((aB a w g p.root).drop p.cell).take m)/\g'.at_=g.at_/\Keeps w w g.F g'.F:=by
 unfold D5 at d
 cases e:bI cs with
 |true=>
  rw[e]at d;simp only[cond_true,aag]at d;subst d;obtain⟨l,t⟩:=h.pl i;exact⟨g,h,aC.append hs 0 hv cs _ f (aC.vY (Keeps.refl _ _) cs p.cell _ _ e l),rfl,Keeps.refl _ _⟩
 |false=>
  rw[e]at d;simp only[cond_false,k,aaK]at d;obtain⟨q,d,rfl⟩:=d;rw[Qc d];exact SK h f i d
theorem lg {c:CV} {sh:Sh} {y:El sh} (h:jY c sh=some y): ∃e:c.sh=sh,y=cast (congrArg El e) c.x:=by
 unfold jY at h;split at h
 ·rename_i d;exact⟨aY8 d,(aak h).symm⟩
 ·cases h
theorem zQ {c:CV} {sh:Sh} {y:El sh} (h:jY c sh=some y) {v:Value} (d:jM w g.F c.sh c.x v):jM w g.F sh y v:=by
 obtain⟨e,rfl⟩:=lg h;obtain⟨f,i,k⟩:=c;cases e;exact d
theorem sS {ow:aF} {c:CV} {v:Value} (d:c.tg= .pure):jZ w g ow c v ↔ jM w g.F c.sh c.x v:=by
 unfold jZ;rw[d]
theorem cells_ok (mk:Nat->aF): ∀(es:List Sh) (x:ElA es) (i:Nat) (d:LV),dX w g.F es x d->aC w g mk i (cellsOf es x) d
 | [],_,_,_,h=>h
 | [s],x,i,d,h=>by
   simp only[dX]at h;obtain⟨v,e,h⟩:=h;exact⟨v,[],e,h,rfl⟩
 |s::t::ss,x,i,d,h=>by
  simp only[dX]at h;obtain⟨v,f,e,k,l⟩:=h;exact⟨v,f,e,k,cells_ok mk (t::ss) x.2 (i+1) f l⟩
theorem uK: ∀(es:List Sh) (x:ElA es),bI (cellsOf es x)=true
 | [],_=>rfl
 | [s],x=>rfl
 |s::t::ss,x=>by
  have:=uK (t::ss) x.2;simp only[bI,cellsOf,acS,aae]at this ⊢;exact⟨rfl,this⟩
theorem uY: ∀(es:List Sh) (x:ElA es),(cellsOf es x).map CV.sh=es
 | [],_=>rfl
 | [s],x=>rfl
 |s::t::ss,x=>by simp[cellsOf,uY (t::ss) x.2]
theorem uJ {cs:LC} (h:bI cs=true): ∀c,c∈cs->c.tg= .pure:=by
 intro c d;have:=aaV.1 h c d;unfold CV.isPure Tg.isPure at this;split at this<;>simp_all
theorem D7 (sh t:Sh) (ss:List Sh) (c:CV) (cs:LC):iq (sh::t::ss) (c::cs)=(match jY c sh,iq (t::ss) cs with
 |some y,some z=>some (y,z)
 |_,_=>none):=rfl
theorem aN {α:Type} {o:Option α} {x:α} (h:o=some x) (e:o=none):False:=by rw[e]at h;cases h
theorem qA {sh t:Sh} {ss:List Sh} {c:CV} {cs:LC} {x:ElA (sh::t::ss)} (h:iq (sh::t::ss) (c::cs)=some x):
 ∃y z,jY c sh=some y/\iq (t::ss) cs=some z/\x=(y,z):=by
 rw[D7]at h
 cases d:jY c sh with
 |none=>rw[d]at h;cases h
 |some y=>
  cases e:iq (t::ss) cs with
  |none=>rw[d,e]at h;cases h
  |some z=>rw[d,e]at h;exact⟨y,z,rfl,rfl,(aak h).symm⟩
theorem E5 (mk:Nat->aF): ∀(es:List Sh) (cs:LC) (x:ElA es) (i:Nat) (k:LV),iq es cs=some x->(∀c,c∈cs->c.tg= .pure)->aC w g mk i cs k->dX w g.F es x k
 | [],[],_,_,_,_,_,h=>h
 | [],_::_,_,_,_,d,_,_=>(aN d rfl).elim
 | [s],[],_,_,_,d,_,_=>(aN d rfl).elim
 | [s],[c],x,i,k,d,l,h=>by
   obtain⟨v,m,e,p,f⟩:=h;have f:m= []:=f;subst f;exact⟨v,e,zQ d ((sS (l c Θ)).1 p)⟩
 | [s],_::_::_,_,_,_,d,_,_=>(aN d rfl).elim
 |s::t::ss,[],_,_,_,d,_,_=>(aN d rfl).elim
 |s::t::ss,c::cs,x,i,k,d,l,h=>by
  obtain⟨v,m,e,p,f⟩:=h;obtain⟨y,z,q,u,rfl⟩:=qA d;exact⟨v,m,e,zQ q ((sS (l c Θ)).1 p),E5 mk (t::ss) cs z (i+1) m u (λ c A=>l c (by simp[A])) f⟩
theorem IX: ∀(es:List Sh) (cs:LC) (x:ElA es),iq es cs=some x->cs.map CV.sh=es
 | [],[],_,_=>rfl
 | [],_::_,_,d=>(aN d rfl).elim
 | [s],[],_,d=>(aN d rfl).elim
 | [s],[c],x,d=>by
   obtain⟨e,_⟩:=lg d;simp[e]
 | [s],_::_::_,_,d=>(aN d rfl).elim
 |s::t::ss,[],_,d=>(aN d rfl).elim
 |s::t::ss,c::cs,x,d=>by
  obtain⟨y,z,f,g,_⟩:=qA d;obtain⟨e,_⟩:=lg f;have:=IX (t::ss) cs z g;simp[e,this]
theorem ER: ∀(es:List Sh) (cs:LC),iq es (cs.map (·.to .pure))=iq es cs
 | [],[]=>rfl
 | [],_::_=>rfl
 | [s],[]=>rfl
 | [s],[c]=>rfl
 | [s],_::_::_=>rfl
 |s::t::ss,[]=>rfl
 |s::t::ss,c::cs=>by
  have d:=ER (t::ss) cs;have:jY (c.to .pure) s=jY c s:=rfl;rw[abo,D7,D7,this,d]
theorem Dc (mk:Nat->aF) (ss:List Sh) (t:RT (ElA ss)) (i:Nat) (d:LV) (h:qQ w g.F (dX w g.F ss) t d):aC w g mk i (uo ss t) d:=by
 cases t with
 |mk x kids=>
  unfold qQ at h;obtain⟨f,v,e,k,l⟩:=h;rw[e];exact aC.append _ i f _ _ (cells_ok mk ss x i f k) ⟨v,[],rfl,by simp only[jZ,jM];exact l,rfl⟩
theorem yh (ss:List Sh) (t:RT (ElA ss)):bI (uo ss t)=true:=by
 have:=uK ss t.a;simp only[bI,uo,acO,aae]at this ⊢;exact⟨this,rfl⟩
theorem VW (mk:Nat->aF) (ss:List Sh) (cs:LC) (t:RT (ElA ss)) (i:Nat) (m:LV) (d:xO ss cs=some t) (u: ∀c,c∈cs->c.tg= .pure) (h:aC w g mk i cs m):qQ w g.F (dX w g.F ss) t m:=by
 unfold xO at d;cases p:iq ss (cs.take ss.length)with
 |none=>rw[p]at d;cases d
 |some x=>
  rw[p]at d
  match l:cs.drop ss.length with
  | []=>rw[l]at d;cases d
  |_::_::_=>rw[l]at d;cases d
  | [k]=>
    rw[l]at d;simp only[]at d;cases f:jY k (.rsl ss)with
    |none=>rw[f]at d;cases d
    |some ks=>
     rw[f]at d;cases d
     have E:cs.length=ss.length+1:=by
      have:=congrArg List.length l;simp at this;omega
     have B:=h.length;unfold qQ;have y:=h.sub 0 ss.length;have z:=h.sub ss.length 1;simp only[abB,aa0]at y;rw[l]at z;obtain⟨v,G,e,C,A⟩:=z;simp only[List.take_nil,aC]at A;subst A;refine⟨m.take ss.length,v,?_,E5 mk ss _ x i _ p (λ c D=>u c (abr D)) y,?_⟩
     ·rw[←e];have:(m.drop ss.length).take 1=m.drop ss.length:=aaJ Δ;rw[this,abb]
     ·have q:k.tg= .pure:=u k (abD (by rw[l];simp));exact zQ f ((sS q).1 C)
theorem SV (ss:List Sh) (cs:LC):xO ss (cs.map (·.to .pure))=xO ss cs:=by
 unfold xO;rw[←acw,ER,←acv];cases iq ss (cs.take ss.length)with
 |none=>rfl
 |some x=>
  match cs.drop ss.length with
  | []=>rfl
  | [k]=>rfl
  |_::_::_=>rfl
theorem OX {w0:World} {F0:Fz} {X:Nat->Prop} {mk:Nat->aF} (q: ∀i j,mk i=mk j->i=j) {cs:LC} {i:Nat} {t:LV} (D:Base w0 F0 X w g) (p:Fh cs=true) (h:aC w g mk i cs t):
 ∃g',Fr (λ o=> ∀j,i<=j->j<i+cs.length->o≠mk j) w w g g'/\Base w0 F0 X w g'/\g'.own=g.own/\g'.at_=g.at_/\aC w g' mk i (cs.map (·.to .pure)) t:=by
 have E: ∀cs:LC,Fh cs=true->weaken cs (cs.map λ c=>(c.sh,.pure))=some (cs.map (·.to .pure)):=by
  intro cs p
  induction cs with
  |nil=>rfl
  |cons c cs d=>
   simp only[Fh,acS,aae]at p
   have u: ∀sh:Sh,Sh.beq sh sh=true:=by
    intro sh
    induction sh using Sh.rec (motive_2:=λ A=>aX0 A A=true)with
    |int k=>simp[Sh.beq]
    |bool=>rfl
    |str=>rfl
    |sl es d=>simpa [Sh.beq]using d
    |rsl es d=>simpa [Sh.beq]using d
    |dl es d=>simpa [Sh.beq]using d
    |mp k e l m=>simp[Sh.beq,l,m]
    |nil=>rfl
    |cons s ss l m=>simp[aX0,l,m]
   have v:Tg.le .pure c.tg=true:=by
    obtain⟨sh,G,x⟩:=c;cases G<;>simp_all [Tg.le]
   have y:c.sh.adY .pure=true:=by
    have B:=p.1.2;have C:=p.1.1.2;cases hs:c.sh<;>first|rfl|(rw[hs]at B C;cases B<;>cases C)
   simp only[abo,weaken,u,v,y,Bool.and_self,cond_true,d p.2,aaL]
 obtain⟨g',f,b,o,z,r,_⟩:=EC q cs _ _ i t g D (E cs p) h;exact⟨g',f,b,o,z,r⟩
theorem qF {ow:aF} {c:CV} {v:Value} (hs:c.sh.qR=true) (B:c.tg≠ .dead) (h:jZ w g ow c v):
 (∃A k,v= .slice A 0 k/\aP c.sh c.x=0)\/
 ∃(ad:Addr) (k:Nat) (cs:LV),v= .slice (some ad) (aP c.sh c.x) k/\aP c.sh c.x<=k/\ad.spot=none/\(c.sh.qK=true->wM w g.F c.sh c.x cs)/\(∀j,j<cs.length->w.cell? ⟨ad.block,ad.off+j,none⟩=cs[j]?)/\
  (c.tg≠ .own->PS w g.F ad cs)/\(c.tg≠ .pure->ad.off=0):=by
 have own: ∀l,zK w g ow l c.sh c.x v->(c.tg≠ .own->l=true)->c.tg≠ .pure->
  (∃A k,v= .slice A 0 k/\aP c.sh c.x=0)\/
  ∃(ad:Addr) (k:Nat) (cs:LV),v= .slice (some ad) (aP c.sh c.x) k/\aP c.sh c.x<=k/\ad.spot=none/\(c.sh.qK=true->wM w g.F c.sh c.x cs)/\(∀j,j<cs.length->w.cell? ⟨ad.block,ad.off+j,none⟩=cs[j]?)/\
   (c.tg≠ .own->PS w g.F ad cs)/\(c.tg≠ .pure->ad.off=0):=by
  intro l h C D;rcases h with⟨hv,p⟩|⟨b,k,cur,M,hv,p,N,O,E,G,q,I⟩
  ·exact .inl ⟨none,0,hv,p⟩
  ·have i:=q.length
   have d: ∀j,j<(cur.toList.take (aP c.sh c.x*c.sh.n)).length->w.cell? ⟨b,j,none⟩=(cur.toList.take (aP c.sh c.x*c.sh.n))[j]? :=by
    intro j f;rw[i]at f;rw[cell_of_heap E,aan,if_pos f];simp
   refine .inr ⟨⟨b,0,none⟩,k,_,hv,p,rfl,λ m=>(rC m).1 q,λ j f=>by simpa using d j f,λ t j f=> ?_,λ _=>rfl⟩;refine⟨by simpa using d j f,(I _).2 ⟨C t,by rw[i]at f;simpa using f⟩⟩
 unfold jZ at h;split at h
 ·rename_i e;exact absurd e B
 ·rename_i e
  have m:c.sh.qK=true:=by
   rcases U2 hs with e|⟨es,e⟩
   ·exact e
   ·obtain⟨K,Q,R⟩:=c;simp only at e;subst e;exact h.elim
  rw[yI m]at h;obtain⟨A,k,hv,p,h⟩:=h;rcases h with h|⟨ad,cs,L,u,z,q⟩
  ·exact .inl ⟨A,k,by rw[hv,h],h⟩
  ·exact .inr ⟨ad,k,cs,by rw[hv,L],p,u,λ _=>q,λ j f=>(z j f).1,λ _=>z,λ y=>absurd e y⟩
 ·rename_i e;rw[if_pos hs]at h;exact own false h (λ y=>absurd e y) (by rw[e];simp)
 ·rename_i e;rw[if_pos hs]at h;exact own true h (λ _=>rfl) (by rw[e];simp)
theorem GV {ow:aF} {c:CV} {v:Value} (h:jZ w g ow c v) {i:Nat} {ds:LC} (m:(zk c i).run=some ds):
 c.sh.qR=true/\c.tg≠ .dead/\bI ds=true/\ds.length=c.sh.n/\i<aP c.sh c.x/\ ∃(ad:Addr) (k:Nat) (U:LV),v= .slice (some ad) (aP c.sh c.x) k/\ad.spot=none/\U.length=c.sh.n/\
  (∀mk j,aC w g mk j ds U)/\(∀j,j<c.sh.n->w.cell? ⟨ad.block,ad.off+(i*c.sh.n+j),none⟩=U[j]?)/\
  (c.tg≠ .own->PS w g.F ⟨ad.block,ad.off+i*c.sh.n,none⟩ U)/\(c.tg≠ .pure->ad.off=0):=by
 obtain⟨sh,W,x⟩:=c
 have N:W≠ .dead:=by
  rintro rfl;cases sh<;>exact aN m rfl
 have go: ∀{α:Type} {n:Nat} {R:α->LV->Prop} {L:List α->LV->Prop} (u:KH n R L) (l:List α) (e:α) (cs:LV),L l cs->at? l i=some e->sh.n=n->
  i<l.length/\((cs.drop (i*n)).take n).length=n/\R e ((cs.drop (i*n)).take n)/\(∀j,j<n->((cs.drop (i*n)).take n)[j]? =cs[i*n+j]? /\i*n+j<cs.length):=by
  intro α n R L u l e cs y z hn
  have O:i<l.length:=by
   rcases aaG i l.length with h|h
   ·exact h
   ·simp[at?,aal h]at z
  have Q:=u.get l cs y i e z;have S:=u.length l cs y;have hm:i*n+n<=cs.length:=by rw[S,←abx];exact aaA _ O
  refine⟨O,u.len _ _ Q,Q,λ j B=>⟨?_,Ω⟩⟩;rw[aan,if_pos B,aas]
 cases sh with
 |sl es=>
  have C: ∃e,at? x i=some e/\ds=cellsOf es e:=by
   have u:(at? (α:=ElA es) x i).bind (λ e=>some (cellsOf es e))=some ds:=by
    cases W
    ·exact m
    ·exact m
    ·exact m
    ·exact absurd rfl N
   obtain⟨e,Y,Z⟩:=aa6.1 u;exact⟨e,Y,(aak Z).symm⟩
  obtain⟨e,z,rfl⟩:=C;have hp:=uK es e;have D:(cellsOf es e).length=es.length:=by have:=congrArg List.length (uY es e);simpa using this
  rcases qF rfl N h with⟨A,k,_,h0⟩|⟨ad,k,cs,hv,_,E,p,f,q,t⟩
  ·exfalso;have G:List.length x=0:=h0;simp[at?,aav G]at z
  ·obtain⟨O,y,Q,B⟩:=go (jW (w:=w) (F:=g.F) es) x e cs (p rfl) z rfl;refine⟨rfl,N,hp,D,O,ad,k,_,hv,E,y,λ mk j=>cells_ok mk es e j _ Q,λ j d=> ?_,λ I j d=> ?_,t⟩
   ·obtain⟨K,M⟩:=B j d;rw[K];exact f _ M
   ·rw[y]at d;obtain⟨K,M⟩:=B j d;rw[K];have:=q I _ M;rw[abK];exact this
 |rsl ss=>
  have C: ∃e,at? x i=some e/\ds=uo ss e:=by
   have u:(at? (α:=RT (ElA ss)) x i).bind (λ e=>some (uo ss e))=some ds:=by
    cases W
    ·exact m
    ·exact m
    ·exact m
    ·exact absurd rfl N
   obtain⟨e,Y,Z⟩:=aa6.1 u;exact⟨e,Y,(aak Z).symm⟩
  obtain⟨e,z,rfl⟩:=C;have hp:=yh ss e;have D:(uo ss e).length=ss.length+1:=by have:=congrArg List.length (uY ss e.a);simp[uo]at this ⊢;exact this
  rcases qF rfl N h with⟨A,k,_,h0⟩|⟨ad,k,cs,hv,_,E,p,f,q,t⟩
  ·exfalso;have G:List.length x=0:=h0;simp[at?,aav G]at z
  ·obtain⟨O,y,Q,B⟩:=go (kL (w:=w) (F:=g.F) ss) x e cs (p rfl) z rfl;refine⟨rfl,N,hp,D,O,ad,k,_,hv,E,y,λ mk j=>Dc mk ss e j _ Q,λ j d=> ?_,λ I j d=> ?_,t⟩
   ·obtain⟨K,M⟩:=B j d;rw[K];exact f _ M
   ·rw[y]at d;obtain⟨K,M⟩:=B j d;rw[K];have:=q I _ M;rw[abK];exact this
 |int k=>exact(aN m rfl).elim
 |bool=>exact(aN m rfl).elim
 |str=>exact(aN m rfl).elim
 |dl _=>exact(aN m rfl).elim
 |mp _ _=>exact(aN m rfl).elim
def Jb:(sh:Sh)->El sh->Nat->Nat->El sh
 | .sl _,l,lo,d=>List.drop lo (List.take d l)
 | .rsl _,l,lo,d=>List.drop lo (List.take d l)
 |_,x,_,_=>x
theorem um {c d:CV} {lo e:Nat} (h:yS c lo e=some d):c.sh.qK=true/\c.tg≠ .dead/\d=⟨c.sh,c.tg,Jb c.sh c.x lo e⟩:=by
 obtain⟨sh,f,x⟩:=c
 cases sh with
 |sl es=>cases f<;>first|exact(aN h rfl).elim|exact⟨rfl,Θ,(aak h).symm⟩
 |rsl ss=>cases f<;>first|exact(aN h rfl).elim|exact⟨rfl,Θ,(aak h).symm⟩
 |int k=>exact(aN h rfl).elim
 |bool=>exact(aN h rfl).elim
 |str=>exact(aN h rfl).elim
 |dl _=>exact(aN h rfl).elim
 |mp _ _=>exact(aN h rfl).elim
theorem ZJ {α:Type} (l:List α) (lo d:Nat) (h:d<=l.length):((l.take d).drop lo).length=d-lo:=Δ
theorem Ew {sh:Sh} (hs:sh.qK=true) (x:El sh) {lo d:Nat} (h:d<=aP sh x):aP sh (Jb sh x lo d)=d-lo:=by
 cases sh with
 |sl es=>exact ZJ (α:=ElA es) x lo d h
 |rsl ss=>exact ZJ (α:=RT (ElA ss)) x lo d h
 |_=>simp[Sh.qK]at hs
theorem wM.sub {F:Fz} {sh:Sh} {x:El sh} {cs:LV} (h:wM w F sh x cs) (lo d:Nat):wM w F sh (Jb sh x lo d) ((cs.take (d*sh.n)).drop (lo*sh.n)):=by
 cases sh with
 |sl es=>exact(jW es).drop _ _ lo ((jW es).take _ _ d h)
 |rsl ss=>exact(kL ss).drop _ _ lo ((kL ss).take _ _ d h)
 |_=>exact h.elim
theorem jM.sub {F:Fz} {sh:Sh} (hs:sh.qK=true) {x:El sh} {A:Option Addr} {l k:Nat} (h:jM w F sh x (.slice A l k)) {lo d:Nat} (t:lo<=d) (p:d<=l):
 jM w F sh (Jb sh x lo d) (Dw A k lo d sh.n):=by
 rw[yI hs]at h ⊢;obtain⟨D,E,hv,G,h⟩:=h;cases hv;have g:=Ew hs x (lo:=lo) p;rw[g];refine⟨_,_,rfl,Ω,?_⟩;by_cases u:d-lo=0
 ·exact .inl u
 ·rcases h with h|⟨ad,cs,rfl,i,v,q⟩
  ·omega
  ·have m:=q.length;have I:d*sh.n<=cs.length:=by rw[m];exact aaA _ p
   have y:lo*sh.n<=d*sh.n:=aaA _ t;refine .inr ⟨ad.add (lo*sh.n),_,?_,?_,?_,q.sub lo d⟩
   ·rw[if_neg Ω];rfl
   ·unfold Addr.add;split
    ·exact i
    ·rfl
   ·intro j z;simp only[abh,aaE]at z
    have f:(ad.add (lo*sh.n)).block=ad.block/\(ad.add (lo*sh.n)).off=ad.off+lo*sh.n:=by
     unfold Addr.add;split
     ·rename_i e;rw[e];exact⟨rfl,rfl⟩
     ·exact⟨rfl,rfl⟩
    obtain⟨B,C⟩:=v (lo*sh.n+j) Ω;rw[f.1,f.2,abK];refine⟨?_,C⟩;rw[B,aas,aan,if_pos Ω]
theorem zK.front {ow:aF} {sh:Sh} (hs:sh.qK=true) {x:El sh} {A:Option Addr} {l k:Nat} (h:zK w g ow false sh x (.slice A l k)) {e:Nat} (i:e<=l):
 zK w g ow false sh (Jb sh x 0 e) (Dw A k 0 e sh.n):=by
 rcases h with⟨hv,m⟩|⟨b,c,cur,p,hv,m,q,t,u,f,v,y⟩
 ·cases hv;have:e=0:=by omega
  subst this;left;refine⟨by simp[Dw],?_⟩;rw[Ew hs x Ω]
 ·cases hv;have d:=Ew hs x (lo:=0) i;right;refine⟨b,k,cur,p,?_,by rw[d];omega,q,t,u,f,?_,λ o=> ?_⟩
  ·rw[d];simp[Dw,Addr.add]
  ·have:=((rC hs).1 v).sub 0 e;rw[rC hs,d,Nat.sub_zero];rw[Nat.zero_mul,abB,ab2,abP (aaA _ i)]at this;exact this
  ·simp[y o]
theorem zi {p:Pl} {c:CV} {i j:Nat} (h:N9 s p=some (c,i,j)):p.sub=some (i,j)/\ ∃(es:List Sh) (l:List (Option (ElA es))),c=⟨.dl es,.own,l⟩/\aV s p 1=some [⟨.dl es,.own,l⟩]:=by
 unfold N9 at h;split at h
 ·rename_i e f hs;split at h
  ·rename_i es l d;cases h;exact⟨hs,es,l,rfl,d⟩
  ·cases h
 ·cases h
theorem Pq {α:Type} {l:List (Option α)} {i:Nat} {e:α} (h:rowAt? l i=some e):l[i]? =some (some e):=by
 unfold rowAt? at h
 cases d:l[i]? with
 |none=>rw[d]at h;cases h
 |some o=>rw[d]at h;simp at h;rw[h]
theorem qm (es:List Sh) (e:ElA es):(nS es e).length=es.length:=by
 have:=congrArg List.length (uY es e);simpa [nS]using this
theorem Eh {es:List Sh} {l:List (Option (ElA es))} {i j n:Nat} {cs:LC} (h:(I8 ⟨.dl es,.own,l⟩ i j n).run=some cs):
 ∃e,l[i]? =some (some e)/\j+n<=es.length/\cs=((nS es e).drop j).take n:=by
 obtain⟨e,g,d⟩:=aa6.1 (show(rowAt? (α:=ElA es) l i).bind _=some cs from h);simp only[qm]at d
 cases f:Nat.ble (j+n) es.length with
 |false=>rw[f]at d;exact(aN d rfl).elim
 |true=>rw[f]at d;exact⟨e,Pq g,abl f,(aak d).symm⟩
theorem sG.top {ow:aF} {B:Option Nat} {sh:Sh} {x:El sh} {v:Value} (h:sG w g ow B sh x v):jZ w g ow ⟨sh,sh.top,x⟩ v:=by
 unfold sG at h;split at h
 ·rename_i hs;have e:sh.top= .own:=by cases sh<;>first|rfl|simp[Sh.qR]at hs
  rw[e];simp only[jZ,if_pos hs];exact(qg h.1).2 h.2.1
 ·rename_i hs;have e:sh.top= .pure:=by cases sh<;>first|rfl|(simp[Sh.qR]at hs;done)|exact h.elim
  rw[e];exact h
theorem yT {es:List Sh} {e:ElA es} {k:Nat} {c:CV} (h:(nS es e)[k]? =some c): ∃d,(cellsOf es e)[k]? =some d/\c=⟨d.sh,d.sh.top,d.x⟩:=by
 simp only[nS,aau,aaK]at h;obtain⟨d,f,g⟩:=h;exact⟨d,f,g.symm⟩
theorem Rel.KZ (h:Rel E C s a w g) {p:Pl} {es:List Sh} {l:List (Option (ElA es))} (A:aV s p 1=some [⟨.dl es,.own,l⟩]) {i:Nat} (M:i<l.length):
 ∃b k cur d,(aB a w g p.root)[p.cell]? =some (.slice (some ⟨b,0,none⟩) l.length k)/\((aB a w g p.root).drop p.cell).take 1= [.slice (some ⟨b,0,none⟩) l.length k]/\l.length<=k/\k<=maxLen/\g.own b=some (dO p.root p.cell)/\w.heap[b]? =some (.cells cur d (0,0))/\
  cur.size=k*es.length/\jm w g (dO p.root p.cell) b es l (cur.toList.take (l.length*es.length))/\(∀o,¬g.F b o)/\ ∀u,u∈cur.toList.take (l.length*es.length)->u.oneCell'=true:=by
 obtain⟨B,_⟩:=h.pl A;obtain⟨v,N,e,q,t⟩:=B;simp only[aC]at t;subst t
 have D:(aB a w g p.root)[p.cell]? =some v:=by
  have:=congrArg (λ l=>l[0]?) e;simp only[aan,aas,aa0]at this;simpa using this
 simp only[jZ,Sh.qR,if_true]at q;rcases q with⟨_,y⟩|⟨b,k,cur,d,hv,f,G,I,K,m,z,L⟩
 ·have y:l.length=0:=y;omega
 ·subst hv;exact⟨b,k,cur,d,D,e,f,G,I,K,m,z.2,(λ o hF=>by have:=((L o).1 hF).1;cases this),z.1.2⟩
theorem jm.row {ow:aF} {es:List Sh} {l:List (Option (ElA es))} {cs:LV} {B:Nat->Option Nat}
 (m: ∀i x,l[i]? =some (some x)->Yr w g ow (λ j=>B (i*es.length+j)) es x ((cs.drop (i*es.length)).take es.length))
 {i:Nat} {e:ElA es} (p:l[i]? =some (some e)) {k:Nat} {c:CV} (f:(cellsOf es e)[k]? =some c): ∃v,cs[i*es.length+k]? =some v/\sG w g ow (B (i*es.length+k)) c.sh c.x v/\k<es.length:=by
 obtain⟨q,t⟩:=m i e p
 have d:k<es.length:=by
  have:=congrArg List.length (uY es e);simp only[aaH]at this;rw[←this];rcases aaG k (cellsOf es e).length with h|h
  ·exact h
  ·simp[aal h]at f
 have hv:((cs.drop (i*es.length)).take es.length)[k]? =some (((cs.drop (i*es.length)).take es.length)[k]'(by rw[q];exact d)):=aac _;refine⟨_,?_,t k c _ f hv,d⟩;rw[←hv,aan,if_pos d,aas]
theorem Rel.Y2 (h:Rel E C s a w g) {p:Pl} {es:List Sh} {l:List (Option (ElA es))} (O:aV s p 1=some [⟨.dl es,.own,l⟩]) {i j m:Nat} {e:ElA es} (M:l[i]? =some (some e)) (Q:j+m<=es.length):
 ∃b k cur z,(aB a w g p.root)[p.cell]? =some (.slice (some ⟨b,0,none⟩) l.length k)/\i<l.length/\w.heap[b]? =some (.cells cur z (0,0))/\
  aC w g (λ _=>dO p.root p.cell) 0 (((nS es e).drop j).take m) ((cur.toList.drop (i*es.length+j)).take m)/\((cur.toList.drop (i*es.length+j)).take m).length=m:=by
 have A:i<l.length:=by
  rcases aaG i l.length with h|h
  ·exact h
  ·simp[aal h]at M
 obtain⟨b,k,cur,z,R,e2,D,hk,ho,v,G,⟨S,B,U,W,I⟩,hF,N⟩:=h.KZ O A;have hN:i*es.length+es.length<=l.length*es.length:=by rw[←abx];exact aaA _ A
 have Y:l.length*es.length<=cur.size:=by rw[G];exact aaA _ D
 have t:((cur.toList.drop (i*es.length+j)).take m).length=m:=by simp;omega
 refine⟨b,k,cur,z,R,A,v,aC.of _ _ _ ?_ λ q c0 u d f=> ?_,t⟩
 ·rw[t];simp only[aaE,abh,qm];omega
 ·simp only[aan,aas]at d f;split at d
  ·rename_i Z;rw[if_pos Z]at f;obtain⟨c1,K,rfl⟩:=yT d;obtain⟨u',y,L,a0⟩:=jm.row I M K;rw[aan,if_pos Ω]at y;rw[show i*es.length+j+q=i*es.length+(j+q) by omega,y]at f;cases f;exact sG.top L
  ·cases d
theorem XL (es:List Sh) (e:ElA es) (j m:Nat):FC (((nS es e).drop j).take m)=true:=by
 unfold FC;rw[aaV];intro c f;have:=abD (abr f);obtain⟨d,_,rfl⟩:=aaC.1 this;show(match d.sh.top with| .dead=>false|_=>true)=true
 cases d.sh<;>rfl
open Classical in
theorem Q5 (h:Rel E C s a w g) {hs:LC} {hv:LV} (hh:aC w g .hand 0 hs hv) {p:Pl} {ag:Bool} {n:Nat} {v:Value} {mk:Nat->aF} (c5:TV0 s a w g mk (.rowr p ag n) v)
 {c:CV} {i j:Nat} (hd:N9 s p=some (c,i,j)) {cs:LC} (hp:(I8 c i j n).run=some cs) {c':CV} (L:moveRow c i=some c') {us:List Upd} (hu:jT s p [c'] false=some us):
 ∃g',Rel E C (s.dW us) a w g'/\isAgg v=ag/\aC w g' .hand 0 (hs++cs) (hv++v.cells.toList)/\g'.at_=g.at_/\Keeps w w g.F g'.F/\(∀b n,g.own b=some (.box n)->g'.own b=some (.box n)):=by
 obtain⟨a6,es,l,rfl,hc⟩:=zi hd;obtain⟨e,he,f7,rfl⟩:=Eh hp
 have hi:i<l.length:=by
  rcases aaG i l.length with h|h
  ·exact h
  ·simp[aal h]at he
 obtain⟨b,k,cur,et,e1,e2,c8,hk,S,M,a7,⟨d0,B,a8,a0,a3⟩,hF,a9⟩:=h.KZ hc hi;obtain⟨_,_,i',j',O,b0⟩:=c5;rw[a6]at O;cases O;obtain⟨b2,e5,k2,e6,g1,f2,m1,_,m3,d1,d2⟩:=b0 es l hc;rw[e1]at m1;cases m1;rw[M]at m3;cases m3
 let N:=es.length
 let z:Nat->Nat->Prop:=λ x q=>j<=q/\q<j+n/\ ∃c0 u,(cellsOf es e)[q]? =some c0/\c0.sh.qR=true/\(cur.toList.take (l.length*N))[i*N+q]? =some u/\blk u=some x
 have D: ∀x q,z x q->B (i*N+q)=some x/\g.own x=some (dO p.root p.cell)/\q<N:=by
  rintro x q ⟨_,_,c0,u,h1,h2,h3,h4⟩;obtain⟨u',h5,h6,h7⟩:=jm.row a3 he h1;rw[h3]at h5;cases h5;unfold sG at h6;rw[if_pos h2]at h6;exact⟨by rw[←h6.2.2,h4],h6.2.1.nC h4,h7⟩
 have d4: ∀x q Z,z x q->z x Z->q=Z:=by
  intro x q Z h1 h2;have:=a0 _ _ x (D x q h1).1 (D x Z h2).1;omega
 let Q:Nat->Option aF:=λ x=>if A: ∃q,z x q then some (.hand (hs.length+(A.choose-j)))else g.own x
 let g':Gh:={g with own:=Q}
 have d: ∀x,(¬ ∃q,z x q)->g'.own x=g.own x:=λ x A=>by simp only[g',Q,dif_neg A]
 have I: ∀x q,z x q->g'.own x=some (.hand (hs.length+(q-j))):=λ x q A=>by
  have b4: ∃q,z x q:=⟨q,A⟩;simp only[g',Q,dif_pos b4];rw[d4 x _ q b4.choose_spec A]
 have f:Fr (λ o=>o≠dO p.root p.cell) w w g g':=⟨Keeps.refl _ _,λ x ow hk S=>by
  refine⟨?_,rfl,λ o h=>h⟩;rw[d];exact S;rintro⟨q,A⟩;rw[(D x q A).2.1]at S;cases S;exact hk rfl⟩
 have d5:Base C.w0 C.F0 C.X w g':=⟨h.base.os,h.base.tape,h.base.output,h.base.size,h.base.blk,λ x ow A=>by
  by_cases L: ∃q,z x q
  ·obtain⟨q,K⟩:=L;exact h.base.own x _ (D x q K).2.1
  ·rw[d x L]at A;exact h.base.own x ow A,h.base.keeps,h.base.fz,λ x ow cs t f A hc=>by
  by_cases L: ∃q,z x q
  ·obtain⟨q,K⟩:=L;exact h.base.frz x _ cs t f (D x q K).2.1 hc
  ·rw[d x L]at A;exact h.base.frz x ow cs t f A hc⟩
 have d6: ¬ ∃q,z b q:=by
  rintro⟨q,A⟩;exact a8 _ (D b q A).1
 simp only[moveRow,aag]at L;subst L;refine⟨g',?_,d1,?_,rfl,f.keeps,λ x m S=>(f.own x _ (by cases p.root<;>simp[dO]) S).1⟩
 ·refine kK h (ds:=[⟨.dl es,.own,List.set l i none⟩]) hc hu rfl (f.mono λ o S=>S.1 p.cell (aaw _) Θ) d5 rfl ?_ ?_
  ·show aC w g' _ _ _ (((aB a w g p.root).drop p.cell).take 1);rw[e2];refine⟨_,[],rfl,?_,rfl⟩;simp only[jZ,Sh.qR,if_true];have R:(List.set l i none).length=l.length:=aa7;refine .inr ⟨b,k,cur,et,by simp only[aP];rw[R],by simp only[aP];rw[R];exact c8,hk,by rw[d b d6];exact S,M,a7,⟨⟨rfl,by simp only[aP,Sh.n];rw[R];exact a9⟩,?_⟩,λ o=>⟨λ hf=>(hF o hf).elim,λ hf=>by cases hf.1⟩⟩;simp only[aP,Sh.n];rw[R];refine⟨by rw[R];exact d0,B,a8,a0,λ i' x A=> ?_⟩
   have b5:i'≠i:=by
    rintro rfl;rw[abe hi]at A;cases A
   rw[aa5 (Ne.symm b5)]at A;refine Yr.imp (g:=g) (g':=g') (Keeps.refl w g.F) (λ q sh u K d8 y hy=> ?_) (a3 i' x A);refine wZ.owner (g:=g) (g':=g') rfl (λ x' b6=> ?_) hy;rw[d];exact hy.nC b6;rintro⟨Z,L⟩;have h1:=(D x' Z L).1;have h2:=(D x' Z L).2.2;have h3:=a0 _ _ x' h1 (d8.trans b6)
   have h4:i=i':=by
    have hN:0<N:=by omega
    have a1:(i*N+Z)/N=i:=by rw[abW,Nat.mul_add_div hN,acM h2,aa0]
    have a2:(i'*N+q)/N=i':=by rw[abW,Nat.mul_add_div hN,acM K,aa0]
    rw[←a1,←a2];exact congrArg (· /N) h3
   exact b5 h4.symm
  ·intro q g7 l' K
   have e0:q=0:=by
    rcases ab5 q with h|h
    ·exact h
    ·rw[aal Δ]at K;cases K
   subst e0;simp only[aaO,aag]at K;obtain⟨rfl,_,_⟩:=K;exact⟨l,rfl,λ _ _ _ _=>rfl⟩
 ·refine aC.append hs 0 hv _ _ (hh.fr (f.mono (K':=λ o=> ∃q,o= .hand q) λ o ⟨q,e⟩=>by rw[e];exact(jF _ _ _).symm) _ _ _ (λ q=>⟨q,rfl⟩)) ?_;rw[aa2,d2];refine aC.of _ _ _ ?_ λ q c0 u U W=> ?_
  ·simp only[aaE,abh,qm,abd,a7];have:i*es.length+es.length<=k*es.length:=by rw[←abx];exact aaA _ Ω
   omega
  ·simp only[aan,aas]at U W;split at U
   ·rename_i K;rw[if_pos K]at W;obtain⟨c1,b7,rfl⟩:=yT U;obtain⟨u',b8,G,g9⟩:=jm.row a3 he b7
    have e3:i*es.length+(j+q)<l.length*es.length:=by
     have:i*es.length+es.length<=l.length*es.length:=by rw[←abx];exact aaA _ hi
     omega
    have b9:=b8;rw[aan,if_pos e3]at b9;rw[show i*es.length+j+q=i*es.length+(j+q) by omega,b9]at W;cases W;refine sG.top (B:=B (i*es.length+(j+q))) ?_;unfold sG at G ⊢;split
    ·rename_i Y;rw[if_pos Y]at G;refine⟨G.1,wZ.owner (g:=g) (g':=g') rfl (λ x A=> ?_) G.2.1,G.2.2⟩;rw[I x (j+q) ⟨Ω,Ω,c1,u,b7,Y,b8,A⟩];congr 2;omega
    ·rename_i Y;rw[if_neg Y]at G;exact G
   ·cases U
theorem iD {p:Pl} (d:p.sub=none) {n:Nat} {cs:LC} (h:(content s p n).run=some cs):aV s p n=some cs:=by
 unfold content at h;rw[d]at h;exact GU h
theorem tH {hs:LC} {hv:LV} {c:CV} {v:Value}:aC w g .hand 0 (hs++[c]) (hv++[v]) ↔ hv.length=hs.length/\aC w g .hand 0 hs hv/\jZ w g (.hand hs.length) c v:=by
 constructor
 ·intro h;have d:hv.length=hs.length:=by have:=h.length;simp at this;omega
  have e:=h.sub 0 hs.length;simp only[abB,aa0]at e
  have f:aC w g .hand 0 hs hv:=by
   have k:(hs++[c]).take hs.length=hs:=by simp
   have l:(hv++[v]).take hs.length=hv:=by rw[←d];simp
   rwa [k,l]at e
  obtain⟨u,i,m⟩:=h.get _ 0 _ hs.length c Θ;rw[←d]at i;simp at i;exact⟨d,f,by rw[i];simpa using m⟩
 ·rintro⟨d,e,p⟩;exact aC.append hs 0 hv [c] [v] e ⟨v,[],rfl,by simpa using p,rfl⟩
theorem aH {v:Value} (h:isAgg v=false):v.cells= #[v]:=by cases v<;>simp[isAgg]at h<;>rfl
theorem Jd {ow:aF} {sh:Sh} (d:sh.qR=true):jZ w g ow (J7 sh) (.slice none 0 0):=by
 cases sh with
 |sl es=>exact .inl ⟨rfl,rfl⟩
 |rsl ss=>exact .inl ⟨rfl,rfl⟩
 |dl es=>exact .inl ⟨rfl,rfl⟩
 |_=>simp[Sh.qR]at d
theorem Gw (h:Rel E C s a w g) {hs:LC} {hv:LV} (Q:aC w g .hand 0 hs hv) {x:Operand} {a0:List Sh} {ag:Bool} {cs:LC} {us:List Upd}
 (m:(Ez E s x a0).run=some (ag,cs,us)):
 ∃g',Rel E C (s.dW us) a w g'/\isAgg (a.eval x)=ag/\aC w g' .hand 0 (hs++cs) (hv++(a.eval x).cells.toList)/\g'.at_=g.at_/\Keeps w w g.F g'.F:=by
 have t:=h.at_ x;unfold Ez at m
 cases G:at_ E s x with
 |val K y=>
  rw[G]at m t;rcases t with⟨e,_⟩|t
  ·cases e
  ·simp only[]at m
   cases hp:bI y with
   |true=>
    rw[hp]at m;simp only[cond_true,Dyn.run,aag,aaz]at m;obtain⟨rfl,rfl,rfl⟩:=m;exact⟨g,h,t.1,aC.append hs 0 hv _ _ Q (aC.vY (Keeps.refl _ _) _ 0 _ _ hp t.2),rfl,Keeps.refl _ _⟩
   |false=>
    rw[hp]at m;simp only[cond_false]at m
    cases x with
    |tmp n=>
     simp only[Dyn.run,aag,aaz]at m;obtain⟨rfl,rfl,rfl⟩:=m;have a3:(s.tm n).1= .val K y:=G
     have L:aV s ⟨.tmp n,(s.tm n).2,[],0,none⟩ y.length=some y:=by
      rw[bM];refine⟨y.map λ c=>(c,(s.tm n).2),?_,Θ,Θ,by rw[←qy,nN];simp⟩;have e:s.tm n=(.val K y,(s.tm n).2):=by rw[←a3]
      simp only[aA];rw[e]
     have a4:jT s ⟨.tmp n,(s.tm n).2,[],0,none⟩ (y.map CV.left) false=some [.keep n (.val K (y.map CV.left))]:=by
      have e:s.tm n=(.val K y,(s.tm n).2):=by rw[←a3]
      simp only[jT];rw[e];simp only[cond_false,acG,cond_true,yR _ _ (aaH _)]
     obtain⟨g',r,k,e,Y⟩:=SK h Q L a4;have c5:=t.2.length
     have:((aB a w g (.tmp n)).drop 0).take y.length=(a.eval (.tmp n)).cells.toList:=by
      simp only[aB,abB];exact aaJ Ω
     rw[this]at k;exact⟨g',r,t.1,k,e,Y⟩
    |const v=>exact(aN m rfl).elim
    |global gl=>exact(aN m rfl).elim
    |func f=>exact(aN m rfl).elim
 |ref p K n=>
  rw[G]at m t;rcases t with⟨e,_⟩|t
  ·cases e
  ·obtain⟨_,_,D,t⟩:=t;obtain⟨y,I,m⟩:=aS m;have I:=iD D I
   cases R:D5 s p y with
   |none=>rw[R]at m;exact(aN m rfl).elim
   |some S=>
    rw[R]at m;simp only[Dyn.run,aag,aaz]at m;obtain⟨rfl,rfl,rfl⟩:=m;obtain⟨g',r,k,e,Y⟩:=Xk h Q D I R;obtain⟨h1,h2⟩:=t _ I;rw[←h2]at k;exact⟨g',r,h1,k,e,Y⟩
 |rsub p z lo Z=>
  rw[G]at m t;rcases t with⟨e,_⟩|t
  ·cases e
  ·obtain⟨_,_,D,hz,t⟩:=t;obtain⟨y,I,m⟩:=aS m;have I:=iD D I
   match y,I,m with
   | [],_,m=>exact(aN m rfl).elim
   |_::_::_,_,m=>exact(aN m rfl).elim
   | [c],I,m=>
     simp only[]at m
     cases O:yS c lo Z with
     |none=>rw[O]at m;exact(aN m rfl).elim
     |some d=>
      cases R:D5 s p [c]with
      |none=>rw[O,R]at m;exact(aN m rfl).elim
      |some S=>
       rw[O,R]at m;simp only[Dyn.run,aag,aaz]at m;obtain⟨rfl,rfl,rfl⟩:=m;obtain⟨L,b4,rfl⟩:=um O;have M:=gu L;obtain⟨A,l,k,e1,h1,h2,h3,h4⟩:=t c I;obtain⟨g',r,a5,e,Y⟩:=Xk h Q D I R
       have ev:((aB a w g p.root).drop p.cell).take 1= [.slice A l k]:=by
        have a6:p.cell<(aB a w g p.root).length:=by
         rcases aaG p.cell (aB a w g p.root).length with h|h
         ·exact h
         ·simp[aal h]at e1
        rw[aaI a6];rw[aac a6]at e1;rw[acI,acA,aak e1]
       rw[ev]at a5;have U:isAgg (a.eval x)=false:=by rw[h4];rfl
       rw[aH U];obtain⟨l1,l2,l3⟩:=tH.1 a5;obtain⟨B,N,cx⟩:=c;by_cases a8:z=true/\N= .own
       ·obtain⟨rfl,rfl⟩:=a8;have b9:=hz rfl;subst b9;simp only[jZ,if_pos M]at l3;refine⟨g',r,U,tH.2 ⟨l1,l2,?_⟩,e,Y⟩;simp only[Tg.G9,acR,cond_true,jZ,if_pos M];rw[h4];exact l3.front L h2
       ·have W:(bif z&&N.G9 then(⟨B,N,Jb B cx lo Z⟩:CV)else(⟨B,N,Jb B cx lo Z⟩:CV).to .pure)=⟨B,.pure,Jb B cx lo Z⟩:=by
         cases z with
         |false=>rfl
         |true=>cases N<;>first|rfl|exact absurd ⟨rfl,rfl⟩ a8
        have c0:Tg.le .pure N=true:=by cases N<;>first|rfl|exact absurd rfl b4
        obtain⟨g2,f2,b2,o2,a2,c2,_⟩:=l3.weak r.base c0 (by cases B<;>first|rfl|simp[Sh.qK]at L)
        have r2:Rel E C (s.dW S) a w g2:=r.world (f2.mono λ o ho=>ho _) b2 a2;refine⟨g2,r2,U,?_,a2.trans e,Y.trans f2.keeps⟩;show aC w g2 .hand 0 (hs++[bif z&&N.G9 then(⟨B,N,Jb B cx lo Z⟩:CV)else(⟨B,N,Jb B cx lo Z⟩:CV).to .pure]) (hv++[a.eval x]);rw[W,tH];refine⟨l1,?_,?_⟩
        ·refine aC.of hs 0 hv l1 λ j c v I hv=> ?_;obtain⟨u,hu,hr⟩:=l2.get hs 0 _ j c I;rw[hu]at hv;cases hv;refine hr.fr f2 ?_
         have:j<hs.length:=by
          rcases aaG j hs.length with h|h
          ·exact h
          ·simp[aal h]at I
         simp;omega
        ·rw[h4];exact jM.sub L c2 h1 h2
 |nilc=>
  rw[G]at m t;rcases t with⟨_,b0⟩|t
  ·match a0,m with
   | [],m=>exact(aN m rfl).elim
   |_::_::_,m=>exact(aN m rfl).elim
   | [sh],m=>
     simp only[]at m
     cases M:sh.qR with
     |false=>rw[M]at m;exact(aN m rfl).elim
     |true=>
      rw[M]at m;simp only[cond_true,Dyn.run,aag,aaz]at m;obtain⟨rfl,rfl,rfl⟩:=m;rw[b0];refine⟨g,h,rfl,tH.2 ⟨Q.length,Q,?_⟩,rfl,Keeps.refl _ _⟩;exact Jd M
  ·exact t.elim
 |dead=>rw[G]at m;exact(aN m rfl).elim
 |undef=>rw[G]at m;exact(aN m rfl).elim
 |addr p=>rw[G]at m;exact(aN m rfl).elim
 |rowr p K n=>
  rw[G]at m t;rcases t with⟨e,_⟩|t
  ·cases e
  ·simp only[]at m
   cases O:N9 s p with
   |none=>rw[O]at m;exact(aN m rfl).elim
   |some c3=>
    obtain⟨c,i,j⟩:=c3;rw[O]at m;obtain⟨y,hp,m⟩:=aS m
    cases hm:moveRow c i with
    |none=>rw[hm]at m;exact(aN m rfl).elim
    |some c'=>
     rw[hm]at m;simp only[]at m
     cases hu:jT s p [c'] false with
     |none=>rw[hu]at m;exact(aN m rfl).elim
     |some S=>
      rw[hu]at m;simp only[Dyn.run,aag,aaz]at m;obtain⟨rfl,rfl,rfl⟩:=m;obtain⟨g',q1,q2,q3,q4,q5,_⟩:=Q5 (mk:=WU x) h Q t O hp hm hu;exact⟨g',q1,q2,q3,q4,q5⟩
 |addr2 p k q=>rw[G]at m;exact(aN m rfl).elim
 |paddr y off=>rw[G]at m;exact(aN m rfl).elim
 |tup ts=>rw[G]at m;exact(aN m rfl).elim
 |fn f=>rw[G]at m;exact(aN m rfl).elim
 |clo f ts=>rw[G]at m;exact(aN m rfl).elim
 |ext p q c=>rw[G]at m;exact(aN m rfl).elim
end
def zeroV:Sh->Value
 | .int k=> .int k 0
 | .bool=> .bool false
 | .str=> .string ByteArray.empty
 | .mp _ _=> .map none
 |_=> .slice none 0 0
def Qo:Sh->Value->Bool
 | .int k,.int d n=>decide (k=d)&&decide (n=0)
 | .bool,.bool b=> !b
 | .str,.string b=>match b.data.toList with| []=>true|_=>false
 | .sl _,.slice none 0 0=>true
 | .rsl _,.slice none 0 0=>true
 | .mp _ _,.map none=>true
 |_,_=>false
theorem aem {sh:Sh} {v:Value} (h:Qo sh v=true):v=zeroV sh:=by
 unfold Qo at h;split at h
 ·simp only[aae,decide_eq_true_eq]at h;simp[zeroV,h.1,h.2]
 ·rename_i b;cases b<;>simp_all [zeroV]
 ·rename_i b;split at h
  ·rename_i e;obtain⟨⟨l⟩⟩:=b;simp at e;subst e;rfl
  ·cases h
 ·rfl
 ·rfl
 ·rfl
 ·cases h
def yX:List Sh->LV->Bool
 | [],[]=>true
 |s::ss,v::d=>Qo s v&&yX ss d
 |_,_=>false
theorem Wp: ∀{ss:List Sh} {d:LV},yX ss d=true->d=ss.map zeroV
 | [],[],_=>rfl
 | [],_::_,h=>by simp[yX]at h
 |_::_,[],h=>by simp[yX]at h
 |s::ss,v::d,h=>by
  simp only[yX,aae]at h;rw[aem h.1,Wp h.2];rfl
theorem Uz: ∀{ss:List Sh} {d:LV},yX ss d=true->(ss.all λ s=> !s.aew)=true
 | [],[],_=>rfl
 | [],_::_,h=>by simp[yX]at h
 |_::_,[],h=>by simp[yX]at h
 |s::ss,v::d,h=>by
  simp only[yX,aae]at h;simp only[acS,Uz h.2,acr];cases s<;>first|rfl|(have:=h.1;simp[Qo]at this)
def xY:Sh->List Sh
 | .sl es=>es
 | .rsl ss=>ss++[.rsl ss]
 | .dl es=>es
 |_=>[]
theorem kX (sh:Sh):(xY sh).length=sh.n:=by cases sh<;>simp[xY,Sh.n]
def places (P:Program) (d:List Field):Option (List (Nat×Nat)):=d.mapM λ f=>(P.info? f.type).map λ i=>(f.offset,i.size)
def qN (P:Program) (ty:TypeId->Option TyI) (i:TyI):TypeDesc->Bool
 | .slice e=> !i.ag&&decide (i.elem=some e)&&(match i.cells with
   | [sh]=>sh.qK&&(match ty e with|some j=>aX0 j.cells (xY sh)&&((j.cells.all λ s=> !s.Kr)&&Nat.ble j.cells.length 8)|none=>false)
   |_=>false)
 | .struct d=>i.ag&&decide (i.elem=none)&&(match places P d.toList with
   |some l=>decide (l=i.fields)&&decide (d.toList.map (·.type)=i.ftys)&&l.all λ x=> !decide (x.2=0)&&decide (x.1+x.2<=i.cells.length)
   |none=>false)
 | .int k=> !i.ag&&decide (i.elem=none)&&aX0 i.cells [.int k]
 | .bool=> !i.ag&&decide (i.elem=none)&&aX0 i.cells [.bool]
 | .string=> !i.ag&&decide (i.elem=none)&&aX0 i.cells [.str]
 | .map f g=> !i.ag&&decide (i.elem=none)&&decide (i.ftys= [f,g])&&(match i.cells,ty f,ty g with
   | [.mp k e],some j,some l=>k.scalar&&e.scalar&& !j.ag&& !l.ag&&aX0 j.cells [k]&&aX0 l.cells [e]
   |_,_,_=>false)
 |_=>false
def ahL (P:Program) (ty:TypeId->Option TyI) (t:TypeId) (i:TyI):Bool:=
 match P.info? t,P.underlying t with
 |some info,some d=>match info.zero with
  |some z=>(isAgg z==i.ag)&&yX i.cells z.cells.toList&&decide (info.size=i.cells.length)&&(decide (info.bytes<=128)||Nat.blt 8 i.cells.length)&&qN P ty i d
  |none=>false
 |_,_=>false
def yu (P:Program) (ty:TypeId->Option TyI):Prop:= ∀t i,ty t=some i->ahL P ty t i=true
theorem jR: ∀{a b:List Sh},aX0 a b=true->a=b
 | [],[],_=>rfl
 | [],_::_,h=>by simp[aX0]at h
 |_::_,[],h=>by simp[aX0]at h
 |s::ss,t::ts,h=>by
  simp only[aX0,aae]at h;rw[aY8 h.1,jR h.2]
structure JO (P:Program) (ty:TypeId->Option TyI) (t:TypeId) (i:TyI) (info:TypeInfo) (d:TypeDesc) (z:Value):Prop where
 inf:P.info? t=some info
 und:P.underlying t=some d
 zero:info.zero=some z
 agg:isAgg z=i.ag
 cells:z.cells.toList=i.cells.map zeroV
 size:info.size=i.cells.length
 bytes:i.cells.length<=8->info.bytes<=128
 desc:qN P ty i d=true
 noDl:(i.cells.all λ s=> !s.aew)=true
theorem yu.at_ {P:Program} {ty:TypeId->Option TyI} (h:yu P ty) {t:TypeId} {i:TyI} (g:ty t=some i): ∃info d z,JO P ty t i info d z:=by
 have:=h t i g;unfold ahL at this;split at this
 ·rename_i info d k l;split at this
  ·rename_i z m;simp only[aae,beq_iff_eq,decide_eq_true_eq]at this;obtain⟨⟨⟨⟨p,f⟩,q⟩,e⟩,u⟩:=this
   have e:i.cells.length<=8->info.bytes<=128:=λ v=>by
    simp only[abT,decide_eq_true_eq]at e;rcases e with e|e
    ·exact e
    ·have:=(Nat.blt_eq ..).mp e;omega
   exact⟨info,d,z,k,l,m,p,Wp f,q,e,u,Uz f⟩
  ·cases this
 ·cases this
section
variable {P:Program} {ty:TypeId->Option TyI} {t:TypeId} {i:TyI} {info:TypeInfo} {d:TypeDesc} {z:Value}
theorem JO.isRow (h:JO P ty t i info d z):d.isRow=i.ag:=by
 have:=h.desc;unfold qN at this;split at this<;>simp_all [TypeDesc.isRow]
theorem JO.one (h:JO P ty t i info d z) (g:i.ag=false): ∃sh,i.cells= [sh]:=by
 have:=h.desc;unfold qN at this;split at this
 ·simp only[aae]at this;obtain⟨_,e⟩:=this;split at e
  ·exact⟨_,by assumption⟩
  ·cases e
 ·simp[g]at this
 ·simp only[aae]at this;exact⟨_,jR this.2⟩
 ·simp only[aae]at this;exact⟨_,jR this.2⟩
 ·simp only[aae]at this;exact⟨_,jR this.2⟩
 ·simp only[aae]at this;obtain⟨_,e⟩:=this;split at e
  ·rename_i f _ _;exact⟨_,f⟩
  ·cases e
 ·cases this
theorem JO.slice (h:JO P ty t i info d z) {sh:Sh} (g:i.cells= [sh]) (hs:sh.qR=true) (m:i.ag=false): ∃e j,d= .slice e/\i.elem=some e/\ty e=some j/\j.cells=xY sh:=by
 have:=h.desc;unfold qN at this;split at this
 ·rename_i e;simp only[aae,decide_eq_true_eq]at this;obtain⟨⟨_,p⟩,f⟩:=this;rw[g]at f;simp only[aae]at f;obtain⟨_,l⟩:=f;split at l
  ·rename_i j q;exact⟨e,j,rfl,p,q,jR (by simp only[aae]at l;exact l.1)⟩
  ·cases l
 ·simp[m]at this
 ·simp only[aae]at this;have:=jR this.2;rw[g]at this;cases this;cases hs
 ·simp only[aae]at this;have:=jR this.2;rw[g]at this;cases this;cases hs
 ·simp only[aae]at this;have:=jR this.2;rw[g]at this;cases this;cases hs
 ·simp only[aae]at this;obtain⟨_,f⟩:=this;split at f
  ·rename_i k _ _;rw[g]at k;cases k;cases hs
  ·cases f
 ·cases this
theorem JO.elem (h:JO P ty t i info d z) {e:TypeId} (l:i.elem=some e): ∃sh j,d= .slice e/\i.ag=false/\i.cells= [sh]/\sh.qK=true/\ty e=some j/\j.cells=xY sh:=by
 have:=h.desc;unfold qN at this;split at this
 ·rename_i v;simp only[aae,decide_eq_true_eq]at this;obtain⟨⟨m,k⟩,f⟩:=this;rw[l]at k;cases k;split at f
  ·rename_i sh p;simp only[aae]at f;obtain⟨q,g⟩:=f;split at g
   ·rename_i j u;exact⟨sh,j,rfl,by simpa using m,p,q,u,jR (by simp only[aae]at g;exact g.1)⟩
   ·cases g
  ·cases f
 all_goals first|cases this|simp_all
theorem JO.akv (h:JO P ty t i info d z) {e:TypeId} {j:TyI} (k:i.elem=some e) (l:ty e=some j):(j.cells.all λ s=> !s.Kr)=true:=by
 have:=h.desc;unfold qN at this;split at this
 ·rename_i m;simp only[aae,decide_eq_true_eq]at this;obtain⟨⟨p,g⟩,f⟩:=this;rw[k]at g;cases g;split at f
  ·rw[l]at f;simp only[aae]at f;exact f.2.2.1
  ·cases f
 all_goals simp_all
theorem JO.short (h:JO P ty t i info d z) {e:TypeId} {j:TyI} (k:i.elem=some e) (l:ty e=some j):j.cells.length<=8:=by
 have:=h.desc;unfold qN at this;split at this
 ·rename_i m;simp only[aae,decide_eq_true_eq]at this;obtain⟨⟨p,g⟩,f⟩:=this;rw[k]at g;cases g;split at f
  ·rw[l]at f;simp only[aae]at f;exact abl f.2.2.2
  ·cases f
 all_goals simp_all
theorem JO.mp (h:JO P ty t i info d z) {k e:Sh} (q:i.cells= [.mp k e]) (u:i.ag=false): ∃m p j l,d= .map m p/\ty m=some j/\ty p=some l/\k.scalar=true/\e.scalar=true/\j.ag=false/\l.ag=false/\j.cells= [k]/\l.cells= [e]:=by
 have:=h.desc;unfold qN at this;split at this
 case h_6 m p=>
  simp only[aae,decide_eq_true_eq]at this;obtain⟨_,f⟩:=this;split at f
  ·rename_i I K j l g v y;rw[q]at g;cases g;simp only[aae,abw]at f;obtain⟨⟨⟨⟨⟨A,B⟩,C⟩,D⟩,E⟩,G⟩:=f;exact⟨m,p,j,l,rfl,v,y,A,B,C,D,jR E,jR G⟩
  ·cases f
 case h_1=>
  simp only[aae]at this;obtain⟨_,f⟩:=this;rw[q]at f;simp[Sh.qK]at f
 case h_2=>simp[u]at this
 case h_7=>cases this
 all_goals (simp only[aae]at this;have:=jR this.2;rw[q]at this;cases this)
theorem JO.int (h:JO P ty t i info d z) {k:IntKind} (e:i.cells= [.int k]) (l:i.ag=false):d= .int k:=by
 have:=h.desc;unfold qN at this;split at this
 ·simp only[aae]at this;obtain⟨_,f⟩:=this;rw[e]at f;simp[Sh.qK]at f
 ·simp[l]at this
 ·simp only[aae]at this;have:=jR this.2;rw[e]at this;cases this;rfl
 ·simp only[aae]at this;have:=jR this.2;rw[e]at this;cases this
 ·simp only[aae]at this;have:=jR this.2;rw[e]at this;cases this
 ·simp only[aae]at this;obtain⟨_,f⟩:=this;split at f
  ·rename_i g _ _;rw[e]at g;cases g
  ·cases f
 ·cases this
theorem JO.bool (h:JO P ty t i info d z) (g:i.cells= [.bool]) (k:i.ag=false):d= .bool:=by
 have:=h.desc;unfold qN at this;split at this
 ·simp only[aae]at this;obtain⟨_,e⟩:=this;rw[g]at e;simp[Sh.qK]at e
 ·simp[k]at this
 ·simp only[aae]at this;have:=jR this.2;rw[g]at this;cases this
 ·rfl
 ·simp only[aae]at this;have:=jR this.2;rw[g]at this;cases this
 ·simp only[aae]at this;obtain⟨_,e⟩:=this;split at e
  ·rename_i f _ _;rw[g]at f;cases f
  ·cases e
 ·cases this
theorem JO.str (h:JO P ty t i info d z) (g:i.cells= [.str]) (k:i.ag=false):d= .string:=by
 have:=h.desc;unfold qN at this;split at this
 ·simp only[aae]at this;obtain⟨_,e⟩:=this;rw[g]at e;simp[Sh.qK]at e
 ·simp[k]at this
 ·simp only[aae]at this;have:=jR this.2;rw[g]at this;cases this
 ·simp only[aae]at this;have:=jR this.2;rw[g]at this;cases this
 ·rfl
 ·simp only[aae]at this;obtain⟨_,e⟩:=this;split at e
  ·rename_i f _ _;rw[g]at f;cases f
  ·cases e
 ·cases this
theorem JO.struct (h:JO P ty t i info d z) (g:i.ag=true): ∃e,d= .struct e/\places P e.toList=some i.fields/\e.toList.map (·.type)=i.ftys/\ ∀x,x∈i.fields->x.2≠0/\x.1+x.2<=i.cells.length:=by
 have:=h.desc;unfold qN at this;split at this
 ·simp[g]at this
 ·rename_i e;simp only[aae]at this;obtain⟨_,f⟩:=this;split at f
  ·rename_i l k;simp only[aae,decide_eq_true_eq]at f;obtain⟨⟨rfl,m⟩,p⟩:=f;refine⟨e,rfl,k,m,λ x q=> ?_⟩;have:=aaV.1 p x q;simpa using this
  ·cases f
 all_goals first|cases this|simp_all
end
section
variable {P:Program} {E:Env} {C:Ctx} {s s':St} {a a':Act} {w w':World} {g g':Gh} {o:Oper} {Q:Exit->Act->World->Prop}
def T.EI:T->Bool
 | .val _ cs=>bI cs
 | .tup ts=>ts.all λ x=>bI x.2
 | .nilc=>false
 | .ext _ _ _=>false
 |_=>true
theorem mD.vY (k:Keeps w w' g.F g'.F) {mk mk':Nat->aF}: ∀(ts:List (Bool×LC)) (i j:Nat) (f:LV),(ts.all λ x=>bI x.2)=true->mD w g mk i ts f->mD w' g' mk' j ts f
 | [],_,_,_,_,h=>h
 |(ag,cs)::ts,i,j,_,d,⟨v,l,e,⟨m,p⟩,h⟩=>by
  simp only[acS,aae]at d;exact⟨v,l,e,⟨m,aC.vY k cs i j _ d.1 p⟩,mD.vY k ts _ _ l d.2 h⟩
theorem TV0.copy {mk mk':Nat->aF} {t:T} {v:Value} (i:t.EI=true) (h:TV0 s a w g mk t v):TV0 s a w g mk' t v:=by
 cases t with
 |val ag cs=>exact⟨h.1,aC.vY (Keeps.refl _ _) cs 0 0 _ i h.2⟩
 |tup ts=>obtain⟨d,e,h⟩:=h;exact⟨d,e,mD.vY (Keeps.refl _ _) ts 0 0 d i h⟩
 |paddr cs off=>obtain⟨ad,d,e,u,l,y⟩:=h;exact⟨ad,d,e,u,l,aC.vY (Keeps.refl _ _) cs 0 0 d l y⟩
 |nilc=>exact h
 |dead=>exact h
 |undef=>exact h
 |ref p ag m=>exact h
 |rsub p z lo A=>exact h
 |addr p=>exact h
 |rowr p ag m=>exact h
 |addr2 p k q=>exact h
 |fn f=>exact h
 |clo f ts=>exact h
 |ext p q c=>cases i
theorem oJ.copy {mk mk':Nat->aF}: ∀(ts:List T) (d:LV),oJ s a w g mk ts d->oJ s a w g mk' ts d
 | [],_,h=>h
 |t::ts,_,⟨v,f,e,i,k,h⟩=>⟨v,f,e,i,k.copy (by cases t<;>first|rfl|exact i.elim),oJ.copy ts f h⟩
theorem TV.copy {mk mk':Nat->aF} {t:T} {v:Value} (d:t.EI=true) (h:TV s a w g mk t v):TV s a w g mk' t v:=by
 cases t with
 |clo f ts=>obtain⟨i,e,h⟩:=h;exact⟨i,e,h.copy⟩
 |dead=>exact h
 |undef=>exact h
 |nilc=>exact h
 |val ag cs=>exact TV0.copy (s:=s) (a:=a) (t:= .val ag cs) d h
 |ref p ag m=>exact h
 |rsub p z lo l=>exact h
 |addr p=>exact h
 |rowr p ag m=>exact h
 |addr2 p k q=>exact h
 |paddr cs off=>exact TV0.copy (s:=s) (a:=a) (t:= .paddr cs off) d h
 |tup ts=>exact TV0.copy (s:=s) (a:=a) (t:= .tup ts) d h
 |fn f=>exact h
 |ext p q c=>cases d
theorem Rel.QT (h:Rel E C s a w g) {d:Nat} (f:DOk E d) {t:T} {v:Value} {mk:Nat->aF} (e:t.EI=true) (k:TV s a w g mk t v):
 Rel E C (s.dW [.tm d t]) (a.put (some d) v) w g:=by
 refine h.VL f (Fr.refl _ _ _) h.base rfl ?_;exact TV.copy e (TV.step (K:=λ _=>True) (Fr.refl _ _ _) (λ i=>trivial) (h.QC d t v (Fr.refl _ _ _) rfl) (TV.copy (mk':= .hand) e k))
theorem bT (h:Rel E C s a w g) {d:Nat} (e:o.dst=some d) (f:DOk E d) {t:T} {v:Value} {mk:Nat->aF} (i:(execOp a.eval o).run P w= .ok (.value v) w)
 (k:t.EI=true) (l:TV s a w g mk t v):o.wp P a w (λ a' w'=> ∃g',Rel E C (s.dW [.tm d t]) a' w' g') Q:=by
 unfold Oper.wp;rw[i,Oper.upon_value,e];exact⟨g,h.QT f k l⟩
theorem qo (k:IntKind) (n:Int):TV s a w g .hand (OB k n) (.int k n):=CO w g .hand rfl rfl rfl rfl
theorem vF (b:Bool):TV s a w g .hand (Yl b) (.bool b):=CO w g .hand rfl rfl rfl rfl
theorem adO (b:ByteArray):TV s a w g .hand (ajU b) (.string b):=CO w g .hand rfl rfl rfl rfl
theorem Fg.one {mk:Nat->aF} {c:CV} {v:Value} {ag:Bool} (h:Fg w g mk 0 ag [c] v): ∃u,v.cells.toList= [u]/\jZ w g (mk 0) c u/\(ag=false->u=v):=by
 obtain⟨d,u,l,e,i,f⟩:=h;simp only[aC]at f;subst f;refine⟨u,e,i,λ k=> ?_⟩;rw[k]at d;rw[aH d]at e;simpa using e.symm
theorem Rel.y9 (h:Rel E C s a w g) {d:Nat} (e:DOk E d) {ag:Bool} {cs:LC} {v:Value} (f:isAgg v=ag) (l:aC w g .hand 0 cs v.cells.toList):
 ∃g',Rel E C (s.dW [.tm d (.val ag cs)]) (a.put (some d) v) w g'/\g'.at_=g.at_/\Keeps w w g.F g'.F:=by
 let ρ:aF->aF:=λ o=>match o with| .hand i=> .tm d i|o=>o
 refine⟨g.ren ρ,h.VL e (Fr.ren w g λ o m=> ?_) (h.base.ren ρ) rfl ⟨f,?_⟩,rfl,Keeps.refl _ _⟩
 ·simp only[ρ];cases o<;>simp_all
 ·exact aC.ren cs 0 0 _ (λ k _=>by simp[ρ]) l
theorem eP (s:St) (us d:List Upd):s.dW (us++d)=(s.dW us).dW d:=by simp[St.dW,List.foldl_append]
theorem Ye (h:Rel E C s a w g) {d:Nat} (e:o.dst=some d) (i:DOk E d) {x:Operand} {f:List Sh} {ag:Bool} {cs:LC} {us:List Upd}
 (k:(Ez E s x f).run=some (ag,cs,us)) (l:(execOp a.eval o).run P w= .ok (.value (a.eval x)) w):
 o.wp P a w (λ a' w'=> ∃g',Rel E C (s.dW (us++[.tm d (.val ag cs)])) a' w' g') Q:=by
 obtain⟨u,m,p,q,_,_⟩:=Gw h (hs:=[]) (hv:=[]) rfl k;obtain⟨g2,t,_,_⟩:=m.y9 i p (by simpa using q);unfold Oper.wp;rw[l,Oper.upon_value,e,eP];exact⟨g2,t⟩
theorem aJ {x:Operand} {t:T} (h:Rel E C s a w g) (d:at_ E s x=t) (f:t≠ .nilc):TV s a w g (WU x) t (a.eval x):=by
 rcases h.at_ x with⟨e,_⟩|h
 ·rw[d]at e;exact absurd e f
 ·rw[d]at h;exact h
theorem uS (h:Rel E C s a w g) {x:Operand} {k:IntKind} {n:Int} (f:tY E s x=some (k,n)):at_ E s x= .val false [⟨.int k,.pure,n⟩]/\a.eval x= .int k n:=by
 unfold tY at f;split at f
 ·rename_i m p d;cases f;have:=aJ h d Θ;obtain⟨u,e,i,l⟩:=Fg.one this;exact⟨d,by rw[←l rfl];exact i⟩
 ·cases f
theorem MO (h:Rel E C s a w g) {x:Operand} {b:Bool} (d:wR E s x=some b):a.eval x= .bool b:=by
 unfold wR at d;split at d
 ·rename_i l f;cases d;have:=aJ h f Θ;obtain⟨u,e,i,k⟩:=Fg.one this;rw[←k rfl];exact i
 ·cases d
end
end Go.AM
end
