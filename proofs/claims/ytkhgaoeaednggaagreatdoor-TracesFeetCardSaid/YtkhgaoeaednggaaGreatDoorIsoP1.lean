/-
  values, heaps, the evaluator of isolated heaps, and its first operations: each run of the evaluator stands for a run of the model.
-/
import Derived.Orders
import Derived.Laws.CopyRow
import Derived.Laws.AppendOwn
import Derived.Deep.AppendSrc
import Derived.Laws.MakeOwn
import Derived.ChangeKeysEq
import Derived.Laws.Strings
import Derived.Lib.SmallJoins
import Derived.Lib.Split
set_option linter.unusedSimpArgs false
set_option linter.unusedVariables false
set_option linter.defProp false
namespace Go.Iso
abbrev ao:=@Nat.le_refl
abbrev am:=@And.intro
abbrev aq:=@True.intro
abbrev aQ:=@List.getElem_mem.{0}
abbrev cj:=@List.getElem?_eq_getElem.{0}
abbrev cz:=@List.getD_eq_getElem?_getD.{0}
abbrev bm:=@Int.toNat_natCast
abbrev aT:=@List.map_cons.{0,0}
abbrev bJ:=@List.length_append.{0}
abbrev ge:=@List.take_succ_eq_append_getElem.{0}
abbrev aP:=@List.length_map.{0,0}
abbrev bT:=@List.take_of_length_le.{0}
abbrev aO:=@List.map_nil.{0,0}
abbrev bD:=@Option.bind_some.{0,0}
abbrev bn:=@List.length_set.{0}
abbrev bF:=@Bool.and_eq_true
abbrev bS:=@Nat.lt_of_lt_of_le
abbrev dV:=@Option.bind_eq_some_iff.{0,0}
abbrev ca:=@List.append_assoc.{0}
abbrev dU:=@Option.map_eq_some_iff.{0,0}
abbrev aY:=@Nat.mul_one
abbrev bz:=@Nat.zero_add
abbrev fG:=@List.mem_cons_of_mem.{0}
abbrev cM:=@List.length_cons.{0}
abbrev cK:=@List.getElem_map.{0,0}
abbrev ew:=@List.getElem?_map.{0,0}
abbrev dT:=@List.cons.injEq.{0}
abbrev kC:=@List.mem_or_eq_of_mem_set.{0}
abbrev iQ:=@List.mem_map_of_mem.{0,0}
abbrev eu:=@List.length_nil.{0}
abbrev fF:=@Option.map_some.{0,0}
abbrev i9:=@List.flatten_append.{0}
abbrev i6:=@List.getElem_set_ne.{0}
abbrev cJ:=@Nat.lt_or_ge
abbrev i5:=@Bool.false_eq_true
abbrev iP:=@Option.getD_some.{0}
abbrev dR:=@Nat.le_trans
abbrev lA:=@List.getElem?_eq_none.{0}
abbrev lz:=@List.getElem_set_self.{0}
abbrev i4:=@List.cons_append.{0}
abbrev i2:=@List.length_take.{0}
abbrev iO:=@List.append_nil.{0}
abbrev fE:=@Nat.succ_mul
abbrev oj:=@List.drop_eq_getElem_cons.{0}
abbrev dQ:=@Nat.zero_le
abbrev jW:=@List.flatten_cons.{0}
abbrev ij:=@Prod.mk.injEq.{0,0}
abbrev jV:=@List.ext_getElem.{0}
abbrev kz:=@Option.some.injEq.{0}
abbrev nD:=@Nat.mul_le_mul_right
abbrev ii:=@Nat.le_of_lt
abbrev kw:=@List.nil_append.{0}
abbrev ly:=@List.map_append.{0,0}
abbrev qJ:=@List.take_append_drop.{0}
abbrev oi:=@List.length_reverse.{0}
abbrev vx:=@Array.toList_setIfInBounds.{0}
abbrev kv:=@Nat.add_assoc
abbrev mw:=@Bool.or_eq_true
abbrev qI:=@Array.length_toList.{0}
abbrev qH:=@List.getElem_mapIdx.{0,0}
abbrev yF:=@List.getElem?_append_right.{0}
abbrev qG:=@List.mem_cons_self.{0}
abbrev og:=@List.length_drop.{0}
abbrev yE:=@Array.getElem?_eq_getElem.{0}
abbrev sx:=@Option.bind_eq_bind.{0}
abbrev mv:=@List.all_cons.{0}
abbrev yD:=@List.getElem?_cons_zero.{0}
abbrev KE:=@Array.getElem?_setIfInBounds_self_of_lt.{0}
abbrev BE:=@List.getElem?_append_left.{0}
abbrev BD:=@List.pairwise_iff_getElem.{0}
abbrev BC:=@List.getElem_append_right.{0}
abbrev yC:=@List.length_singleton.{0}
abbrev vw:=@Nat.lt_or_gt_of_ne
abbrev qF:=@List.drop_drop.{0}
abbrev yB:=@List.mem_of_mem_take.{0}
abbrev BB:=@Nat.add_sub_cancel_left
abbrev BA:=@List.pairwise_mergeSort.{0}
abbrev vv:=@List.nodup_append.{0}
abbrev FM:=@Array.getD_eq_getD_getElem?.{0}
abbrev sw:=@List.mem_append.{0}
abbrev yA:=@Array.toList_append.{0}
abbrev yz:=@List.mergeSort_perm.{0}
abbrev qE:=@List.mem_cons.{0}
abbrev Bz:=@Array.getElem?_toList.{0}
abbrev By:=@List.perm_append_comm.{0}
abbrev Bx:=@List.eq_nil_or_concat.{0}
abbrev Bw:=@List.concat_eq_append.{0}
abbrev vu:=@Nat.min_eq_left
abbrev FL:=@List.getElem_append_left.{0}
abbrev FK:=@List.getElem?_replicate.{0}
abbrev Bv:=@List.getD_cons_zero.{0}
abbrev Bu:=@List.getD_cons_succ.{0}
abbrev Bt:=@List.filter_eq_self.{0}
abbrev yy:=@List.all_eq_true.{0}
abbrev vt:=@List.take_zero.{0}
abbrev Bs:=@Option.isSome_none.{0}
abbrev ss:=@Nat.add_zero
abbrev sr:=@Nat.sub_zero
abbrev sq:=@List.map_set.{0,0}
abbrev KD:=@List.sublist_flatten_of_mem.{0}
abbrev qZ:=@List.foldl_cons.{0,0}
abbrev yU:=@List.Perm.append_left.{0}
abbrev yT:=@List.mem_append_right.{0}
abbrev ol:=@Bool.and_self
abbrev uk:=@List.ext_getElem?.{0}
abbrev DU:=@List.extract_eq_take_drop.{0}
abbrev yS:=@List.mem_of_getElem?.{0}
abbrev qY:=@List.mapM_cons.{0,0,0}
abbrev qX:=@List.mem_range
abbrev uj:=@List.take_length.{0}
abbrev ui:=@Bool.not_eq_true
abbrev uh:=@List.getElem_inj.{0}
abbrev DT:=@List.eq_of_mem_replicate.{0}
abbrev IY:=@Array.getElem?_setIfInBounds_ne.{0}
abbrev DS:=@List.getElem?_cons_succ.{0}
abbrev yR:=@Option.isSome_some.{0}
abbrev ug:=@Option.pure_def.{0}
abbrev yQ:=@List.set_cons_succ.{0}
abbrev yP:=@List.mem_singleton.{0}
abbrev yO:=@List.set_cons_zero.{0}
abbrev DR:=@List.drop_of_length_le.{0}
abbrev DQ:=@List.getElem_replicate.{0}
abbrev yN:=@List.size_toArray.{0}
abbrev yM:=@Bool.not_eq_true'
abbrev qW:=@Nat.zero_mul
abbrev uf:=@List.drop_zero.{0}
abbrev qV:=@Nat.le_of_eq
abbrev DP:=@List.length_mergeSort.{0}
abbrev yL:=@List.map_flatten.{0,0}
abbrev IX:=@Nat.lt_of_mul_lt_mul_right
abbrev qU:=@Nat.le_succ
abbrev qT:=@Nat.add_mul
abbrev DO:=@List.replicate_succ.{0}
abbrev DN:=@List.flatMap_append.{0,0}
abbrev ue:=@List.map_map.{0,0,0}
abbrev DM:=@List.length_mapIdx.{0,0}
abbrev qS:=@Array.ext'.{0}
abbrev DL:=@Nat.lt_trichotomy
abbrev DK:=@List.getElem_take.{0}
abbrev yK:=@List.sum_cons.{0}
abbrev yJ:=@Bool.and_true
abbrev yI:=@Bool.true_and
abbrev DJ:=@Option.getD_none.{0}
abbrev DI:=@List.range'_succ
abbrev DH:=@List.filter_cons.{0}
abbrev DG:=@Nat.le_max_right
abbrev DF:=@Nat.lt_of_not_le
abbrev DE:=@List.not_mem_nil.{0}
abbrev IW:=@Nat.le_of_ble_eq_true
abbrev IU:=@List.length_replicate.{0}
abbrev IT:=@List.range_eq_range'
abbrev IS:=@Bool.or_eq_false_iff
abbrev DD:=@Nat.le_max_left
abbrev yH:=@Nat.add_comm
abbrev yG:=@Nat.sub_self
abbrev IR:=@List.getElem_reverse.{0}
abbrev DC:=@Option.some.inj.{0}
inductive IV where
 | bool (b:Bool)
 | int (k:IntKind) (n:Int)
 | str (s:List UInt8)
 | ptr (b o:Nat)
 | nilPtr
 | slice (b o len lb:Nat) (ex:Bool)
 | nilSlice
 | map (b:Nat)
 | nilMap
 | fn (f:FuncId) (first cap:List IV)
 | yield (l:Nat)
 | nilFunc
 | iface (t:TypeId) (v:IV)
 | nilIface
 | agg (cs:List IV)
 | tuple (cs:List IV)
 deriving Inhabited
def IV.undef:IV:=.tuple []
inductive Loc where
 | no
 | dead
 | at (c p ez z:Nat)
abbrev Mu:=Nat->Loc
def LocR(μ:Mu)(b o:Nat)(a:Addr):Prop:=match μ b with|.at c p _ _=>a=⟨c,p+o,none⟩|.dead=>True|.no=>False
def SlR(μ:Mu)(b o:Nat)(ex:Bool)(cap:Nat)(a:Addr):Prop:=match μ b with|.at c p ez z=>(cap=0\/a=⟨c,p+o,none⟩)/\(ex=false->ez≠0->o+cap*ez<=z)|.dead=>True|.no=>False
def adE(n lb:Nat)(ex:Bool)(cap:Nat):Prop:=n<=lb/\lb<=cap/\cap<2^63/\(ex=true->cap=lb)
mutual
def VR(μ:Mu):IV->Value->Prop|.bool b,v=>v=.bool b|.int k n,v=>v=.int k n|.str l,v=>v=.string ⟨⟨l⟩⟩|.ptr b o,v=>∃a:Addr,v=.pointer (some a)/\LocR μ b o a|.nilPtr,v=>v=.pointer none|.slice b o n lb ex,v=>∃(a:Addr) (cap:Nat),v=.slice (some a) n cap/\adE n lb ex cap/\SlR μ b o ex cap a|.nilSlice,v=>v=.slice none 0 0|.map b,v=>∃r:Nat,v=.map (some r)/\LocR μ b 0 ⟨r,0,none⟩|.nilMap,v=>v=.map none|.fn f l r,v=>∃q u:Array Value,v=.func (.func f) q u/\VRs μ l q.toList/\VRs μ r u.toList|.yield b,v=>∃r:Nat,v=.func (.yield r) #[] #[]/\LocR μ b 0 ⟨r,0,none⟩|.nilFunc,v=>v=.nilFunc|.iface t x,v=>∃E:Value,v=.iface t E/\VR μ x E|.nilIface,v=>v=.nilIface|.agg l,v=>∃q:Array Value,v=.agg q/\VRs μ l q.toList|.tuple l,v=>∃q:Array Value,v=.tuple q/\VRs μ l q.toList
def VRs(μ:Mu):List IV->List Value->Prop|[],l=>l=[]|x::xs,l=>∃(y:Value) (ys:List Value),l=y::ys/\VR μ x y/\VRs μ xs ys
end
def Mu.le(μ q:Mu):Prop:=∀b,μ b≠.no->q b=μ b\/q b=.dead
theorem Mu.le_refl(μ:Mu):μ.le μ:=λ_ _=>.inl rfl
theorem Mu.le_trans{a b c:Mu}(h:a.le b)(k:b.le c):a.le c:=λx hx=>by rcases h x hx with e|e;{rw[<-e];exact k x (by rw[e];exact hx)};{rcases k x (by rw[e];exactλh=>by cases h) with q|q<;>grind}
theorem LocR.mono{μ q:Mu}{b o:Nat}{a:Addr}(u:μ.le q)(h:LocR μ b o a):LocR q b o a:=by unfold LocR at *;have hn:μ b≠.no:=by{intro e;rw[e] at h;exact h};rcases u b hn with e|e<;>grind
theorem SlR.mono{μ q:Mu}{b o cap:Nat}{ex:Bool}{a:Addr}(u:μ.le q)(h:SlR μ b o ex cap a):SlR q b o ex cap a:=by unfold SlR at *;have hn:μ b≠.no:=by{intro e;rw[e] at h;exact h};rcases u b hn with e|e<;>grind
mutual
theorem VR.mono{μ E:Mu}(q:μ.le E):∀(x:IV)(v:Value),VR μ x v->VR E x v|.bool _,_,h=>h|.int _ _,_,h=>h|.str _,_,h=>h|.ptr _ _,_,h=>by obtain⟨a,e,k⟩:=h;exact⟨a,e,k.mono q⟩|.nilPtr,_,h=>h|.slice _ _ _ _ _,_,h=>by obtain⟨a,c,e,k,l⟩:=h;exact⟨a,c,e,k,l.mono q⟩|.nilSlice,_,h=>h|.map _,_,h=>by obtain⟨a,e,k⟩:=h;exact⟨a,e,k.mono q⟩|.nilMap,_,h=>h|.fn _ l r,_,h=>by obtain⟨u,J,e,F,I⟩:=h;exact⟨u,J,e,VRs.mono q l _ F,VRs.mono q r _ I⟩|.yield _,_,h=>by obtain⟨a,e,k⟩:=h;exact⟨a,e,k.mono q⟩|.nilFunc,_,h=>h|.iface _ x,_,h=>by obtain⟨K,e,k⟩:=h;exact⟨K,e,VR.mono q x _ k⟩|.nilIface,_,h=>h|.agg l,_,h=>by obtain⟨u,e,k⟩:=h;exact⟨u,e,VRs.mono q l _ k⟩|.tuple l,_,h=>by obtain⟨u,e,k⟩:=h;exact⟨u,e,VRs.mono q l _ k⟩
theorem VRs.mono{μ q:Mu}(u:μ.le q):∀(x:List IV)(v:List Value),VRs μ x v->VRs q x v|[],_,h=>h|x::xs,_,h=>by obtain⟨y,ys,e,k,ks⟩:=h;exact⟨y,ys,e,VR.mono u x _ k,VRs.mono u xs _ ks⟩
end
section
variable {μ:Mu}
theorem VRs.length:∀{l:List IV}{q:List Value},VRs μ l q->l.length=q.length|[],_,h=>by cases h;rfl|_::_,_,h=>by obtain⟨y,ys,rfl,_,k⟩:=h;simp[VRs.length k]
theorem VRs.get:∀{l:List IV}{q:List Value}{i:Nat}{x:IV},VRs μ l q->l[i]? =some x->∃y,q[i]? =some y/\VR μ x y|[],_,_,_,_,h=>by simp at h|a::u,_,0,x,h,e=>by obtain⟨y,ys,rfl,k,_⟩:=h;simp at e;subst e;exact⟨y,by simp,k⟩|a::u,_,i+1,x,h,e=>by obtain⟨y,ys,rfl,_,k⟩:=h;obtain⟨z,F,E⟩:=VRs.get k (i:=i) (by simpa using e);exact⟨z,by simpa using F,E⟩
theorem VRs.append:∀{l:List IV}{q:List Value}{r:List IV}{u:List Value},VRs μ l q->VRs μ r u->VRs μ (l++r) (q++u)|[],_,_,_,h,k=>by cases h;simpa using k|_::_,_,_,_,h,k=>by obtain⟨y,ys,rfl,a,b⟩:=h;exact⟨y,_,rfl,a,b.append k⟩
theorem VRs.take:∀{l:List IV}{q:List Value}(n:Nat),VRs μ l q->VRs μ (l.take n) (q.take n)|[],_,n,h=>by cases h;simp[VRs]|_::_,_,0,_=>by simp[VRs]|_::_,_,n+1,h=>by obtain⟨y,ys,rfl,a,b⟩:=h;exact⟨y,_,rfl,a,b.take n⟩
theorem VRs.drop:∀{l:List IV}{q:List Value}(n:Nat),VRs μ l q->VRs μ (l.drop n) (q.drop n)|[],_,n,h=>by cases h;simp[VRs]|_::_,_,0,h=>h|_::_,_,n+1,h=>by obtain⟨y,ys,rfl,a,b⟩:=h;exact b.drop n
theorem VRs.set:∀{l:List IV}{q:List Value}(i:Nat){x:IV}{y:Value},VRs μ l q->VR μ x y->VRs μ (l.set i x) (q.set i y)|[],_,_,_,_,h,_=>by cases h;simp[VRs]|_::_,_,0,_,y,h,k=>by obtain⟨z,ys,rfl,a,b⟩:=h;exact⟨y,ys,rfl,k,b⟩|_::_,_,i+1,_,_,h,k=>by obtain⟨z,ys,rfl,a,b⟩:=h;exact⟨z,_,rfl,a,b.set i k⟩
theorem AC:∀{l:List IV}{q:List Value},l.length=q.length->(∀(i:Nat)(x:IV)(y:Value),l[i]? =some x->q[i]? =some y->VR μ x y)->VRs μ l q|[],[],_,_=>rfl|[],_::_,h,_=>by simp at h|_::_,[],h,_=>by simp at h|x::xs,y::ys,h,k=>⟨y,ys,rfl,k 0 x y rfl rfl,AC (by simpa using h) λi a b u E=>k (i+1) a b (by simpa using u) (by simpa using E)⟩
end
inductive Tr(α:Type)where
 | leaf
 | node (v:Option α) (l r:Tr α)
def Tr.get{α:Type}:Tr α->Nat->Option α|.leaf,_=>none|.node v l r,i=>match i with|0=>v|j+1=>if j%2=0 then l.get (j / 2) else r.get (j / 2)
def Tr.setF{α:Type}:Nat->Tr α->Nat->α->Tr α|0,t,_,_=>t|f+1,t,i,x=>match t,i with|.leaf,0=>.node (some x) .leaf .leaf|.node _ l r,0=>.node (some x) l r|.leaf,j+1=>if j%2=0 then .node none (Tr.setF f .leaf (j / 2) x) .leaf else .node none .leaf (Tr.setF f .leaf (j / 2) x)|.node v l r,j+1=>if j%2=0 then .node v (Tr.setF f l (j / 2) x) r else .node v l (Tr.setF f r (j / 2) x)
def Tr.set{α:Type}(t:Tr α)(i:Nat)(x:α):Tr α:=Tr.setF (i+1) t i x
theorem pC{α:Type}(i:Nat):(Tr.leaf:Tr α).get i=none:=by unfold Tr.get;rfl
theorem Hu{α:Type}:∀(f:Nat)(t:Tr α)(i j:Nat)(x:α),i<f->(Tr.setF f t i x).get j=if i=j then some x else t.get j:=by intro f;induction f with|zero=>intro t i j x h;omega|succ f F=>intro t i j x h;cases t with|leaf=>(cases i with|zero=>cases j<;>simp[Tr.setF,Tr.get]|succ i=>have E:i / 2<f:=by{omega};by_cases q:i%2=0;{cases j with|zero=>simp[Tr.setF,q,Tr.get]|succ j=>by_cases u:j%2=0;{simp only[Tr.setF,q,if_true,Tr.get,u,F _ _ _ _ E];grind};{simp only[Tr.setF,q,if_true,Tr.get,u,if_false];grind}};{cases j with|zero=>simp[Tr.setF,q,Tr.get]|succ j=>by_cases u:j%2=0;{simp only[Tr.setF,q,if_false,Tr.get,u,if_true];grind};{simp only[Tr.setF,q,if_false,Tr.get,u,F _ _ _ _ E];grind}})|node v l r=>cases i with|zero=>cases j<;>simp[Tr.setF,Tr.get]|succ i=>have E:i / 2<f:=by{omega};by_cases q:i%2=0;{cases j with|zero=>simp[Tr.setF,q,Tr.get]|succ j=>by_cases u:j%2=0;{simp only[Tr.setF,q,if_true,Tr.get,u,F _ _ _ _ E];grind};{simp only[Tr.setF,q,if_true,Tr.get,u,if_false];grind}};{cases j with|zero=>simp[Tr.setF,q,Tr.get]|succ j=>by_cases u:j%2=0;{simp only[Tr.setF,q,if_false,Tr.get,u,if_true];grind};{simp only[Tr.setF,q,if_false,Tr.get,u,F _ _ _ _ E];grind}}
theorem rE{α:Type}(t:Tr α)(i j:Nat)(x:α):(t.set i x).get j=if i=j then some x else t.get j:=Hu _ _ _ _ _ (Nat.lt_succ_self i)
inductive IA where
 | tmp (t:Nat)
 | val (v:IV)
 | glob (g:Nat)
 deriving Inhabited
inductive Pk where
 | bool | int | str
 deriving DecidableEq,Inhabited
inductive Nk where
 | ptr | sl | map | fn
 deriving DecidableEq,Inhabited
inductive Kd where
 | move
 | pick
 | alloc (e ez:Nat) (zs:List IV)
 | box (e ez:Nat)
 | build (zs:List IV) (offs:List (Nat×Nat))
 | buildSl (e ez n:Nat) (zs:List IV) (offs:List (Nat×Nat))
 | load (n:Option Nat)
 | store (n:Nat)
 | nilCheck
 | bin (op:BinOp)
 | eqBool (neg:Bool)
 | eqFlat (neg:Bool) (ds:List Pk)
 | eqNil (neg:Bool) (k:Nk)
 | un (op:UnOp)
 | conv (k:IntKind)
 | iface (t:TypeId)
 | mkfn (f:FuncId) (k:Nat)
 | mkmap
 | mksl (e ez bytes:Nat) (zs:List IV)
 | slc (size:Nat) (lo hi mx:Bool)
 | slcStr (lo hi:Bool)
 | slcArr (e n size:Nat) (lo hi mx:Bool)
 | fieldAddr (off:Nat)
 | field (off:Nat) (n:Option Nat)
 | idxSl (size:Nat)
 | idxArrAddr (len size:Nat)
 | idxArr (len size:Nat) (n:Option Nat)
 | idxStr
 | lookup (t:TypeId) (ky:Bool×List Pk) (zero:IV) (ok:Bool)
 | mapUpd (ky:Bool×List Pk)
 | mapEntry (t:TypeId) (ky:Bool×List Pk) (zero:IV)
 | entryStore
 | delete (ky:Bool×List Pk)
 | lenSl
 | lenStr
 | lenArr (n:Nat)
 | lenMap
 | cap
 | append (e size bytes:Nat)
 | copy (size:Nat)
 | min
 | max
 | extract (i:Nat)
 | clear (zs:List IV)
 | appendZ (e size bytes:Nat) (zs:List IV)
 | strOf
 | rangeM
 | nextM
 | entryM
 | call
 deriving Inhabited
structure IOp where
 dst:Option Nat
 kd:Kd
 args:List IA
 guard:Option (Nat×Bool)
 amb:Bool
 idx:Nat
 mask:Nat
 deriving Inhabited
inductive Sg where
 | seq | free
 deriving DecidableEq,Inhabited
inductive IC where
 | skip
 | ops (l:List (Sg×List IOp))
 | seq (a b:IC)
 | cond (c:IA) (a b:IC)
 | block (id:Nat) (c:IC)
 | scope (c:IC)
 | loop (c:IC)
 | rfn (f:IA) (ps:List Nat) (asg body:IC)
 | exit (id:Nat)
 | ret
 deriving Inhabited
inductive Jmp where
 | exit (id:Nat)
 | ret
inductive IObj where
 | cells (ro:Bool) (e ez:Nat) (cs:List IV)
 | map (es:List (IV×IV×Nat)) (clock:Nat)
 | loop (st:LoopState) (pend:Option Jmp) (tm:List IV) (ps:List Nat) (asg body:IC) (df:Nat)
 | deferred
 | taken
 | iter (m:Option Nat) (since:Nat) (seen:List Nat) (last:Nat)
 | dead
structure Heap where
 n:Nat
 t:Tr IObj
def Heap.get(H:Heap)(b:Nat):Option IObj:=H.t.get b
def Heap.put(H:Heap)(b:Nat)(o:IObj):Heap:=⟨H.n,H.t.set b o⟩
def Heap.new(H:Heap)(o:IObj):Heap:=⟨H.n+1,H.t.set H.n o⟩
theorem aa(H:Heap)(b b':Nat)(o:IObj):(H.put b o).get b'=if b=b' then some o else H.get b':=rE _ _ _ _
theorem aj(H:Heap)(b':Nat)(o:IObj):(H.new o).get b'=if H.n=b' then some o else H.get b':=rE _ _ _ _
theorem ae(H:Heap)(b:Nat)(o:IObj):(H.put b o).n=H.n:=rfl
theorem ac(H:Heap)(o:IObj):(H.new o).n=H.n+1:=rfl
def IV.cells:IV->List IV|.agg l=>l|v=>[v]
def ax:List IV->Nat->List IV->List IV|[],_,_=>[]|c::cs,0,[]=>c::cs|_::cs,0,v::vs=>v::ax cs 0 vs|c::cs,o+1,vs=>c::ax cs o vs
def Heap.read(H:Heap)(b o n:Nat):Option (List IV):=match H.get b with|some (.cells _ _ _ cs)=>if o+n<=cs.length then some ((cs.drop o).take n) else none|_=>none
def IV.one:IV->Bool|.agg _|.tuple _=>false|_=>true
def Heap.write(H:Heap)(lo b o:Nat)(vs:List IV):Option Heap:=match H.get b with|some (.cells false e ez cs)=>if lo<=b/\o+vs.length<=cs.length/\vs.all IV.one then some (H.put b (.cells false e ez (ax cs o vs))) else none|_=>none
def ak(n:Option Nat)(l:List IV):Option IV:=match n,l with|some _,l=>some (.agg l)|none,[v]=>some v|none,_=>none
def ce:List (Nat×Nat)->List IV->List IV->Option (List IV)|[],[],cs=>some cs|(off,size)::q,v::vs,cs=>if v.cells.length=size/\off+size<=cs.length then ce q vs (ax cs off v.cells) else none|_,_,_=>none
def M7:Pk->IV->IV->Option Bool|.bool,.bool a,.bool b=>some (a==b)|.int,.int k a,.int q b=>if k=q then some (a==b) else none|.str,.str a,.str b=>some (a==b)|_,_,_=>none
def jD:List Pk->List IV->List IV->Option Bool|[],[],[]=>some true|d::ds,x::xs,y::ys=>(match M7 d x y,jD ds xs ys with|some a,some b=>some (a&&b)|_,_=>none)|_,_,_=>none
def Th:Pk->IV->Bool|.bool,.bool _=>true|.int,.int _ _=>true|.str,.str _=>true|_,_=>false
def sS:List Pk->List IV->Bool|[],[]=>true|d::ds,x::xs=>Th d x&&sS ds xs|_,_=>false
def pu(op:BinOp):IV->IV->Option IV|.int k a,.int q b=>(match op with|.shl=>if b<0 then none else some (.int k (k.wrap (a*2^(Min.min b.toNat k.bits))))|.shr=>if b<0 then none else some (.int k (a.fdiv (2^(Min.min b.toNat k.bits))))|_=>if k=q then match op with|.add=>some (.int k (k.wrap (a+b)))|.sub=>some (.int k (k.wrap (a - b)))|.mul=>some (.int k (k.wrap (a*b)))|.quo=>if b=0 then none else some (.int k (k.wrap (a.tdiv b)))|.rem=>if b=0 then none else some (.int k (a.tmod b))|.and=>some (.int k (k.wrap (BitVec.ofInt k.bits a&&& BitVec.ofInt k.bits b).toNat))|.or=>some (.int k (k.wrap (BitVec.ofInt k.bits a||| BitVec.ofInt k.bits b).toNat))|.xor=>some (.int k (k.wrap (BitVec.ofInt k.bits a^^^BitVec.ofInt k.bits b).toNat))|.andNot=>some (.int k (k.wrap (BitVec.ofInt k.bits a&&& ~~~(BitVec.ofInt k.bits b)).toNat))|.eql=>some (.bool (a==b))|.neq=>some (.bool (a !=b))|.lss=>some (.bool (decide (a<b)))|.leq=>some (.bool (decide (a<=b)))|.gtr=>some (.bool (decide (a>b)))|.geq=>some (.bool (decide (a>=b)))|_=>none else none)|.str a,.str b=>(match op with|.add=>if a.length+b.length<2^40 then some (.str (a++b)) else none|.eql=>some (.bool (a==b))|.neq=>some (.bool !(a==b))|.lss=>some (.bool (Op.bytesLess a b))|.leq=>some (.bool (Op.bytesLess a b||a==b))|.gtr=>some (.bool !(Op.bytesLess a b||a==b))|.geq=>some (.bool !(Op.bytesLess a b))|_=>none)|_,_=>none
def VQ(op:UnOp):IV->Option IV|.int k n=>(match op with|.neg=>some (.int k (k.wrap (0 - n)))|.xor=>some (.int k (k.wrap (BitVec.ofInt k.bits (if k.signed then -1 else k.max)^^^BitVec.ofInt k.bits n).toNat))|_=>none)|.bool b=>(match op with|.not=>some (.bool !b)|_=>none)|_=>none
def lj:Nk->IV->Option Bool|.ptr,.nilPtr|.sl,.nilSlice|.map,.nilMap|.fn,.nilFunc=>some true|.ptr,.ptr _ _|.sl,.slice _ _ _ _ _|.map,.map _|.fn,.fn _ _ _=>some false|_,_=>none
def cn(y:Nat):IV->Option Nat|.int _ n=>if 0<=n/\n<=(y:Int) then some n.toNat else none|_=>none
def bu(len q:Nat)(lo u mx:Bool)(l:List IV):Option (Nat×Nat×Option Nat):=match lo,u,mx,l with|false,false,false,[]=>some (0,len,none)|true,false,false,[a]=>(cn len a).map λa=>(a,len,none)|false,true,false,[b]=>(cn q b).map λb=>(0,b,none)|true,true,false,[a,b]=>(cn q b).bind λb=>(cn b a).map λa=>(a,b,none)|false,true,true,[b,c]=>(cn q c).bind λc=>(cn c b).map λb=>(0,b,some c)|true,true,true,[a,b,c]=>(cn q c).bind λc=>(cn c b).bind λb=>(cn b a).map λa=>(a,b,some c)|_,_,_,_=>none
def bg(q:Bool):IV->Bool|.agg _=>q|_=>!q
def cD(q:Bool×List Pk)(k:IV):Bool:=bg q.1 k&&sS q.2 k.cells
def fI(q:Bool×List Pk)(k u:IV):Option Bool:=if bg q.1 k&&bg q.1 u then jD q.2 k.cells u.cells else none
def aL(q:Bool×List Pk)(k:IV):List (IV×IV×Nat)->Nat->Option (Option (Nat×IV))|[],_=>some none|(E,v,_)::u,i=>match fI q k E with|some true=>some (some (i,v))|some false=>aL q k u (i+1)|none=>none
def gW(H:Heap)(size n:Nat):IV->Option (List IV)|.nilSlice=>if n=0 then some [] else none|.slice b o _ _ _=>if n=0 then some [] else H.read b o (n*size)|.str s=>if n<=s.length/\size=1 then some ((s.take n).map λc=>.int .u8 c.toNat) else none|_=>none
def lS:IV->Option Nat|.nilSlice=>some 0|.slice _ _ n _ _=>some n|.str s=>some s.length|_=>none
def lL:Nat->List IV->List IV|0,_=>[]|n+1,zs=>zs++lL n zs
def pt:List IV->Option (List UInt8)|[]=>some []|.int .u8 n::l=>(pt l).map (UInt8.ofNat n.toNat::·)|_=>none
def cx(e size bytes:Nat)(s:IV)(xs:List IV)(n lo:Nat)(H:Heap):Option (IV×Heap):=if xs.all IV.one=false then none else match s with|.nilSlice=>if n=0 then some (.nilSlice,H) else if n*(bytes+1)<=2^40 then some (.slice H.n 0 n n false,H.new (.cells false e size xs)) else none|.slice b o len lb ex=>if n=0 then some (.slice b o len lb ex,H) else if len+n<=lb then(H.write lo b (o+len*size) xs).map λH'=>(.slice b o (len+n) lb ex,H') else if (len+n)*(bytes+1)<=2^40 then if ex then(gW H size len s).map λold=>(.slice H.n 0 (len+n) (len+n) false,H.new (.cells false e size (old++xs))) else match H.get b with|some (.cells false q ez cs)=>if q=e/\ez=size/\0<size/\o=0/\lo<=b/\len*size<=cs.length then some (.slice H.n 0 (len+n) (len+n) false,(H.put b .dead).new (.cells false e size (cs.take (len*size)++xs))) else none|_=>none else none|_=>none
def eC{α:Type}:List α->Nat->List α|[],_=>[]|_::l,0=>l|x::l,i+1=>x::eC l i
def eo(key val:IV):List (IV×IV×Nat)->Nat->List (IV×IV×Nat)|[],_=>[]|(_,_,s)::l,0=>(key,val,s)::l|x::l,i+1=>x::eo key val l i
def eq(val:IV)(born:Int):List (IV×IV×Nat)->Option (List (IV×IV×Nat))|[]=>none|(k,v,s)::l=>if (s:Int)=born then some ((k,val,s)::l) else(eq val born l).map ((k,v,s)::·)
def aG(H:Heap)(b:Nat):Option (List (IV×IV×Nat)×Nat):=match H.get b with|some (.map q c)=>some (q,c)|_=>none
def stepM(H:Heap)(r:Nat):Option (IV×Option IObj):=match H.get r with|some (.iter none _ _ _)=>some (.tuple [.bool false],none)|some (.iter (some b) q seen E)=>(match aG H b with|none=>none|some (F,u)=>if seen≠[]/\F≠[]/\(F.all λe=>decide (E<=e.2.2))=true then none else match F.filter λe=>!seen.contains e.2.2 with|[]=>some (.tuple [.bool false],none)|[(k,v,s)]=>if s<q then some (.tuple [.bool true,k,v],some (.iter (some b) q (seen++[s]) u)) else none|_=>none)|_=>none
def zQ(H:Heap)(r:Nat):Option IV:=match H.get r with|some (.iter (some b) _ seen u)=>(match seen.getLast? with|none=>none|some s=>match aG H b with|none=>none|some (E,q)=>if q=u then(E.find? λe=>e.2.2==s).map λe=>.tuple [e.1,e.2.1] else none)|_=>none
def Js(H:Heap)(b size:Nat):Bool:=match H.get b with|some (.cells q _ ez _)=>q||ez==size|_=>false
def ni:IV->Option Nat|.nilSlice=>some 0|.slice _ _ n _ _=>some n|_=>none
def ev1(kd:Kd)(xs:List IV)(lo:Nat)(H:Heap):Option (IV×Heap):=match kd with|.move=>(match xs with|[x]=>some (x,H)|_=>none)|.pick=>(match xs with|[.bool c,a,b]=>some (if c then a else b,H)|_=>none)|.alloc e ez zs=>(match xs with|[]=>some (.ptr H.n 0,H.new (.cells false e ez zs))|_=>none)|.box e ez=>(match xs with|[x]=>some (.ptr H.n 0,H.new (.cells false e ez x.cells))|_=>none)|.build zs I=>(match xs with|xs=>(ce I xs zs).map λcs=>(.agg cs,H))|.buildSl e ez n zs I=>(match xs with|xs=>(ce I xs zs).map λcs=>(.slice H.n 0 n n true,H.new (.cells false e ez cs)))|.load n=>(match xs with|[.ptr b o]=>(H.read b o (n.getD 1)).bind λcs=>(ak n cs).map λv=>(v,H)|_=>none)|.store n=>(match xs with|[.ptr b o,x]=>if x.cells.length=n then(H.write lo b o x.cells).map λH'=>(IV.undef,H') else none|_=>none)|.nilCheck=>(match xs with|[x]=>(match x with|.nilPtr|.nilIface|.nilFunc|.yield _=>none|x=>some (x,H))|_=>none)|.bin op=>(match xs with|[x,y]=>(pu op x y).map (·,H)|_=>none)|.eqBool neg=>(match xs with|[.bool a,.bool b]=>some (.bool (neg !=(a==b)),H)|_=>none)|.eqFlat neg ds=>(match xs with|[.agg x,.agg y]=>(jD ds x y).map λr=>(.bool (neg !=r),H)|_=>none)|.eqNil neg T=>(match xs with|[x,y]=>(match lj T x,lj T y with|some true,some r=>some (.bool (neg !=r),H)|some r,some true=>some (.bool (neg !=r),H)|_,_=>none)|_=>none)|.un op=>(match xs with|[x]=>(VQ op x).map (·,H)|_=>none)|.conv k=>(match xs with|[.int _ n]=>some (.int k (k.wrap n),H)|_=>none)|.iface t=>(match xs with|[x]=>some (.iface t x,H)|_=>none)|.mkfn f k=>(match xs with|xs=>some (.fn f (xs.take k) (xs.drop k),H))|.mkmap=>(match xs with|[]=>some (.map H.n,H.new (.map [] 0))|[.int _ _]=>some (.map H.n,H.new (.map [] 0))|_=>none)|.rangeM=>(match xs with|[.nilMap]=>some (.ptr H.n 0,H.new (.iter none 0 [] 0))|[.map b]=>(aG H b).map λp=>(.ptr H.n 0,H.new (.iter (some b) p.2 [] p.2))|_=>none)|.entryM=>(match xs with|[.ptr r 0]=>(zQ H r).map (·,H)|_=>none)|.nextM=>(match xs with|[.ptr r 0]=>if lo<=r then(stepM H r).map λp=>(p.1,match p.2 with|none=>H|some o=>H.put r o) else none|_=>none)|.mksl e ez bytes zs=>(match xs with|[.int _ l,.int _ c]=>if 0<=l/\l<=c/\c*(bytes+1)<=2^40 then some (.slice H.n 0 l.toNat c.toNat true,H.new (.cells false e ez (lL c.toNat zs))) else none|_=>none)|.slc size lo K mx=>(match xs with|s::l=>(match s with|.nilSlice=>(bu 0 0 lo K mx l).bind λ(a,b,_)=>if a=0/\b=0 then some (.nilSlice,H) else none|.slice b o len lb ex=>if ex||Js H b size then (bu len lb lo K mx l).map λ(a,h,m)=>match m with|some m=>(.slice b (o+a*size) (h - a) (m - a) true,H)|none=>(.slice b (o+a*size) (h - a) (lb - a) ex,H) else none|_=>none)|_=>none)|.slcStr lo K=>(match xs with|.str s::l=>(bu s.length s.length lo K false l).map λ(a,h,_)=>(.str ((s.drop a).take (h - a)),H)|_=>none)|.slcArr _ n size lo K mx=>(match xs with|.ptr b o::l=>(bu n n lo K mx l).bind λ(a,h,m)=>if 0<n/\n<=2^40 then some (.slice b (o+a*size) (h - a) (m.getD n - a) true,H) else none|_=>none)|.fieldAddr off=>(match xs with|[.ptr b o]=>some (.ptr b (o+off),H)|_=>none)|.field off n=>(match xs with|[.agg cs]=>if off+n.getD 1<=cs.length then(ak n ((cs.drop off).take (n.getD 1))).map λv=>(v,H) else none|_=>none)|.idxSl size=>(match xs with|[.slice b o len _ _,.int _ i]=>if 0<=i/\i<(len:Int) then some (.ptr b (o+i.toNat*size),H) else none|_=>none)|.idxArrAddr len size=>(match xs with|[.ptr b o,.int _ i]=>if 0<=i/\i<(len:Int) then some (.ptr b (o+i.toNat*size),H) else none|_=>none)|.idxArr len size n=>(match xs with|[.agg cs,.int _ i]=>if 0<=i/\i<(len:Int)/\i.toNat*size+n.getD 1<=cs.length then(ak n ((cs.drop (i.toNat*size)).take (n.getD 1))).map λv=>(v,H) else none|_=>none)|.idxStr=>(match xs with|[.str s,.int _ i]=>if 0<=i then(s[i.toNat]?).map λc=>(.int .u8 c.toNat,H) else none|_=>none)|.lookup _ F E ok=>(match xs with|[m,k]=>(match (match m with|.nilMap=>some []|.map b=>(aG H b).map (·.1)|_=>none) with|none=>none|some u=>if cD F k then match aL F k u 0 with|none=>none|some r=>let (v,J):IV×Bool:=match r with|some (_,v)=>(v,true)|none=>(E,false);some (if ok then .tuple [v,.bool J] else v,H) else none)|_=>none)|.mapUpd F=>(match xs with|[.map b,k,v]=>(match aG H b with|none=>none|some (u,q)=>if lo<=b/\cD F k then match aL F k u 0 with|none=>none|some (some (i,_))=>some (IV.undef,H.put b (.map (eo k v u i) q))|some none=>some (IV.undef,H.put b (.map (u++[(k,v,q)]) (q+1))) else none)|_=>none)|.mapEntry _ F E=>(match xs with|[.map b,k]=>(match aG H b with|none=>none|some (u,q)=>if lo<=b/\cD F k then match aL F k u 0 with|none=>none|some (some (i,v))=>(u[i]?).map λe=>(.tuple [v,.int .i64 e.2.2],H.put b (.map (eo k v u i) q))|some none=>some (.tuple [E,.int .i64 q],H.put b (.map (u++[(k,E,q)]) (q+1))) else none)|_=>none)|.entryStore=>(match xs with|[.map b,.int _ s,v]=>(match aG H b with|none=>none|some (u,q)=>if lo<=b then(eq v s u).map λO=>(IV.undef,H.put b (.map O q)) else none)|_=>none)|.delete F=>(match xs with|[.map b,k]=>(match aG H b with|none=>none|some (u,q)=>if lo<=b/\cD F k then match aL F k u 0 with|none=>none|some (some (i,_))=>some (IV.undef,H.put b (.map (eC u i) q))|some none=>some (IV.undef,H) else none)|_=>none)|.lenSl=>(match xs with|[x]=>(match x with|.nilSlice=>some (.int .i64 0,H)|.slice _ _ n _ _=>some (.int .i64 n,H)|_=>none)|_=>none)|.lenStr=>(match xs with|[.str s]=>some (.int .i64 s.length,H)|_=>none)|.lenArr n=>(match xs with|[_]=>some (.int .i64 n,H)|_=>none)|.lenMap=>(match xs with|[m]=>(match m with|.nilMap=>some (.int .i64 0,H)|.map b=>(aG H b).map λ(u,_)=>(.int .i64 u.length,H)|_=>none)|_=>none)|.cap=>(match xs with|[x]=>(match x with|.nilSlice=>some (.int .i64 0,H)|.slice _ _ _ c true=>some (.int .i64 c,H)|_=>none)|_=>none)|.append e size bytes=>(match xs with|[s,x]=>(lS x).bind λn=>(gW H size n x).bind λxs=>cx e size bytes s xs n lo H|_=>none)|.copy size=>(match xs with|[d,s]=>(match ni d,lS s with|some n,some m=>(let k:=Min.min m n;if k=0 then some (.int .i64 0,H) else(gW H size k s).bind λxs=>match d with|.slice b o _ _ _=>(H.write lo b o xs).map λH'=>(.int .i64 k,H')|_=>none)|_,_=>none)|_=>none)|.min=>(match xs with|[.int k a,.int Q b]=>if k=Q then some (.int k (if b<a then b else a),H) else none|_=>none)|.max=>(match xs with|[.int k a,.int Q b]=>if k=Q then some (.int k (if b>a then b else a),H) else none|_=>none)|.clear zs=>(match xs with|[x]=>(match x with|.nilSlice=>some (.tuple [],H)|.slice b o n _ _=>if n=0 then some (.tuple [],H) else(H.write lo b o (lL n zs)).map λH'=>(.tuple [],H')|_=>none)|_=>none)|.appendZ e size bytes zs=>(match xs with|[s,.int _ n]=>if 0<=n/\n*(bytes+1)<=2^40 then cx e size bytes s (lL n.toNat zs) n.toNat lo H else none|_=>none)|.strOf=>(match xs with|[x]=>(match x with|.nilSlice=>some (.str [],H)|.slice b o n _ _=>if n=0 then some (.str [],H) else(H.read b o n).bind λcs=>(pt cs).map λs=>(.str s,H)|_=>none)|_=>none)|.extract i=>(match xs with|[.tuple l]=>(l[i]?).map (·,H)|_=>none)|.call=>none
structure IFn where
 ntmps:Nat
 results:List (Nat×Option (Option Nat))
 body:IC
structure Fr where
 tm:List IV
 marks:List Nat
inductive Ex where
 | normal
 | jmp (j:Jmp)
inductive Fp where
 | none
 | rd (b o n:Nat)
 | wr (b o n:Nat)
 | wb (b:Nat)
 | lk (t:TypeId) (ky:Bool×List Pk) (b:Nat) (k:IV)
 | me (t:TypeId) (ky:Bool×List Pk) (b:Nat) (k:IV)
abbrev cI:=List (Nat×Fp)
inductive Task where
 | code (c:IC) (rd:Option Nat) (fr:Fr)
 | segs (l:List (Sg×List IOp)) (rd:Option Nat) (fr:Fr)
 | ops (free:Option cI) (l:List IOp) (rd:Option Nat) (fr:Fr)
 | call (f:FuncId) (args:List IV)
 | apply (f:IV) (args:List IV)
inductive Out where
 | ex (e:Ex) (fr:Fr)
 | val (v:IV)
structure Env where
 fns:FuncId→Option IFn
 sums:FuncId→Option (List IV→Nat→Heap→Option (IV×Heap))
 g0:Nat
def IA.eval(g0:Nat)(tm:List IV):IA->Option IV|.tmp t=>some (tm.getD t IV.undef)|.val v=>some v|.glob g=>if g<g0 then some (.ptr g 0) else none
def br(g0:Nat)(tm:List IV):List IA->Option (List IV)|[]=>some []|x::xs=>match x.eval g0 tm with|none=>none|some v=>match br g0 tm xs with|none=>none|some vs=>some (v::vs)
def Fr.put(fr:Fr)(dst:Option Nat)(v:IV):Fr:=match dst with|none=>fr|some d=>{fr with tm:=fr.tm.set d v}
def bY(tm:List IV):Option (Nat×Bool)->Bool|none=>true|some (t,q)=>match tm.getD t IV.undef with|.bool b=>b==q|_=>false
def iN(H:Heap)(tm:List IV):Nat×Option (Option Nat)->Option IV|(t,none)=>some (tm.getD t IV.undef)|(t,some n)=>match tm.getD t IV.undef with|.ptr b o=>(H.read b o (n.getD 1)).bind (ak n)|_=>none
def aA(H:Heap)(tm:List IV):List (Nat×Option (Option Nat))->Option (List IV)|[]=>some []|r::rs=>match iN H tm r,aA H tm rs with|some v,some vs=>some (v::vs)|_,_=>none
def fS:List IV->IV|[v]=>v|l=>.tuple l
def bQ(lo:Nat):List Nat->Heap->Option Heap|[],H=>some H|r::rs,H=>match H.get r with|some .deferred=>if lo<=r then bQ lo rs (H.put r .taken) else none|_=>none
def fC:List IV->List Nat->List IV->List IV|tm,p::q,v::vs=>fC (tm.set p v) q vs|tm,_,_=>tm
def cF:Nat->List IV|0=>[]|n+1=>IV.undef::cF n
def Kd.pure:Kd->Bool|.move|.pick|.build _ _|.nilCheck|.bin _|.eqBool _|.eqFlat _ _|.eqNil _ _|.un _|.conv _|.iface _|.mkfn _ _|.fieldAddr _|.field _ _|.idxSl _|.idxArrAddr _ _|.idxArr _ _ _|.idxStr|.lenSl|.lenStr|.lenArr _|.cap|.min|.max|.extract _=>true|_=>false
def Kd.isStore:Kd->Bool|.store _=>true|_=>false
def jn(b o n b' o' q:Nat):Bool:=b≠b'||o+n<=o'||o'+q<=o
def bk:Fp->Fp->Bool|.rd b o n,.wr b' o' q|.wr b o n,.rd b' o' q|.wr b o n,.wr b' o' q=>jn b o n b' o' q|.wb b,.rd b' _ _|.rd b' _ _,.wb b|.wb b,.wr b' _ _|.wr b' _ _,.wb b|.wb b,.wb b'|.wb b,.lk _ _ b' _|.lk _ _ b' _,.wb b|.wb b,.me _ _ b' _|.me _ _ b' _,.wb b=>b≠b'|.lk _ _ b _,.wr b' _ _|.wr b' _ _,.lk _ _ b _|.rd b _ _,.me _ _ b' _|.me _ _ b' _,.rd b _ _|.wr b _ _,.me _ _ b' _|.me _ _ b' _,.wr b _ _|.me _ _ b' _,.me _ _ b _=>b≠b'|.lk t E b k,.me F _ b' u|.me F _ b' u,.lk t E b k=>b≠b'||(t==F&&(match fI E k u with|some true=>true|_=>false))|_,_=>true
def fN(o:IOp)(xs:List IV):Option Fp:=match o.kd,xs with|.store n,[.ptr b a,_]=>some (.wr b a n)|.store _,_=>none|.load n,[.ptr b a]=>some (.rd b a (n.getD 1))|.load _,_=>none|.lookup t q _ false,[.map b,k]=>some (.lk t q b k)|.lookup _ _ _ false,[.nilMap,_]=>some .none|.lookup _ _ _ false,_=>none|.append _ _ _,.slice b _ _ _ _::_=>some (if o.amb then .wb b else .none)|.appendZ _ _ _ _,.slice b _ _ _ _::_=>some (if o.amb then .wb b else .none)|.mapEntry t q _,[.map b,k]=>some (if o.amb then .me t q b k else .none)|_,_=>some .none
def mC(q:cI)(o:IOp)(xs:List IV):Option cI:=match fN o xs with|none=>none|some f=>if q.all λp=>o.mask.testBit p.1||bk p.2 f then some ((o.idx,f)::q) else none
def dW(free:Option cI)(o:IOp)(lo:Nat)(H:Heap):Nat:=match free with|none=>lo|some _=>if o.amb then lo else H.n
def ba(free:Option cI)(o:IOp)(xs:List IV):Option (Option cI):=match free with|none=>some none|some q=>(mC q o xs).map some
def iU(rd:Option Nat)(H:Heap):Option (Nat×List Nat×Heap):=match rd with|none=>some (H.n,[H.n],H.new .deferred)|some l=>match H.get l with|some (.loop _ _ _ _ _ _ q)=>some (q,[],H)|_=>none
def jm(l:Nat)(H:Heap):Option Heap:=match H.get l with|some (.loop .ready pend tm E q body u)=>some (H.put l (.loop .busy pend tm E q body u))|_=>none
def AZ(l:Nat)(e:Ex)(H:Heap):Option (Out×Heap):=match H.get l with|some (.loop _ _ tm E q body u)=>(match e with|.normal=>some (.val (.bool true),H.put l (.loop .ready none tm E q body u))|.jmp j=>some (.val (.bool false),H.put l (.loop .done (some j) tm E q body u)))|_=>none
def run(E:Env):Nat->Task->Nat->Heap->Option (Out×Heap)|0,_,_,_=>none|n+1,t,lo,H=>match t with|.code c rd fr=>(match c with|.skip=>some (.ex .normal fr,H)|.exit id=>some (.ex (.jmp (.exit id)) fr,H)|.ret=>some (.ex (.jmp .ret) fr,H)|.ops l=>run E n (.segs l rd fr) lo H|.seq a b=>(match run E n (.code a rd fr) lo H with|some (.ex .normal q,H')=>run E n (.code b rd q) lo H'|r=>r)|.cond c a b=>(match c.eval E.g0 fr.tm with|some (.bool true)=>run E n (.code a rd fr) lo H|some (.bool false)=>run E n (.code b rd fr) lo H|_=>none)|.block id c=>(match run E n (.code c rd fr) lo H with|some (.ex (.jmp (.exit O)) q,H')=>some (.ex (if O=id then .normal else .jmp (.exit O)) q,H')|r=>r)|.loop c=>(match run E n (.code c rd fr) lo H with|some (.ex .normal q,H')=>run E n (.code (.loop c) rd q) lo H'|r=>r)|.scope c=>run E n (.code c rd fr) lo H|.rfn f J u body=>match f.eval E.g0 fr.tm,iU rd H with|some g,some (U,marks,H1)=>(match run E n (.apply g [.yield H1.n]) lo (H1.new (.loop .ready none fr.tm J u body U)) with|some (.val _,Q)=>(match Q.get H1.n with|some (.loop st pend tm J u body U)=>(if st=.busy\/H1.n<lo then none else let T:=Q.put H1.n (.loop .exhausted pend tm J u body U);let q:Fr:={fr with marks:=marks++fr.marks};match pend with|none=>some (.ex .normal q,T)|some j=>some (.ex (.jmp j) q,T))|_=>none)|_=>none)|_,_=>none)|.segs l rd fr=>(match l with|[]=>some (.ex .normal fr,H)|(k,os)::l=>match run E n (.ops (match k with|.seq=>none|.free=>some []) os rd fr) lo H with|some (.ex .normal q,H')=>run E n (.segs l rd q) lo H'|_=>none)|.ops free l rd fr=>(match l with|[]=>some (.ex .normal fr,H)|o::l=>if bY fr.tm o.guard then match br E.g0 fr.tm o.args with|none=>none|some xs=>match ba free o xs with|none=>none|some F=>match o.kd with|.call=>(match xs with|f::xs=>(match run E n (.apply f xs) (dW free o lo H) H with|some (.val v,H')=>run E n (.ops F l rd (fr.put o.dst v)) lo H'|_=>none)|[]=>none)|kd=>match ev1 kd xs (dW free o lo H) H with|some (v,H')=>run E n (.ops F l rd (fr.put o.dst v)) lo H'|none=>none else run E n (.ops free l rd (fr.put o.dst IV.undef)) lo H)|.apply f args=>(match f with|.fn f I cap=>run E n (.call f (I++args++cap)) lo H|.yield l=>(match H.get l with|some (.loop _ _ tm J u body _)=>if args.length=J.length/\lo<=l then match run E n (.code u (some l) ⟨fC tm J args,[]⟩) lo H with|some (.ex .normal fr,H1)=>(match jm l H1 with|some Q=>(match run E n (.code body (some l) fr) lo Q with|some (.ex e _,T)=>AZ l e T|_=>none)|none=>none)|_=>none else none|_=>none)|_=>none)|.call f args=>match E.sums f with|some s=>(s args lo H).map λ(v,H')=>(.val v,H')|none=>match E.fns f with|none=>none|some fn=>match run E n (.code fn.body none ⟨args++cF (fn.ntmps - args.length),[]⟩) lo H with|some (.ex e fr,H')=>(match e with|.jmp (.exit _)=>none|_=>match bQ lo fr.marks H' with|none=>none|some K=>(aA K fr.tm fn.results).map λvs=>(.val (fS vs),K))|_=>none
def qL:Nat->Value->Option IV|0,_=>none|n+1,v=>match v with|.bool b=>some (.bool b)|.int k n=>some (.int k n)|.string s=>some (.str s.data.toList)|.pointer none=>some .nilPtr|.slice none 0 0=>some .nilSlice|.map none=>some .nilMap|.nilFunc=>some .nilFunc|.nilIface=>some .nilIface|.agg cs=>(cs.toList.mapM (qL n)).map .agg|_=>none
def nG:Operand->Option IA|.tmp t=>some (.tmp t)|.const v=>(qL 3 v).map .val|.global g=>some (.glob g)|.func f=>some (.val (.fn f [] []))
section
variable (P:Program)
def aR(t:TypeId):Option Nat:=(P.info? t).map (·.size)
def jk(t:TypeId):Option Nat:=(P.info? t).map (·.bytes)
def rD(t:TypeId):Option (Option Nat):=match P.underlying t,aR P t with|some (.struct _),some n=>some (some n)|some (.array _ _),some n=>some (some n)|some (.struct _),none=>none|some (.array _ _),none=>none|some _,some _=>some none|_,_=>none
def iy(t:TypeId):Option IV:=((P.info? t).bind (·.zero)).bind (qL 3)
def m8(av:TypeId->Option (List Pk)):List Field->Nat->Option (List Pk)|[],_=>some []|f::fs,off=>match av f.type with|some l=>if f.name≠"_"/\f.offset=off/\aR P f.type=some l.length then(m8 av fs (off+l.length)).map (l++·) else none|none=>none
def cv:Nat->TypeId->Option (List Pk)|0,_=>none|d+1,t=>match P.underlying t with|some .bool=>some [.bool]|some (.int _)=>some [.int]|some .string=>some [.str]|some (.struct fs)=>if P.stoodInHeld t then none else m8 P (cv d) fs.toList 0|some (.array n e)=>(match cv d e with|some l=>if aR P e=some l.length then some (List.replicate n l).flatten else none|none=>none)|_=>none
def mA(k:TypeId):Option (Bool×List Pk):=(cv P 8 k).map λds=>(match P.underlying k with|some (.struct _)|some (.array _ _)=>true|_=>false,ds)
def nm(l:List Operand):Option (List IA):=l.mapM nG
def lE(t:TypeId)(i:Nat):Option Field:=match P.underlying t with|some (.struct fs)=>fs[i]?|_=>none
def iV(e:TypeId):Option (Nat×List IV):=match aR P e,iy P e with|some n,some z=>if z.cells.length=n then some (n,z.cells) else none|_,_=>none
def aN(b:Builtin)(ts:List TypeId):Option Kd:=match b,ts with|.len,[t]=>(match P.underlying t with|some (.slice _)=>some .lenSl|some .string=>some .lenStr|some (.array n _)=>some (.lenArr n)|some (.map _ _)=>some .lenMap|_=>none)|.cap,[t]=>(match P.underlying t with|some (.slice _)=>some .cap|_=>none)|.append,[t,u]=>(match P.underlying t,P.underlying u with|some (.slice e),some (.slice _)=>(iV P e).bind λz=>(jk P e).map λb=>.append e z.1 b|some (.slice e),some .string=>(iV P e).bind λz=>(jk P e).map λb=>.append e z.1 b|some (.slice e),some (.int _)=>(iV P e).bind λz=>(jk P e).map λb=>.appendZ e z.1 b z.2|_,_=>none)|.copy,t::_=>(match P.underlying t with|some (.slice e)=>(aR P e).map .copy|_=>none)|.delete,t::_=>(match P.underlying t with|some (.map k _)=>(mA P k).map .delete|_=>none)|.clear,t::_=>(match P.underlying t with|some (.slice e)=>(iV P e).map λz=>.clear z.2|_=>none)|.min,_=>some .min|.max,_=>some .max|_,_=>none
def Gv(op:BinOp)(t:TypeId):Option Kd:=match op with|.eql|.neq=>(let neg:=op matches .neq;match P.underlying t with|some .bool=>some (.eqBool neg)|some (.int _)|some .string=>some (.bin op)|some (.struct _)|some (.array _ _)=>if P.eqGuardType P.depth t then none else(cv P 8 t).map (.eqFlat neg)|some (.pointer _)=>some (.eqNil neg .ptr)|some (.slice _)=>some (.eqNil neg .sl)|some (.map _ _)=>some (.eqNil neg .map)|some (.func _ _ _)=>some (.eqNil neg .fn)|_=>none)|_=>some (.bin op)
def rf(place:Nat->Option (Nat×Nat))(q:Array (Nat×Operand)):Option (List (Nat×Nat)):=q.toList.mapM λp=>place p.1
def cq(op:Op):Option Kd:=match op with|.move _|.assign _=>some .move|.pick _ _ _=>some .pick|.alloc e=>(aR P e).bind λn=>(iy P e).map λz=>.alloc e n z.cells|.box e _=>(aR P e).map λn=>.box e n|.build t E=>(match P.underlying t with|some (.struct fs)=>if fs.all λf=>(aR P f.type).isSome then (rf (λi=>(fs[i]?).bind λf=>(aR P f.type).map λn=>(f.offset,n)) E).bind λq=>(iy P t).map λz=>.build z.cells q else none|some (.array _ e)=>(aR P e).bind λn=>(rf (λi=>some (i*n,n)) E).bind λq=>(iy P t).map λz=>.build z.cells q|_=>none)|.buildSlice t len E=>(match P.underlying t with|some (.slice e)=>(iV P e).bind λz=>(rf (λi=>some (i*z.1,z.1)) E).bind λq=>if len*z.1<=2^24/\len<2^40 then some (.buildSl e z.1 len (lL len z.2) q) else none|_=>none)|.load t _=>(rD P t).map .load|.store t _ _=>(aR P t).map .store|.nilCheck _=>some .nilCheck|.binOp op t _ _ _=>Gv P op t|.unOp op _ _=>some (.un op)|.convert K dst _=>(match P.underlying K,P.underlying dst with|some (.int _),some (.int k)=>some (.conv k)|some (.slice e),some .string=>(match P.underlying e with|some (.int .u8)=>some .strOf|_=>none)|_,_=>none)|.makeInterface t _=>(match P.underlying t with|some (.interface _)|none=>none|some _=>some (.iface t))|.makeFunc (.func f) u _=>some (.mkfn f u.size)|.makeMap t _=>(match P.underlying t with|some (.map _ _)=>some .mkmap|_=>none)|.makeSlice t _ _=>(match P.underlying t with|some (.slice e)=>(iV P e).bind λz=>(jk P e).map λb=>.mksl e z.1 b z.2|_=>none)|.slice t _ lo F mx=>(match P.underlying t with|some (.slice e)=>(aR P e).map λn=>.slc n lo.isSome F.isSome mx.isSome|some .string=>if mx.isSome then none else some (.slcStr lo.isSome F.isSome)|some (.array n e)=>(aR P e).map λk=>.slcArr e n k lo.isSome F.isSome mx.isSome|_=>none)|.fieldAddr t _ i=>(lE P t i).bind λf=>(aR P f.type).bind λn=>if n=0 then none else some (.fieldAddr f.offset)|.field t _ i=>(lE P t i).bind λf=>(rD P f.type).map λn=>.field f.offset n|.indexAddr t _ _=>(match P.underlying t with|some (.slice e)=>(aR P e).map .idxSl|some (.array n e)=>(aR P e).map λk=>.idxArrAddr n k|_=>none)|.index t _ _=>(match P.underlying t with|some (.array n e)=>(aR P e).bind λk=>(rD P e).map λa=>.idxArr n k a|some .string=>some .idxStr|_=>none)|.lookup t _ _ ok=>(match P.underlying t with|some (.map k e)=>(mA P k).bind λJ=>(iy P e).map λz=>.lookup t J z ok|_=>none)|.mapUpdate t _ _ _|.insert t _ _ _=>(match P.underlying t with|some (.map I _)=>(mA P I).map .mapUpd|_=>none)|.mapEntry t _ _=>(match P.underlying t with|some (.map I e)=>(mA P I).bind λJ=>(iy P e).map λz=>.mapEntry t J z|_=>none)|.entryStore _ _ _ _=>some .entryStore|.range t _=>(match P.underlying t with|some (.map _ _)=>some .rangeM|_=>none)|.next _ false=>some .nextM|.entry _=>some .entryM|.extract _ i=>some (.extract i)|.call c=>(match c.callee with|.value _=>some .call|.builtin b=>aN P b c.argTypes.toList|_=>none)|_=>none
def QT(o:Oper):Option (Kd×List IA):=do
 let kd←cq P o.op
 let as←nm o.op.operands.toList
 pure (kd,as)
def K1:List Oper->Nat->Bool|[],_=>true|o::os,i=>(o.after.all λe=>!Region.binds .any e||decide (e.on<i))&&K1 os (i+1)
def mask(q:List Nat)(o:Oper):Nat:=o.after.toList.foldl (λs e=>if Region.binds .any e then s||| 2^e.on||| q.getD e.on 0 else s) 0
def kK:List Oper->List Nat->List Nat|[],q=>q|o::os,q=>kK os (q++[mask q o])
def gU(ms:List Nat)(i j:Nat):Bool:=(ms.getD (Max.max i j) 0).testBit (Min.min i j)
def xx:IA->Option Nat|.tmp t=>some t|_=>none
def IOp.names(o:IOp):List Nat:=o.dst.toList++o.args.filterMap xx++(o.guard.map (·.1)).toList
def qP(a b:IOp):Bool:=(match a.dst with|some d=>!b.names.contains d|none=>true)&& (match b.dst with|some d=>!a.names.contains d|none=>true)
def mH(ms:List Nat)(i:Nat)(a:IOp):List IOp->Nat->Bool|[],_=>true|b::l,j=>(gU ms i j||qP a b)&&mH ms i a l (j+1)
def tG(ms:List Nat):List IOp->Nat->Bool|[],_=>true|a::l,i=>mH ms i a l (i+1)&&tG ms l (i+1)
def mG(ops:Array Oper)(o:Oper):Option IOp:=do
 let (kd,args)←QT P o
 let guard←match o.guard with
  | none=>pure none
  | some (j,want)=>do pure (some (←(ops[j]?).bind (·.dst),want))
 pure {dst:=o.dst,kd,args,guard,amb:=true,idx:=0,mask:=0}
def Cc(ms:List Nat)(i:Nat):Bool:=(ms.drop i).all λm=>m%2^i=2^i - 1
def mQ(l:List IOp):Sg:=if l.length<=1 then .seq else .free
def Kd.isLoad:Kd->Bool|.load _=>true|_=>false
def Kd.isLook:Kd->Bool|.lookup _ _ _ false=>true|_=>false
def Kd.light(k:Kd):Bool:=k.pure||k.isLoad||k.isLook
def Kd.isWr:Kd->Bool|.append _ _ _|.appendZ _ _ _ _|.mapEntry _ _ _=>true|_=>false
def kg(ms:List Nat)(i:Nat)(ok:Kd->Bool):List IOp->Nat->Bool|[],_=>true|b::l,j=>(i==j||gU ms i j||ok b.kd)&&kg ms i ok l (j+1)
def Ho(ms:List Nat)(l:List IOp)(i:Nat)(k:Kd):Bool:=k.isStore||kg ms i Kd.pure l 0||(k.isWr&&kg ms i Kd.light l 0)
def lK(ms:List Nat)(all:List IOp):List IOp->Nat->List IOp|[],_=>[]|o::l,i=>{o with amb:=Ho ms all i o.kd,idx:=i,mask:=ms.getD i 0}::lK ms all l (i+1)
def kZ(a b:IOp):Bool:=a.kd.light||b.kd.light||(a.kd.isStore&&b.kd.isStore)||(!a.amb&&!b.amb)
def kl(ms:List Nat)(i:Nat)(a:IOp):List IOp->Nat->Bool|[],_=>true|b::l,j=>(gU ms i j||kZ a b)&&kl ms i a l (j+1)
def pX(ms:List Nat):List IOp->Nat->Bool|[],_=>true|a::l,i=>kl ms i a l (i+1)&&pX ms l (i+1)
def parts(ms:List Nat):List IOp->Nat->List IOp->List (Sg×List IOp)|[],_,[]=>[]|[],_,q=>[(mQ q.reverse,q.reverse)]|o::l,i,q=>if Cc ms (i+1) then(mQ (o::q).reverse,(o::q).reverse)::parts ms l (i+1) [] else parts ms l (i+1) (o::q)
def Dm(md:Region.Mode)(ops:Array Oper):List Nat->List Nat->Bool|[],seen=>(List.range ops.size).all seen.contains|i::l,seen=>(match ops[i]? with|some o=>o.after.all (λe=>!Region.binds md e||seen.contains e.on)|none=>false)&&Dm md ops l (i::seen)
def xU(ops:Array Oper):Bool:=Dm .any ops (List.range ops.size) []&& (!Region.departs ops||(Dm .text ops (List.range ops.size) []&&Dm .gc ops (Region.linearise .gc ops 0) []))
def cZ(ops:Array Oper)(draw:Bool):Option (List (Sg×List IOp)):=do
 let l←ops.toList.mapM (mG P ops)
 if draw then
  let ms:=kK ops.toList []
  let l:=lK ms l l 0
  if xU ops&&K1 ops.toList 0&&tG ms l 0&&pX ms l 0 then pure (parts ms l 0 []) else none
 else pure [(.seq,l)]
def aU:Code→Option IC
 | .skip=>some .skip
 | .region _ ops draw=>(cZ P ops draw).map .ops
 | .seq a b=>do pure (.seq (←aU a) (←aU b))
 | .cond c a b=>do pure (.cond (←nG c) (←aU a) (←aU b))
 | .block id c=>do pure (.block id (←aU c))
 | .scope c=>do pure (.scope (←aU c))
 | .label _=>some .skip
 | .loop c=>do pure (.loop (←aU c))
 | .rangeFunc f ps asg body=>do pure (.rfn (←nG f) ps.toList (←aU asg) (←aU body))
 | .exit id=>some (.exit id)
 | .ret=>some .ret
 | _=>none
def vO:ResultVar->Option (Nat×Option (Option Nat))|.tmp t=>some (t,none)|.cell a t=>(rD P t).map λn=>(a,some n)
def al(f:FuncId):Option IFn:=
 match P.funcs[f]? with
 | none=>none
 | some fn=>
   if fn.name=="runtime.NumGoroutine" then none else
   match fn.body with
   | none=>none
   | some c=>do pure ⟨fn.ntmps,←fn.results.toList.mapM (vO P),←aU P c⟩
end
def IObj.owned:IObj->Bool|.cells true _ _ _=>false|.dead=>false|_=>true
def j6:Jmp->Code|.exit id=>.exit id|.ret=>.ret
def EsR(μ:Mu):List (IV×IV×Nat)->List MapEntry->Prop|[],l=>l=[]|(k,v,s)::u,l=>∃(e:MapEntry) (q:List MapEntry),l=e::q/\VR μ k e.key/\VR μ v e.val/\e.born=s/\EsR μ u q
theorem EsR.mono{μ q:Mu}(u:μ.le q):∀{E:List (IV×IV×Nat)}{l:List MapEntry},EsR μ E l->EsR q E l|[],_,h=>h|(k,v,_)::_,_,h=>by obtain⟨e,F,a,b,c,d,f⟩:=h;exact⟨e,F,a,VR.mono u k _ b,VR.mono u v _ c,d,EsR.mono u f⟩
def ObjR(P:Program)(μ:Mu)(o:IObj)(p ez z:Nat)(h:Option Obj):Prop:=match o with|.cells true _ _ cs=>ez=0/\∃(q:Array Value) (e:TypeId) (U:Nat×Nat),h=some (.cells q e U)/\p+cs.length<=q.size/\VRs μ cs ((q.toList.drop p).take cs.length)|.cells false e K cs=>p=0/\ez=K/\∃q:Array Value,h=some (.cells q e (0,0))/\q.size=z/\cs.length<=z/\VRs μ cs (q.toList.take cs.length)|.map T u=>p=0/\∃F:Array MapEntry,h=some (.map F u)/\EsR μ T F.toList|.loop st pend tm V J body Q=>p=0/\∃L:Loop,h=some (.loop L)/\L.state=st/\L.pending=pend.map j6/\VRs μ tm L.tmps.toList/\L.params.toList=V/\ aU P L.assign=some J/\aU P L.body=some body/\LocR μ Q 0 ⟨L.defers,0,none⟩|.deferred=>p=0/\h=some (.deferred (some []))|.taken=>p=0/\h=some (.deferred none)|.iter m E seen I=>p=0/\∃O:Option Nat,h=some (.mapIter O E seen.toArray I)/\VR μ (match m with|none=>.nilMap|some b=>.map b) (.map O)|.dead=>False
theorem ObjR.mono{P:Program}{μ E:Mu}{o:IObj}{p ez z:Nat}{h:Option Obj}(u:μ.le E)(k:ObjR P μ o p ez z h):ObjR P E o p ez z h:=by cases o with|cells Y e T cs=>cases Y;{obtain⟨a,b,q,c,d,I,f⟩:=k;exact⟨a,b,q,c,d,I,VRs.mono u _ _ f⟩};{obtain⟨a,q,I,U,b,c,f⟩:=k;exact⟨a,q,I,U,b,c,VRs.mono u _ _ f⟩}|map es F=>obtain⟨a,J,b,c⟩:=k;exact⟨a,J,b,EsR.mono u c⟩|loop st pend tm ps Q body Z=>obtain⟨a,L,b,c,d,e,f,g,i,j⟩:=k;exact⟨a,L,b,c,d,VRs.mono u _ _ e,f,g,i,j.mono u⟩|deferred=>exact k|taken=>exact k|iter m K seen O=>obtain⟨a,V,b,c⟩:=k;exact⟨a,V,b,VR.mono u _ _ c⟩|dead=>exact k
theorem ObjR.some_{P:Program}{μ:Mu}{o:IObj}{p ez z:Nat}{h:Option Obj}(k:ObjR P μ o p ez z h):∃x,h=some x:=by cases o with|cells O e K cs=>cases O;{obtain⟨_,_,u,c,_⟩:=k;exact⟨_,c⟩};{obtain⟨_,u,T,V,b,_⟩:=k;exact⟨_,b⟩}|map U q=>obtain⟨_,J,b,_⟩:=k;exact⟨_,b⟩|loop st pend tm Z I body Q=>obtain⟨_,L,b,_⟩:=k;exact⟨_,b⟩|deferred=>exact⟨_,k.2⟩|taken=>exact⟨_,k.2⟩|iter m E seen F=>obtain⟨_,Y,b,_⟩:=k;exact⟨_,b⟩|dead=>exact k.elim
abbrev Gt:=Nat->Option IObj
def aZ(g:Gt)(b:Nat):Prop:=∃o,g b=some o/\o.owned=true
structure Rel(P:Program)(g0:Nat)(μ:Mu)(g:Gt)(n:Nat)(w:World):Prop where
 lt:∀b,μ b≠.no→b < n
 inj:∀b b' c p ez z p' ez' z',μ b=.at c p ez z→μ b'=.at c p' ez' z'→aZ g b→b=b'
 obj:∀b c p ez z,μ b=.at c p ez z→∃o,g b=some o∧ObjR P μ o p ez z w.heap[c]?
 glob:∀i,i < g0→μ i=.at i 0 0 0
 ded:∀b,μ b=.dead→g b=some .dead
structure Post(lo:Nat)(μ:Mu)(g:Gt)(n:Nat)(w:World)(μ':Mu)(g':Gt)(n':Nat)(w':World):Prop where
 le:μ.le μ'
 hn:n≤n'
 old:∀b,b < n→μ b=.no→μ' b=.no
 low:∀b,b < lo→b < n→μ' b=μ b∧g' b=g b
 own:∀b,b < n→aZ g' b→aZ g b
 new:∀b c p ez z,n≤b→μ' b=.at c p ez z→w.heap.size≤c∨∃b0 p0 ez0 z0,lo≤b0∧b0 < n∧aZ g b0∧μ b0=.at c p0 ez0 z0
 full:∀b,n≤b→b < n'→μ' b≠.no
 size:w.heap.size≤w'.heap.size
 frame:∀c,c < w.heap.size→(∀b p ez z,lo≤b→b < n→aZ g b→μ b≠.at c p ez z)→w'.heap[c]? =w.heap[c]?
 os:w'.os=w.os
 tape:w'.tape=w.tape
 output:w'.output=w.output
 drawn:w.drawn≤w'.drawn
section
variable {P:Program}{g0 lo n:Nat}{μ:Mu}{g:Gt}{w:World}
theorem Rel.clt(h:Rel P g0 μ g n w){b c p ez z:Nat}(q:μ b=.at c p ez z):c<w.heap.size:=by obtain⟨o,_,u⟩:=h.obj b c p ez z q;obtain⟨x,hx⟩:=u.some_;grind
theorem Rel.heap_eq{w':World}(h:Rel P g0 μ g n w)(e:w'.heap=w.heap):Rel P g0 μ g n w':=⟨h.lt,h.inj,λb c p ez z q=>by rw[e];exact h.obj b c p ez z q,h.glob,h.ded⟩
theorem Rel.congr{F:Gt}(h:Rel P g0 μ g n w)(e:∀b,μ b≠.no->F b=g b):Rel P g0 μ F n w where lt:=h.lt;inj:=λb b' c p ez z K u O q E J=>h.inj b b' c p ez z K u O q E (by obtain⟨o,Q,I⟩:=J;exact⟨o,by grind,I⟩);obj:=λb c p ez z q=>by{rw[e b (by grind)];exact h.obj b c p ez z q};glob:=h.glob;ded:=λb q=>by rw[e b (by grind)];exact h.ded b q
theorem Rel.more{q:Nat}(h:Rel P g0 μ g n w)(hn:n<=q):Rel P g0 μ g q w:=⟨λb u=>bS (h.lt b u) hn,h.inj,h.obj,h.glob,h.ded⟩
theorem Post.refl(h:Rel P g0 μ g n w):Post lo μ g n w μ g n w where le:=μ.le_refl;hn:=ao _;old:=λ_ _ h=>h;low:=λ_ _ _=>⟨rfl,rfl⟩;own:=λ_ _ h=>h;new:=λb c p ez z E e=>absurd (h.lt b (by grind)) (by omega);full:=λb q u=>by{omega};size:=ao _;frame:=λ_ _ _=>rfl;os:=rfl;tape:=rfl;output:=rfl;drawn:=ao _
theorem Post.trans{n1 n2:Nat}{J Y:Mu}{g1 g2:Gt}{w1 w2:World}(h:Post lo μ g n w J g1 n1 w1)(k:Post lo J g1 n1 w1 Y g2 n2 w2):Post lo μ g n w Y g2 n2 w2 where le:=Mu.le_trans h.le k.le;hn:=dR h.hn k.hn;old:=λb F e=>k.old b (bS F h.hn) (h.old b F e);low:=λb hl F=>by{obtain⟨a1,a2⟩:=h.low b hl F;obtain⟨b1,b2⟩:=k.low b hl (bS F h.hn);grind};own:=λb F o=>h.own b F (k.own b (bS F h.hn) o);new:=λb c p ez z F e=>by{have key:∀b0 K u O,lo<=b0->b0<n1->aZ g1 b0->J b0=.at c K u O->w.heap.size<=c\/∃b0 K u O,lo<=b0/\b0<n/\aZ g b0/\μ b0=.at c K u O:=by{intro b0 K u O Q ad ho T;by_cases q:b0<n;{have E:μ b0≠.no:=λU=>by{rw[h.old b0 q U] at T;cases T};rcases h.le b0 E with I|I;{exact .inr ⟨b0,K,u,O,Q,q,h.own b0 q ho,by rw[<-I];exact T⟩};{rw[I] at T;cases T}};{exact h.new b0 c K u O (by omega) T}};by_cases q:b<n1;{have E:J b≠.no:=λU=>by{rw[k.old b q U] at e;cases e};rcases k.le b E with I|I;{exact h.new b c p ez z F (by rw[<-I];exact e)};{rw[I] at e;cases e}};{rcases k.new b c p ez z (by omega) e with Z|⟨b0,K,u,O,h1,h2,h3,h4⟩;{exact .inl (dR h.size Z)};grind}};full:=λb h1 h2=>by{by_cases F:b<n1;{have E:=h.full b h1 F;rcases k.le b E with e|e<;>grind};{exact k.full b (by omega) h2}};size:=dR h.size k.size;frame:=λc Z V=>by{refine(k.frame c (bS Z h.size) λb p ez z Q ad ho e=>?_).trans (h.frame c Z V);by_cases q:b<n;{have E:μ b≠.no:=λU=>by{rw[h.old b q U] at e;cases e};rcases h.le b E with I|I;{exact V b p ez z Q q (h.own b q ho) (by rw[<-I];exact e)};{rw[I] at e;cases e}};{rcases h.new b c p ez z (by omega) e with ag|⟨b0,K,u,O,h1,h2,h3,h4⟩<;>grind}};os:=k.os.trans h.os;tape:=k.tape.trans h.tape;output:=k.output.trans h.output;drawn:=dR h.drawn k.drawn
theorem Post.lower{q n1:Nat}{u:Mu}{g1:Gt}{I:World}(Y:lo<=q)(h:Post q μ g n w u g1 n1 I):Post lo μ g n w u g1 n1 I where le:=h.le;hn:=h.hn;old:=h.old;low:=λb a c=>h.low b (by omega) c;own:=h.own;new:=λb c p ez z K e=>by{rcases h.new b c p ez z K e with F|⟨b0,Z,J,z0,Q,T,U,V⟩<;>grind};full:=h.full;size:=h.size;frame:=λc F E=>h.frame c F λb p ez z O=>E b p ez z (by omega);os:=h.os;tape:=h.tape;output:=h.output;drawn:=h.drawn
theorem Post.same{w':World}(h:Rel P g0 μ g n w)(e:w'.heap=w.heap)(q:w'.os=w.os)(u:w'.tape=w.tape)(E:w'.output=w.output)(F:w.drawn<=w'.drawn:=by first|exact ao _|exact qU _|assumption|(simp;done)|omega):Post lo μ g n w μ g n w' where le:=μ.le_refl;hn:=ao _;old:=λ_ _ h=>h;low:=λ_ _ _=>⟨rfl,rfl⟩;own:=λ_ _ h=>h;new:=λb c p ez z K e=>absurd (h.lt b (by grind)) (by omega);full:=λb I J=>by{omega};size:=by{rw[e];exact ao _};frame:=λ_ _ _=>by{rw[e]};os:=q;tape:=u;output:=E;drawn:=F
def Mu.upd(μ:Mu)(b:Nat)(l:Loc):Mu:=λx=>if x=b then l else μ x
theorem aB(μ:Mu)(b:Nat)(l:Loc):μ.upd b l b=l:=by simp[Mu.upd]
theorem aC(μ:Mu){b x:Nat}(l:Loc)(h:x≠b):μ.upd b l x=μ x:=by simp[Mu.upd,h]
theorem Mu.le_upd(μ:Mu){b:Nat}(l:Loc)(h:μ b=.no):μ.le (μ.upd b l):=λx hx=>by left;refine aC _ _ λe=>hx (by rw[e];exact h)
theorem Mu.le_kill(μ:Mu)(b:Nat):μ.le (μ.upd b .dead):=λx hx=>by grind[aB,aC]
theorem Rel.fresh(h:Rel P g0 μ g n w):μ n=.no:=by cases e:μ n with|no=>rfl|dead=>exact absurd (h.lt n (by grind)) (by omega)|«at» c p ez z=>exact absurd (h.lt n (by grind)) (by omega)
theorem SJ(h:Array Obj)(ob:Obj):(h.push ob)[h.size]? =some ob:=by simp
theorem FN(h:Array Obj)(ob:Obj){c:Nat}(q:c<h.size):(h.push ob)[c]? =h[c]?:=by grind
theorem Rel.alloc{H:Heap}(h:Rel P g0 μ H.get H.n w){w':World}{ob:Obj}{o:IObj}{ez z:Nat}(V:w'.heap=w.heap.push ob)(U:ObjR P (μ.upd H.n (.at w.heap.size 0 ez z)) o 0 ez z (some ob))(Y:w'.os=w.os)(Z:w'.tape=w.tape)(e3:w'.output=w.output)(e4:w.drawn<=w'.drawn:=by first|exact ao _|exact qU _|assumption|(simp;done)|omega):Rel P g0 (μ.upd H.n (.at w.heap.size 0 ez z)) (H.new o).get (H.new o).n w'/\ Post lo μ H.get H.n w (μ.upd H.n (.at w.heap.size 0 ez z)) (H.new o).get (H.new o).n w':=by have J:=h.fresh;have I:=μ.le_upd (.at w.heap.size 0 ez z) J;have old:∀b,b≠H.n->(H.new o).get b=H.get b:=λb q=>by{rw[aj,if_neg (Ne.symm q)]};have ad:(H.new o).get H.n=some o:=by{rw[aj,if_pos rfl]};refine⟨⟨λb q=>?_,?_,?_,λi T=>?_,λb q=>?_⟩,⟨I,by rw[ac];omega,λb q e=>?_,λb _ q=>?_,λb q U=>?_,λb c p ez z q e=>?_,λb h1 h2=>?_,?_,λc hc _=>?_,Y,Z,e3,e4⟩⟩;{rw[ac];by_cases e:b=H.n;{omega};{rw[aC _ _ e] at q;have:=h.lt b q;omega}};{intro b b' c p ez z p' E Q q u K;by_cases e:b=H.n;{subst e;rw[aB] at q;by_cases F:b'=H.n;{exact F.symm};{rw[aC _ _ F] at u;have:=h.clt u;grind}};{rw[aC _ _ e] at q;by_cases F:b'=H.n;{subst F;rw[aB] at u;have:=h.clt q;grind};{rw[aC _ _ F] at u;refine h.inj b b' c p ez z p' E Q q u ?_;obtain⟨x,hx,O⟩:=K;exact⟨x,by rw[<-old b e];exact hx,O⟩}}};{intro b c p E Q q;by_cases e:b=H.n;{grind[aB,SJ]};{rw[aC _ _ e] at q;obtain⟨x,hx,hr⟩:=h.obj b c p E Q q;refine⟨x,by rw[old b e];exact hx,?_⟩;rw[V,FN _ _ (h.clt q)];exact hr.mono I}};{have hn:μ i≠.no:=by{rw[h.glob i T];exactλx=>by cases x};rw[aC _ _ (by have:=h.lt i hn;omega)];exact h.glob i T};{by_cases e:b=H.n;{grind[aB]};{rw[aC _ _ e] at q;rw[old b e];exact h.ded b q}};{grind[aC]};{grind[aC]};{obtain⟨x,hx,O⟩:=U;exact⟨x,by grind,O⟩};{by_cases eb:b=H.n;{grind[aB]};{rw[aC _ _ eb] at e;exact absurd (h.lt b (by grind)) (by omega)}};{grind[ac,aB]};{grind};{rw[V,FN _ _ hc]}
theorem Rel.update{H:Heap}(h:Rel P g0 μ H.get H.n w){w':World}{b c p ez z:Nat}{o:IObj}(K:μ b=.at c p ez z)(ap:lo<=b)(F:aZ H.get b)(a0:w'.heap.size=w.heap.size)(u:∀c',c'≠c->w'.heap[c']? =w.heap[c']?)(ho:ObjR P μ o p ez z w'.heap[c]?)(e1:w'.os=w.os)(e2:w'.tape=w.tape)(e3:w'.output=w.output)(e4:w.drawn<=w'.drawn:=by first|exact ao _|exact qU _|assumption|(simp;done)|omega):Rel P g0 μ (H.put b o).get (H.put b o).n w'/\Post lo μ H.get H.n w μ (H.put b o).get (H.put b o).n w':=by have old:∀x,x≠b->(H.put b o).get x=H.get x:=λx hx=>by{rw[aa,if_neg (Ne.symm hx)]};have V:(H.put b o).get b=some o:=by{rw[aa,if_pos rfl]};have ad:b<H.n:=h.lt b (by rw[K];exactλx=>by cases x);have E:∀x,aZ (H.put b o).get x->aZ H.get x:=λx hx=>by{by_cases e:x=b;{subst e;exact F};{obtain⟨y,U,hz⟩:=hx;exact⟨y,by rw[<-old x e];exact U,hz⟩}};refine⟨⟨h.lt,λx x' c1 I q J p2 O z2 hx T Q=>h.inj x x' c1 I q J p2 O z2 hx T (E x Q),λx c1 I q J hx=>?_,h.glob,λx hx=>by rw[old x (λe=>by subst e;rw[K] at hx;cases hx)];exact h.ded x hx⟩,⟨μ.le_refl,ao _,λ_ _ e=>e,λx a5 _=>⟨rfl,old x (by omega)⟩,λx _ hx=>E x hx,λx c1 I q J hx e=>absurd (h.lt x (by rw[e];exactλy=>by cases y)) (by omega),λx h1 h2=>by rw[ae] at h2;omega,by omega,λc1 ag aE=>u c1 λe=>?_,e1,e2,e3,e4⟩⟩;{by_cases e:x=b;{subst e;rw[K] at hx;injection hx with Y Z a3 a4;subst Y Z a3 a4;exact⟨o,V,ho⟩};{obtain⟨y,U,hr⟩:=h.obj x c1 I q J hx;refine⟨y,by rw[old x e];exact U,?_⟩;rw[u c1 λec=>e ?_];{exact hr};{subst ec;exact(h.inj b x c1 p ez z I q J K hx F).symm}}};grind
theorem Rel.kill{H:Heap}(h:Rel P g0 μ H.get H.n w){b:Nat}(Y:lo<=b)(hg:g0<=b)(U:μ b≠.no):Rel P g0 (μ.upd b .dead) (H.put b .dead).get (H.put b .dead).n w/\Post lo μ H.get H.n w (μ.upd b .dead) (H.put b .dead).get (H.put b .dead).n w:=by have old:∀x,x≠b->(H.put b .dead).get x=H.get x:=λx hx=>by{rw[aa,if_neg (Ne.symm hx)]};have I:(H.put b .dead).get b=some .dead:=by{rw[aa,if_pos rfl]};have K:b<H.n:=h.lt b U;have F:=μ.le_kill b;have q:∀x c p ez z,μ.upd b .dead x=.at c p ez z->x≠b/\μ x=.at c p ez z:=λx c p ez z hx=>by{by_cases e:x=b;{subst e;rw[aB] at hx;cases hx};{rw[aC _ _ e] at hx;exact⟨e,hx⟩}};have u:∀x,aZ (H.put b .dead).get x->aZ H.get x:=λx hx=>by{by_cases e:x=b;{subst e;obtain⟨y,E,Q⟩:=hx;rw[I] at E;injection E with E;subst E;cases Q};{obtain⟨y,E,Q⟩:=hx;exact⟨y,by rw[<-old x e];exact E,Q⟩}};refine⟨⟨λx hx=>?_,λx x' c p ez z p' J z' hx O Z=>h.inj x x' c p ez z p' J z' (q _ _ _ _ _ hx).2 (q _ _ _ _ _ O).2 (u x Z),λx c p ez z hx=>?_,λi V=>?_,λx hx=>?_⟩,⟨F,ao _,λx hx e=>?_,λx ad hx=>⟨aC _ _ (by omega),old x (by omega)⟩,λx _ hx=>u x hx,λx c p ez z hx e=>absurd (h.lt x (by rw[(q _ _ _ _ _ e).2];exactλy=>by cases y)) (by omega),λx h1 T=>by rw[ae] at T;omega,ao _,λ_ _ _=>rfl,rfl,rfl,rfl,ao _⟩⟩;{by_cases e:x=b;{subst e;exact K};{rw[aC _ _ e] at hx;exact h.lt x hx}};{obtain⟨e,hx⟩:=q _ _ _ _ _ hx;obtain⟨y,E,hr⟩:=h.obj x c p ez z hx;exact⟨y,by rw[old x e];exact E,hr.mono F⟩};{rw[aC _ _ (by omega)];exact h.glob i V};{by_cases e:x=b;{subst e;exact I};{rw[aC _ _ e] at hx;rw[old x e];exact h.ded x hx}};grind[absurd,aC]
theorem Rel.regrow{H:Heap}(h:Rel P g0 μ H.get H.n w){w':World}{b c ez z:Nat}{o:IObj}(V:μ b=.at c 0 ez z)(a0:lo<=b)(hg:g0<=b)(J:aZ H.get b)(bl:w'.heap.size=w.heap.size)(O:∀c',c'≠c->w'.heap[c']? =w.heap[c']?)(ho:ObjR P ((μ.upd b .dead).upd H.n (.at c 0 ez z)) o 0 ez z w'.heap[c]?)(e1:w'.os=w.os)(e2:w'.tape=w.tape)(e3:w'.output=w.output)(e4:w.drawn<=w'.drawn:=by first|exact ao _|exact qU _|assumption|(simp;done)|omega):Rel P g0 ((μ.upd b .dead).upd H.n (.at c 0 ez z)) ((H.put b .dead).new o).get ((H.put b .dead).new o).n w'/\ Post lo μ H.get H.n w ((μ.upd b .dead).upd H.n (.at c 0 ez z)) ((H.put b .dead).new o).get ((H.put b .dead).new o).n w':=by have aE:b<H.n:=h.lt b (by rw[V];exactλx=>by cases x);have old:∀x,x≠b->x≠H.n->((H.put b .dead).new o).get x=H.get x:=λx hx I=>by{rw[aj,if_neg (by rw[ae];exact Ne.symm I),aa,if_neg (Ne.symm hx)]};have a9:((H.put b .dead).new o).get H.n=some o:=by{rw[aj,ae,if_pos rfl]};have ap:((H.put b .dead).new o).get b=some .dead:=by{rw[aj,ae,if_neg (by omega),aa,if_pos rfl]};have mb:(μ.upd b .dead).upd H.n (.at c 0 ez z) b=.dead:=by{rw[aC _ _ (by omega),aB]};have mn:(μ.upd b .dead).upd H.n (.at c 0 ez z) H.n=.at c 0 ez z:=aB _ _ _;have U:∀x,x≠b->x≠H.n->(μ.upd b .dead).upd H.n (.at c 0 ez z) x=μ x:=λx hx I=>by{rw[aC _ _ I,aC _ _ hx]};have ag:μ.le ((μ.upd b .dead).upd H.n (.at c 0 ez z)):=λx hx=>by{by_cases e:x=b;{subst e;exact .inr mb};{exact .inl (U x e λE=>by subst E;exact hx h.fresh)}};have q:∀x c' p' K z',(μ.upd b .dead).upd H.n (.at c 0 ez z) x=.at c' p' K z'->(x=H.n/\c'=c/\p'=0/\K=ez/\z'=z)\/(x≠b/\x≠H.n/\μ x=.at c' p' K z'):=by{intro x c' p' K z' hx;by_cases e:x=H.n;{subst e;rw[mn] at hx;injection hx with u a2 a3 a4;exact .inl ⟨rfl,u.symm,a2.symm,a3.symm,a4.symm⟩};{by_cases E:x=b;{subst E;rw[mb] at hx;cases hx};{rw[U x E e] at hx;exact .inr ⟨E,e,hx⟩}}};have Q:∀x,x<H.n->aZ ((H.put b .dead).new o).get x->aZ H.get x:=λx hx T=>by{obtain⟨y,hy,hz⟩:=T;by_cases e:x=b;{subst e;exact J};{exact⟨y,by rw[<-old x e (by omega)];exact hy,hz⟩}};refine⟨⟨λx hx=>?_,λx x' c1 Y F Z p2 ad z2 hx I a6=>?_,λx c1 Y F Z hx=>?_,λi hi=>?_,λx hx=>?_⟩,⟨ag,by rw[ac,ae];omega,λx hx e=>?_,λx bo hx=>⟨U x (by omega) (by omega),old x (by omega) (by omega)⟩,λx hx T=>Q x hx T,λx c1 Y F Z hx e=>?_,λx h1 h2=>?_,by omega,λc1 bd bh=>O c1 λe=>?_,e1,e2,e3,e4⟩⟩;{rw[ac,ae];by_cases e:x=H.n;{omega};{by_cases E:x=b;{omega};{rw[U x E e] at hx;have:=h.lt x hx;omega}}};{rcases q _ _ _ _ _ hx with⟨a,u,-⟩|⟨a,a',u⟩;{rcases q _ _ _ _ _ I with⟨d,-⟩|⟨d,d',d1⟩;{rw[a,d]};{subst u;exact absurd (h.inj b x' c1 0 ez z p2 ad z2 V d1 J).symm d}};{have a5:=h.lt x (by rw[u];exactλx=>by cases x);rcases q _ _ _ _ _ I with⟨d,d1,-⟩|⟨d,d',d1⟩;{subst d1;exact absurd (h.inj b x c1 0 ez z Y F Z V u J).symm a};{exact h.inj x x' c1 Y F Z p2 ad z2 u d1 (Q x a5 a6)}}};{rcases q _ _ _ _ _ hx with⟨a,u,a2,a3,a4⟩|⟨a,a',u⟩;{subst a u a2 a3 a4;exact⟨o,a9,ho⟩};{obtain⟨y,hy,hr⟩:=h.obj x c1 Y F Z u;refine⟨y,by rw[old x a a'];exact hy,?_⟩;rw[O c1 λec=>a ?_];{exact hr.mono ag};{subst ec;exact(h.inj b x c1 0 ez z Y F Z V u J).symm}}};{have hn:μ i≠.no:=by{rw[h.glob i hi];exactλx=>by cases x};rw[U i (by omega) (by have:=h.lt i hn;omega)];exact h.glob i hi};{by_cases e:x=b;{subst e;exact ap};{by_cases E:x=H.n;{subst E;rw[mn] at hx;cases hx};{rw[U x e E] at hx;rw[old x e E];exact h.ded x hx}}};{by_cases E:x=b;{subst E;rw[V] at e;cases e};{rw[U x E (by omega)];exact e}};{rcases q _ _ _ _ _ e with⟨a,u,-⟩|⟨a,a',u⟩;{subst u;exact .inr ⟨b,0,ez,z,a0,aE,J,V⟩};{exact absurd (h.lt x (by rw[u];exactλy=>by cases y)) (by omega)}};{have e:x=H.n:=by{rw[ac,ae] at h2;omega};subst e;rw[mn];exactλx=>by cases x};grind
end
section
variable {P:Program}{g0 lo:Nat}{μ:Mu}{H:Heap}{w:World}
def Gives(P:Program)(g0 lo:Nat)(μ:Mu)(H:Heap)(w:World)(s:Sem Next)(v:IV)(H':Heap):Prop:=∃(u:Next) (v':Value) (w':World) (q:Mu),s.run P w=.ok u w'/\(u=.value v'\/(u=.skip/\v'=undef))/\ Rel P g0 q H'.get H'.n w'/\Post lo μ H.get H.n w q H'.get H'.n w'/\VR q v v'
theorem Gives.pure(h:Rel P g0 μ H.get H.n w){s:Sem Next}{v:IV}{v':Value}(q:s.run P w=.ok (.value v') w)(u:VR μ v v'):Gives P g0 lo μ H w s v H:=⟨_,v',w,μ,q,.inl rfl,h,Post.refl h,u⟩
theorem a7{x:IV}{l:List Value}(h:VRs μ [x] l):∃a,l=[a]/\VR μ x a:=by obtain⟨a,l1,rfl,q,u⟩:=h;cases u;exact⟨a,rfl,q⟩
theorem bq{x y:IV}{l:List Value}(h:VRs μ [x,y] l):∃a b,l=[a,b]/\VR μ x a/\VR μ y b:=by obtain⟨a,l1,rfl,q,u⟩:=h;obtain⟨b,rfl,E⟩:=a7 u;exact⟨a,b,rfl,q,E⟩
theorem nv{x y z:IV}{l:List Value}(h:VRs μ [x,y,z] l):∃a b c,l=[a,b,c]/\VR μ x a/\VR μ y b/\VR μ z c:=by obtain⟨a,l1,rfl,u,q⟩:=h;obtain⟨b,c,rfl,E,F⟩:=bq q;grind
theorem fQ{k:IntKind}{n:Int}{v:Value}(h:VR μ (.int k n) v):v=.int k n:=h
theorem lg{b:Bool}{v:Value}(h:VR μ (.bool b) v):v=.bool b:=h
theorem xw{s:List UInt8}{v:Value}(h:VR μ (.str s) v):v=.string ⟨⟨s⟩⟩:=h
theorem a8{t:TypeId}{n:Nat}(h:aR P t=some n)(w:World):(sizeOf t).run P w=.ok n w:=by unfold aR at h;cases q:P.info? t<;>simp_all[sizeOf,typeInfo]
theorem yg{t:TypeId}{n:Nat}(h:aR P t=some n):∃i,P.info? t=some i/\i.size=n:=by unfold aR at h;cases q:P.info? t with|none=>rw[q] at h;cases h|some i=>rw[q] at h;injection h with h;exact⟨i,rfl,h⟩
theorem pr{t:TypeId}{n:Nat}(h:jk P t=some n):∃i,P.info? t=some i/\i.bytes=n:=by unfold jk at h;cases q:P.info? t with|none=>rw[q] at h;cases h|some i=>rw[q] at h;injection h with h;exact⟨i,rfl,h⟩
theorem vN:∀(n:Nat)(v:Value)(x:IV),qL n v=some x->∀μ:Mu,VR μ x v:=by intro n;induction n with|zero=>intro v x h;cases h|succ n I=>intro v x h μ;unfold qL at h;split at h;{injection h with h;subst h;rfl};{injection h with h;subst h;rfl};{injection h with h;subst h;rfl};{injection h with h;subst h;rfl};{injection h with h;subst h;rfl};{injection h with h;subst h;rfl};{injection h with h;subst h;rfl};{injection h with h;subst h;rfl};{rename_i cs;cases hm:List.mapM (qL n) cs.toList with|none=>rw[hm] at h;cases h|some l=>rw[hm] at h;injection h with h;subst h;refine⟨cs,rfl,?_⟩;have key:∀(vs:List Value)(l:List IV),vs.mapM (qL n)=some l->VRs μ l vs:=by{intro vs;induction vs with|nil=>intro l q;simp at q;subst q;rfl|cons a vs F=>intro l q;simp only[qY] at q;cases u:qL n a with|none=>rw[u] at q;cases q|some x=>rw[u] at q;cases E:vs.mapM (qL n) with|none=>rw[E] at q;cases q|some xs=>rw[E] at q;injection q with q;subst q;exact⟨a,vs,rfl,I a x u μ,F xs E⟩};exact key _ _ hm};{cases h}
theorem jd{t:TypeId}{z:IV}(h:iy P t=some z):∃i q,P.info? t=some i/\i.zero=some q/\∀μ:Mu,VR μ z q:=by unfold iy at h;cases E:P.info? t with|none=>rw[E] at h;cases h|some i=>rw[E] at h;cases u:i.zero with|none=>simp[u] at h|some q=>simp[u] at h;exact⟨i,q,rfl,u,vN 3 q z h⟩
theorem VR.cells_{x:IV}{v:Value}(h:VR μ x v):VRs μ x.cells v.cells.toList:=by cases x with|agg l=>obtain⟨E,rfl,u⟩:=h;exact u|ptr b o=>obtain⟨a,rfl,q⟩:=h;exact⟨_,_,rfl,⟨a,rfl,q⟩,rfl⟩|slice b o n lb ex=>obtain⟨a,c,rfl,q⟩:=h;exact⟨_,_,rfl,⟨a,c,rfl,q⟩,rfl⟩|map b=>obtain⟨a,rfl,q⟩:=h;exact⟨_,_,rfl,⟨a,rfl,q⟩,rfl⟩|fn f a b=>obtain⟨l,r,rfl,q⟩:=h;exact⟨_,_,rfl,⟨l,r,rfl,q⟩,rfl⟩|yield b=>obtain⟨a,rfl,q⟩:=h;exact⟨_,_,rfl,⟨a,rfl,q⟩,rfl⟩|iface t x=>obtain⟨a,rfl,q⟩:=h;exact⟨_,_,rfl,⟨a,rfl,q⟩,rfl⟩|tuple l=>obtain⟨E,rfl,u⟩:=h;exact⟨_,_,rfl,⟨E,rfl,u⟩,rfl⟩|bool b=>cases h;exact⟨_,_,rfl,rfl,rfl⟩|int k n=>cases h;exact⟨_,_,rfl,rfl,rfl⟩|str s=>cases h;exact⟨_,_,rfl,rfl,rfl⟩|nilPtr=>cases h;exact⟨_,_,rfl,rfl,rfl⟩|nilSlice=>cases h;exact⟨_,_,rfl,rfl,rfl⟩|nilMap=>cases h;exact⟨_,_,rfl,rfl,rfl⟩|nilFunc=>cases h;exact⟨_,_,rfl,rfl,rfl⟩|nilIface=>cases h;exact⟨_,_,rfl,rfl,rfl⟩
theorem VR.one_cell{x:IV}{v:Value}(h:VR μ x v)(u:x.one=true):v.oneCell'=true:=by cases x with|agg l=>cases u|tuple l=>cases u|ptr b o=>obtain⟨a,rfl,q⟩:=h;rfl|slice b o n lb ex=>obtain⟨a,c,rfl,q⟩:=h;rfl|map b=>obtain⟨a,rfl,q⟩:=h;rfl|fn f a b=>obtain⟨l,r,rfl,q⟩:=h;rfl|yield b=>obtain⟨a,rfl,q⟩:=h;rfl|iface t x=>obtain⟨a,rfl,q⟩:=h;rfl|_=>cases h;rfl
theorem VRs.one_cells:∀{l:List IV}{E:List Value},VRs μ l E->l.all IV.one=true->∀v∈E,v.oneCell'=true|[],_,h,_,v,q=>by cases h;cases q|x::xs,_,h,u,v,q=>by obtain⟨y,ys,rfl,F,I⟩:=h;simp only[mv,bF] at u;cases q with|head=>exact F.one_cell u.1|tail _ q=>exact VRs.one_cells I u.2 v q
end
section
variable {P:Program}{g0 lo:Nat}{μ:Mu}{H:Heap}{w:World}{ρ:Operand->Value}{type:TypeId}{pos:String}{dst:Option Tmp}{after:Array Edge}{guard:Option (Nat×Bool)}{xs:List IV}{v:IV}{H':Heap}
theorem OM(h:Rel P g0 μ H.get H.n w){x:Operand}(q:ev1 .move xs lo H=some (v,H'))(hx:VRs μ xs [ρ x]):Gives P g0 lo μ H w (execOp ρ ⟨dst,.move x,type,pos,after,guard⟩) v H'/\Gives P g0 lo μ H w (execOp ρ ⟨dst,.assign x,type,pos,after,guard⟩) v H':=by simp only[ev1] at q;split at q;{injection q with q;injection q with u E;subst u E;obtain⟨y,I,F⟩:=a7 hx;simp_all[Gives.pure,execOp]};{cases q}
theorem V4(h:Rel P g0 μ H.get H.n w){c a b:Operand}(q:ev1 .pick xs lo H=some (v,H'))(hx:VRs μ xs [ρ c,ρ a,ρ b]):Gives P g0 lo μ H w (execOp ρ ⟨dst,.pick c a b,type,pos,after,guard⟩) v H':=by simp only[ev1] at q;split at q;{rename_i c1 O b1;injection q with q;injection q with F I;subst F I;obtain⟨Q,T,U,E,u,J,K⟩:=nv hx;simp only[dT,and_true] at E;obtain⟨rfl,rfl,rfl⟩:=E;cases c1;{exact Gives.pure h (v':=ρ b) (by simp[execOp,lg u,asBool]) (by simpa using K)};{exact Gives.pure h (v':=ρ a) (by simp[execOp,lg u,asBool]) (by simpa using J)}};{cases q}
theorem IJ(h:Rel P g0 μ H.get H.n w){x:Operand}(F:ev1 .nilCheck xs lo H=some (v,H'))(hx:VRs μ xs [ρ x]):Gives P g0 lo μ H w (execOp ρ ⟨dst,.nilCheck x,type,pos,after,guard⟩) v H':=by simp only[ev1] at F;split at F;{rename_i a;obtain⟨y,I,E⟩:=a7 hx;injection I with I;subst I;cases a<;>simp only[reduceCtorEq] at F<;>(injection F with F;injection F with J K;subst J K);(case fn f l r=>obtain⟨O,Q,e,q⟩:=E;exact Gives.pure h (v':=ρ x) (by simp[execOp,e]) ⟨O,Q,e,q⟩);(case ptr b o=>obtain⟨a,e,q⟩:=E;exact Gives.pure h (v':=ρ x) (by simp[execOp,e]) ⟨a,e,q⟩);(case slice b o n lb ex=>obtain⟨a,c,e,q⟩:=E;exact Gives.pure h (v':=ρ x) (by simp[execOp,e]) ⟨a,c,e,q⟩);(case map b=>obtain⟨a,e,q⟩:=E;exact Gives.pure h (v':=ρ x) (by simp[execOp,e]) ⟨a,e,q⟩);(case iface t u=>obtain⟨a,e,q⟩:=E;exact Gives.pure h (v':=ρ x) (by simp[execOp,e]) ⟨a,e,q⟩);(case agg l=>obtain⟨a,e,q⟩:=E;exact Gives.pure h (v':=ρ x) (by simp[execOp,e]) ⟨a,e,q⟩);(case tuple l=>obtain⟨a,e,q⟩:=E;exact Gives.pure h (v':=ρ x) (by simp[execOp,e]) ⟨a,e,q⟩);all_goals have e:ρ x=_:=E;exact Gives.pure h (v':=ρ x) (by simp[execOp,e]) e};{cases F}
theorem Q6{op:BinOp}{k E:IntKind}{a b:Int}{r:IV}(q:pu op (.int k a) (.int E b)=some r)(t:TypeId):∃F:Value,(binOp op t (.int k a) (.int E b)).run P w=.ok F w/\∀μ:Mu,VR μ r F:=by cases op<;>simp only[pu] at q;(case shl=>by_cases u:b<0;{grind};{rw[if_neg u] at q;injection q with q;subst q;exact⟨_,by simp[binOp,Op.shift,u],λ_=>rfl⟩});(case shr=>by_cases u:b<0;{grind};{rw[if_neg u] at q;injection q with q;subst q;exact⟨_,by simp[binOp,Op.shift,u],λ_=>rfl⟩});all_goals by_cases I:k=E;{subst I;simp only[if_true] at q;first|(injection q with q;subst q;exact⟨_,by simp[binOp,Op.intArith,Op.intBits,Op.intCmp]<;>rfl,λ_=>rfl⟩)|(by_cases u:b=0;{grind};{rw[if_neg u] at q;injection q with q;subst q;exact⟨_,by simp[binOp,Op.intDiv,u]<;>rfl,λ_=>rfl⟩})};{grind}
theorem po{s:ByteArray}{l:List UInt8}(h:s.data.toList=l):s=⟨⟨l⟩⟩:=by subst h;rfl
theorem Lz(l:List UInt8):(ByteArray.mk (Array.mk l)).toList=l:=by rw[ByteArray.toList_eq]
theorem Q5{op:BinOp}{a b:List UInt8}{r:IV}(q:pu op (.str a) (.str b)=some r)(t:TypeId):∃u:Value,(binOp op t (.string ⟨⟨a⟩⟩) (.string ⟨⟨b⟩⟩)).run P w=.ok u w/\∀μ:Mu,VR μ r u:=by cases op<;>simp only[pu,reduceCtorEq] at q;(case add=>split at q;{rename_i K;injection q with q;subst q;refine⟨.string (⟨⟨a⟩⟩++⟨⟨b⟩⟩),?_,λ_=>?_⟩;{have J:¬((((ByteArray.mk ⟨a⟩).size+(ByteArray.mk ⟨b⟩).size:Nat):Int)>IntKind.i64.max):=by{have E:(ByteArray.mk ⟨a⟩).size=a.length:=rfl;have F:(ByteArray.mk ⟨b⟩).size=b.length:=rfl;have I:IntKind.i64.max=9223372036854775807:=rfl;rw[E,F,I];omega};simp_all[binOp,Op.stringOp,if_neg]};{show Value.string _=Value.string _;exact congrArg Value.string (po (by simp))}};{cases q});all_goals injection q with q;subst q;exact⟨_,by simp[binOp,Op.stringOp,Lz]<;>rfl,λ_=>rfl⟩
theorem ji{op:BinOp}{t:TypeId}{x y:Operand}{a b:Value}(q:∀cs,a≠.agg cs)(u:a≠.nilIface):(eqGuard op t x y a b).run P w=.ok () w:=by simp_all[eqGuard]
theorem OW(h:Rel P g0 μ H.get H.n w){op:BinOp}{t U:TypeId}{x y:Operand}(u:ev1 (.bin op) xs lo H=some (v,H'))(hx:VRs μ xs [ρ x,ρ y]):Gives P g0 lo μ H w (execOp ρ ⟨dst,.binOp op t x y U,type,pos,after,guard⟩) v H':=by simp only[ev1] at u;split at u;{rename_i a b;obtain⟨Z,y2,O,J,K⟩:=bq hx;simp only[dT,and_true] at O;obtain⟨rfl,rfl⟩:=O;cases E:pu op a b with|none=>rw[E] at u;cases u|some r=>rw[E] at u;injection u with u;injection u with Q T;subst Q T;cases a with|int k n=>(cases b with|int V m=>obtain⟨I,q,F⟩:=Q6 (P:=P) (w:=w) E t;refine Gives.pure h (v':=I) ?_ (F μ);simp only[execOp,fQ J,fQ K];simp[ji,q]|_=>cases op<;>simp[pu] at E)|str s=>(cases b with|str Y=>obtain⟨I,q,F⟩:=Q5 (P:=P) (w:=w) E t;refine Gives.pure h (v':=I) ?_ (F μ);simp only[execOp,xw J,xw K];simp[ji,q]|_=>cases op<;>simp[pu] at E)|_=>cases op<;>simp[pu] at E};{cases u}
theorem OT(h:Rel P g0 μ H.get H.n w){op:BinOp}{neg:Bool}{t U:TypeId}{x y:Operand}(T:P.underlying t=some .bool)(F:op=.eql/\neg=false\/op=.neq/\neg=true)(u:ev1 (.eqBool neg) xs lo H=some (v,H'))(hx:VRs μ xs [ρ x,ρ y]):Gives P g0 lo μ H w (execOp ρ ⟨dst,.binOp op t x y U,type,pos,after,guard⟩) v H':=by simp only[ev1] at u;split at u;{rename_i a b;injection u with u;injection u with O Q;subst O Q;obtain⟨V,Y,K,I,J⟩:=bq hx;simp only[dT,and_true] at K;obtain⟨rfl,rfl⟩:=K;have E:∀d:Nat,(Op.equalIn (d+1) t (.bool a) (.bool b)).run P w=.ok (a==b) w:=λd=>by{simp[Op.equalIn,run_underlying T]};have q:(Op.equal t (.bool a) (.bool b)).run P w=.ok (a==b) w:=E 9999;rcases F with⟨rfl,rfl⟩|⟨rfl,rfl⟩;{refine Gives.pure h (v':=.bool (a==b)) ?_ (by simp[VR]);simp only[execOp,lg I,lg J];simp[ji,binOp,q]};{refine Gives.pure h (v':=.bool (!(a==b))) ?_ (by simp[VR]);simp only[execOp,lg I,lg J];simp[ji,binOp,q]}};{cases u}
theorem aaK(h:Rel P g0 μ H.get H.n w){op:UnOp}{t:TypeId}{x:Operand}(q:ev1 (.un op) xs lo H=some (v,H'))(hx:VRs μ xs [ρ x]):Gives P g0 lo μ H w (execOp ρ ⟨dst,.unOp op t x,type,pos,after,guard⟩) v H':=by simp only[ev1] at q;split at q;{rename_i a;obtain⟨y,E,F⟩:=a7 hx;injection E with E;subst E;cases u:VQ op a with|none=>rw[u] at q;cases q|some r=>rw[u] at q;injection q with q;injection q with I J;subst I J;cases a with|int k n=>have e:=fQ F;cases op<;>simp[VQ] at u<;>subst u;{exact Gives.pure h (by simp[execOp,e,Op.unary,Op.intArith]<;>rfl) rfl};{exact Gives.pure h (by simp[execOp,e,Op.unary,Op.intBits]<;>rfl) rfl}|bool b=>have e:=lg F;cases op<;>simp[VQ] at u;subst u;exact Gives.pure h (by simp[execOp,e,Op.unary]<;>rfl) rfl|_=>simp[VQ] at u};{cases q}
theorem V9(h:Rel P g0 μ H.get H.n w){k k0:IntKind}{s d:TypeId}{x:Operand}(hs:P.underlying s=some (.int k0))(I:P.underlying d=some (.int k))(q:ev1 (.conv k) xs lo H=some (v,H'))(hx:VRs μ xs [ρ x]):Gives P g0 lo μ H w (execOp ρ ⟨dst,.convert s d x,type,pos,after,guard⟩) v H':=by simp only[ev1] at q;split at q;{rename_i K n;injection q with q;injection q with E F;subst E F;obtain⟨y,u,J⟩:=a7 hx;injection u with u;subst u;exact Gives.pure h (by simp[execOp,fQ J,convert,run_underlying hs,run_underlying I,Conv.intToInt]<;>rfl) rfl};{cases q}
theorem St(h:Rel P g0 μ H.get H.n w){t:TypeId}{d:TypeDesc}{x:Operand}(K:P.underlying t=some d)(J:∀ms,d≠.interface ms)(q:ev1 (.iface t) xs lo H=some (v,H'))(hx:VRs μ xs [ρ x]):Gives P g0 lo μ H w (execOp ρ ⟨dst,.makeInterface t x,type,pos,after,guard⟩) v H':=by simp only[ev1] at q;split at q;{rename_i a;injection q with q;injection q with E F;subst E F;obtain⟨y,u,I⟩:=a7 hx;injection u with u;subst u;refine Gives.pure h (v':=.iface t (ρ x)) ?_ ⟨_,rfl,I⟩;simp_all[execOp,Instr.makeInterface,run_underlying]};{cases q}
theorem V6(h:Rel P g0 μ H.get H.n w){f:FuncId}{q cap:Array Operand}(u:ev1 (.mkfn f q.size) xs lo H=some (v,H'))(hx:VRs μ xs ((q++cap).toList.map ρ)):Gives P g0 lo μ H w (execOp ρ ⟨dst,.makeFunc (.func f) q cap,type,pos,after,guard⟩) v H':=by simp only[ev1] at u;injection u with u;injection u with E F;subst E F;refine Gives.pure h (v':=.func (.func f) (q.map ρ) (cap.map ρ)) (by simp[execOp,Instr.makeFunc]) ⟨_,_,rfl,?_,?_⟩;{have:=hx.take q.size;simp_all[List.take,List.map_take,List.take_append]};{have:=hx.drop q.size;simp_all[List.drop,List.drop_append]}
theorem LS(h:Rel P g0 μ H.get H.n w){i:Nat}{x:Operand}(q:ev1 (.extract i) xs lo H=some (v,H'))(hx:VRs μ xs [ρ x]):Gives P g0 lo μ H w (execOp ρ ⟨dst,.extract x i,type,pos,after,guard⟩) v H':=by simp only[ev1] at q;split at q;{rename_i l;cases E:l[i]? with|none=>rw[E] at q;cases q|some r=>rw[E] at q;injection q with q;injection q with K O;subst K O;obtain⟨y,J,U⟩:=a7 hx;injection J with J;subst J;obtain⟨V,e,Q⟩:=U;obtain⟨u,T,I⟩:=Q.get E;have F:V[i]? =some u:=by{simpa using T};exact Gives.pure h (v':=u) (by simp[execOp,e,Instr.extract,F]) I};{cases q}
end
section
variable {P:Program}{g0 lo:Nat}{μ:Mu}{H:Heap}{w:World}{ρ:Operand->Value}{type:TypeId}{pos:String}{dst:Option Tmp}{after:Array Edge}{guard:Option (Nat×Bool)}{xs:List IV}{v:IV}{H':Heap}
theorem uQ{t:TypeId}{n:Option Nat}(h:rD P t=some n):(n=none/\(∀w:World,(isAgg t).run P w=.ok false w))\/(∃k,n=some k/\aR P t=some k/\(∀w:World,(isAgg t).run P w=.ok true w)):=by unfold rD at h;cases q:P.underlying t with|none=>simp[q] at h|some d=>cases hs:aR P t with|none=>cases d<;>simp[q,hs] at h|some k=>cases d<;>simp[q,hs] at h<;>subst h<;> first|exact .inl ⟨rfl,λw=>by simp[isAgg,run_underlying q]⟩|exact .inr ⟨k,rfl,rfl,λw=>by simp[isAgg,run_underlying q]⟩
theorem yY{t:TypeId}{n:Option Nat}(O:rD P t=some n){cs:List IV}{E:Array Value}(J:VRs μ cs E.toList){off:Nat}{r:IV}(F:off+n.getD 1<=cs.length)(u:ak n ((cs.drop off).take (n.getD 1))=some r):∃K:Value,(part t E off).run P w=.ok K w/\VR μ r K:=by rcases uQ O with⟨rfl,q⟩|⟨k,rfl,hs,q⟩;{simp only[DJ] at u F;have I:off<cs.length:=by{omega};have e:(cs.drop off).take 1=[cs[off]]:=by{rw[oj I];rfl};rw[e] at u;injection u with u;subst u;obtain⟨y,T,Q⟩:=J.get (i:=off) (x:=cs[off]) (cj I);simp_all[part]};{injection u with u;subst u;refine⟨.agg (E.extract off (off+k)),by simp[part,q,a8 hs],_,rfl,?_⟩;have:=(J.drop off).take k;simp_all[DU]}
theorem sV{t:TypeId}{i:Nat}{f:Field}(h:lE P t i=some f):∃fs:Array Field,P.underlying t=some (.struct fs)/\fs[i]? =some f:=by grind[lE]
theorem Sv(h:Rel P g0 μ H.get H.n w){t:TypeId}{x:Operand}{i:Nat}{f:Field}{n:Option Nat}(Q:lE P t i=some f)(O:rD P f.type=some n)(q:ev1 (.field f.offset n) xs lo H=some (v,H'))(hx:VRs μ xs [ρ x]):Gives P g0 lo μ H w (execOp ρ ⟨dst,.field t x i,type,pos,after,guard⟩) v H':=by obtain⟨fs,Z,Y⟩:=sV Q;simp only[ev1] at q;split at q;{rename_i cs;split at q;{rename_i u;cases E:ak n ((cs.drop f.offset).take (n.getD 1)) with|none=>rw[E] at q;cases q|some r=>rw[E] at q;injection q with q;injection q with J K;subst J K;obtain⟨y,F,l',e,T⟩:=a7 hx;injection F with F;subst F;obtain⟨V,I,U⟩:=yY (P:=P) (w:=w) O T u E;exact Gives.pure h (v':=V) (by simp_all[execOp,Instr.field,run_underlying,asAgg]) U};{cases q}};{cases q}
theorem xu(c p n:Nat):(⟨c,p,none⟩:Addr).add n=⟨c,p+n,none⟩:=by grind[Addr.add]
theorem LocR.add{b o n:Nat}{a:Addr}(h:LocR μ b o a):LocR μ b (o+n) (a.add n):=by grind[LocR,xu,Nat.add_assoc]
theorem Fs(h:Rel P g0 μ H.get H.n w){t:TypeId}{x:Operand}{i:Nat}{f:Field}{n:Nat}(I:lE P t i=some f)(hs:aR P f.type=some n)(hn:n≠0)(q:ev1 (.fieldAddr f.offset) xs lo H=some (v,H'))(hx:VRs μ xs [ρ x]):Gives P g0 lo μ H w (execOp ρ ⟨dst,.fieldAddr t x i,type,pos,after,guard⟩) v H':=by obtain⟨fs,O,K⟩:=sV I;simp only[ev1] at q;split at q;{rename_i b o;injection q with q;injection q with E F;subst E F;obtain⟨y,u,a,e,J⟩:=a7 hx;injection u with u;subst u;exact Gives.pure h (v':=.pointer (some (a.add f.offset))) (by simp_all[execOp,Instr.fieldAt,run_underlying,Instr.sureAddr,fieldPlace,a8]) ⟨_,rfl,J.add⟩};{cases q}
theorem SlR.loc{b o cap:Nat}{ex:Bool}{a:Addr}(h:SlR μ b o ex cap a)(q:cap≠0):LocR μ b o a:=by grind[SlR,LocR]
theorem Su(h:Rel P g0 μ H.get H.n w){t e:TypeId}{x i:Operand}{n:Nat}(T:P.underlying t=some (.slice e))(hs:aR P e=some n)(q:ev1 (.idxSl n) xs lo H=some (v,H'))(hx:VRs μ xs [ρ x,ρ i]):Gives P g0 lo μ H w (execOp ρ ⟨dst,.indexAddr t x i,type,pos,after,guard⟩) v H':=by simp only[ev1] at q;split at q;{rename_i b o len lb ex k j;split at q;{rename_i O;injection q with q;injection q with E I;subst E I;obtain⟨U,V,F,⟨a,cap,E,K,Q⟩,J⟩:=bq hx;simp only[dT,and_true] at F;obtain⟨rfl,rfl⟩:=F;have u:cap≠0:=by{obtain⟨c1,c2,_⟩:=K;omega};exact Gives.pure h (v':=.pointer (some (a.add (j.toNat*n)))) (by simp[execOp,Instr.indexAt,fQ J,asIntOf,run_underlying T,E,O,a8 hs]) ⟨_,rfl,(Q.loc u).add⟩};{cases q}};{cases q}
theorem Dt(h:Rel P g0 μ H.get H.n w){t e:TypeId}{x i:Operand}{len n:Nat}(O:P.underlying t=some (.array len e))(hs:aR P e=some n)(q:ev1 (.idxArrAddr len n) xs lo H=some (v,H'))(hx:VRs μ xs [ρ x,ρ i]):Gives P g0 lo μ H w (execOp ρ ⟨dst,.indexAddr t x i,type,pos,after,guard⟩) v H':=by simp only[ev1] at q;split at q;{rename_i b o k j;split at q;{rename_i J;injection q with q;injection q with u F;subst u F;obtain⟨Q,T,E,⟨a,u,K⟩,I⟩:=bq hx;simp only[dT,and_true] at E;obtain⟨rfl,rfl⟩:=E;exact Gives.pure h (v':=.pointer (some (a.add (j.toNat*n)))) (by simp[execOp,Instr.indexAt,fQ I,asIntOf,run_underlying O,u,Instr.sureAddr,J,a8 hs]) ⟨_,rfl,K.add⟩};{cases q}};{cases q}
theorem OS(h:Rel P g0 μ H.get H.n w){t e:TypeId}{x i:Operand}{len k:Nat}{n:Option Nat}(Z:P.underlying t=some (.array len e))(hs:aR P e=some k)(U:rD P e=some n)(q:ev1 (.idxArr len k n) xs lo H=some (v,H'))(hx:VRs μ xs [ρ x,ρ i]):Gives P g0 lo μ H w (execOp ρ ⟨dst,.index t x i,type,pos,after,guard⟩) v H':=by simp only[ev1] at q;split at q;{rename_i cs kd j;split at q;{rename_i V;obtain⟨I,J,u⟩:=V;cases K:ak n ((cs.drop (j.toNat*k)).take (n.getD 1)) with|none=>rw[K] at q;cases q|some r=>rw[K] at q;injection q with q;injection q with F Q;subst F Q;obtain⟨y1,y2,O,⟨l',F,Y⟩,T⟩:=bq hx;simp only[dT,and_true] at O;obtain⟨rfl,rfl⟩:=O;obtain⟨r',E,hv⟩:=yY (P:=P) (w:=w) U Y u K;exact Gives.pure h (v':=r') (by simp[execOp,Instr.index,fQ T,asIntOf,run_underlying Z,F,I,J,a8 hs,E]) hv};{cases q}};{cases q}
theorem OR(h:Rel P g0 μ H.get H.n w){t:TypeId}{x i:Operand}(U:P.underlying t=some .string)(q:ev1 .idxStr xs lo H=some (v,H'))(hx:VRs μ xs [ρ x,ρ i]):Gives P g0 lo μ H w (execOp ρ ⟨dst,.index t x i,type,pos,after,guard⟩) v H':=by simp only[ev1] at q;split at q;{rename_i s kd j;split at q;{rename_i T;cases hs:s[j.toNat]? with|none=>rw[hs] at q;cases q|some c=>rw[hs] at q;injection q with q;injection q with J K;subst J K;obtain⟨V,Y,I,O,Q⟩:=bq hx;simp only[dT,and_true] at I;obtain⟨rfl,rfl⟩:=I;have E:(ByteArray.mk ⟨s⟩:ByteArray)[j.toNat]? =some c:=by{obtain⟨F,E⟩:=List.getElem?_eq_some_iff.1 hs;have u:j.toNat<(ByteArray.mk ⟨s⟩).size:=F;rw[getElem?_pos (ByteArray.mk ⟨s⟩) j.toNat u];exact congrArg some E};exact Gives.pure h (v':=.int .u8 c.toNat) (by simp[execOp,Instr.index,fQ Q,asIntOf,run_underlying U,xw O,T,E]) rfl};{cases q}};{cases q}
theorem Ss(h:Rel P g0 μ H.get H.n w){t e:TypeId}{args:Array Operand}{ts:Array TypeId}(I:ts=#[t])(J:P.underlying t=some (.slice e))(u:ev1 .lenSl xs lo H=some (v,H'))(hx:VRs μ xs (args.toList.map ρ)):Gives P g0 lo μ H w (execOp ρ ⟨dst,.call ⟨.builtin .len,args,ts⟩,type,pos,after,guard⟩) v H':=by simp only[ev1] at u;split at u;{rename_i x;obtain⟨y,O,K⟩:=a7 hx;have q:args.map ρ=#[y]:=by{grind};subst I;cases x with|nilSlice=>injection u with u;injection u with E F;subst E F;cases K;exact Gives.pure h (v':=.int .i64 0) (by simp[execOp,resolve,invoke,builtin,q,Builtin.len_,run_underlying J,goInt]) rfl|slice b o n lb ex=>injection u with u;injection u with E F;subst E F;obtain⟨a,c,rfl,_⟩:=K;exact Gives.pure h (v':=.int .i64 n) (by simp[execOp,resolve,invoke,builtin,q,Builtin.len_,run_underlying J,goInt]) rfl|_=>simp at u};{cases u}
theorem OO(h:Rel P g0 μ H.get H.n w){t:TypeId}{args:Array Operand}{ts:Array TypeId}(E:ts=#[t])(J:P.underlying t=some .string)(u:ev1 .lenStr xs lo H=some (v,H'))(hx:VRs μ xs (args.toList.map ρ)):Gives P g0 lo μ H w (execOp ρ ⟨dst,.call ⟨.builtin .len,args,ts⟩,type,pos,after,guard⟩) v H':=by simp only[ev1] at u;split at u;{rename_i s;injection u with u;injection u with F I;subst F I;obtain⟨y,O,K⟩:=a7 hx;have q:args.map ρ=#[y]:=by{grind};subst E;cases K;have e:(ByteArray.mk ⟨s⟩).size=s.length:=rfl;exact Gives.pure h (v':=.int .i64 s.length) (by simp[execOp,resolve,invoke,builtin,q,Builtin.len_,run_underlying J,goInt,e]) rfl};{cases u}
theorem OQ(h:Rel P g0 μ H.get H.n w){t e:TypeId}{n:Nat}{args:Array Operand}{ts:Array TypeId}(E:ts=#[t])(J:P.underlying t=some (.array n e))(u:ev1 (.lenArr n) xs lo H=some (v,H'))(hx:VRs μ xs (args.toList.map ρ)):Gives P g0 lo μ H w (execOp ρ ⟨dst,.call ⟨.builtin .len,args,ts⟩,type,pos,after,guard⟩) v H':=by simp only[ev1] at u;split at u;{injection u with u;injection u with F I;subst F I;obtain⟨y,O,K⟩:=a7 hx;have q:args.map ρ=#[y]:=by{grind};subst E;exact Gives.pure h (v':=.int .i64 n) (by simp[execOp,resolve,invoke,builtin,q,Builtin.len_,run_underlying J,goInt]) rfl};{cases u}
theorem XV(h:Rel P g0 μ H.get H.n w){t e:TypeId}{args:Array Operand}{ts:Array TypeId}(I:ts=#[t])(J:P.underlying t=some (.slice e))(u:ev1 .cap xs lo H=some (v,H'))(hx:VRs μ xs (args.toList.map ρ)):Gives P g0 lo μ H w (execOp ρ ⟨dst,.call ⟨.builtin .cap,args,ts⟩,type,pos,after,guard⟩) v H':=by simp only[ev1] at u;split at u;{rename_i x;obtain⟨y,Q,K⟩:=a7 hx;have q:args.map ρ=#[y]:=by{grind};subst I;cases x with|nilSlice=>injection u with u;injection u with E F;subst E F;cases K;exact Gives.pure h (v':=.int .i64 0) (by simp[execOp,resolve,invoke,builtin,q,Builtin.cap_,run_underlying J,goInt]) rfl|slice b o n lb ex=>(cases ex with|false=>simp at u|true=>injection u with u;injection u with E F;subst E F;obtain⟨a,c,rfl,O,_⟩:=K;have:c=lb:=O.2.2.2 rfl;subst this;exact Gives.pure h (v':=.int .i64 c) (by simp[execOp,resolve,invoke,builtin,q,Builtin.cap_,run_underlying J,goInt]) rfl)|_=>simp at u};{cases u}
theorem XT(h:Rel P g0 μ H.get H.n w){args:Array Operand}{ts:Array TypeId}(q:ev1 .min xs lo H=some (v,H'))(hx:VRs μ xs (args.toList.map ρ)):Gives P g0 lo μ H w (execOp ρ ⟨dst,.call ⟨.builtin .min,args,ts⟩,type,pos,after,guard⟩) v H':=by simp only[ev1] at q;split at q;{rename_i k a K b;split at q;{injection q with q;injection q with E F;subst E F;obtain⟨Q,T,O,I,J⟩:=bq hx;cases I;cases J;have u:args.map ρ=#[.int k a,.int K b]:=by{grind};exact Gives.pure h (v':=.int k (if b<a then b else a)) (by simp[execOp,resolve,invoke,builtin,u,Builtin.min_,Builtin.min2]) rfl};{cases q}};{cases q}
theorem XU(h:Rel P g0 μ H.get H.n w){args:Array Operand}{ts:Array TypeId}(q:ev1 .max xs lo H=some (v,H'))(hx:VRs μ xs (args.toList.map ρ)):Gives P g0 lo μ H w (execOp ρ ⟨dst,.call ⟨.builtin .max,args,ts⟩,type,pos,after,guard⟩) v H':=by simp only[ev1] at q;split at q;{rename_i k a K b;split at q;{injection q with q;injection q with E F;subst E F;obtain⟨Q,T,O,I,J⟩:=bq hx;cases I;cases J;have u:args.map ρ=#[.int k a,.int K b]:=by{grind};exact Gives.pure h (v':=.int k (if b>a then b else a)) (by simp[execOp,resolve,invoke,builtin,u,Builtin.max_,Builtin.max2]) rfl};{cases q}};{cases q}
theorem dc{y i:Nat}{x:IV}{u:Value}(h:cn y x=some i)(E:VR μ x u)(c:BoundsCode)(q:Nat)(I:y<=q)(w:World):(Instr.sliceBound u q c).run P w=.ok i w/\i<=y:=by cases x with|int k n=>cases E;simp only[cn] at h;split at h;{rename_i hn;injection h with h;subst h;have F:0<=n/\n<=(q:Int):=by{omega};simp_all[Instr.sliceBound,asIntOf]};{cases h}|_=>simp[cn] at h
theorem np{isSl:Bool}{len J cap:Nat}{l:List IV}{a b:Nat}{m:Option Nat}{V Z mx:Option Operand}(E:bu len J V.isSome Z.isSome mx.isSome l=some (a,b,m))(ad:len<=J)(hc:J<=cap)(hv:VRs μ l ((V.toArray++Z.toArray++mx.toArray).toList.map ρ))(w:World):(Instr.sliceBounds isSl len cap (V.map ρ) (Z.map ρ) (mx.map ρ)).run P w=.ok (a,b,m.getD cap) w/\a<=b/\b<=m.getD J/\(∀k,m=some k->k<=J):=by cases V with|none=>(cases Z with|none=>(cases mx with|none=>(match l,E with|[],E=>injection E with E;simp only[ij] at E;obtain⟨rfl,rfl,rfl⟩:=E;exact⟨by simp[Instr.sliceBounds],by omega,by simpa using ad,λ_ h=>by cases h⟩)|some z=>simp[bu] at E)|some y=>cases mx with|none=>(match l,E with|[Y],E=>obtain⟨u,O,I⟩:=a7 hv;simp at O;subst O;simp only[bu,Bs,yR] at E;cases F:cn J Y with|none=>rw[F] at E;cases E|some i=>rw[F] at E;injection E with E;simp only[ij] at E;obtain⟨rfl,rfl,rfl⟩:=E;have U:=dc (P:=P) F I;exact⟨by simp_all[Instr.sliceBounds],by omega,by simpa using (U .index cap hc w).2,λ_ h=>by cases h⟩)|some z=>match l,E with|[Y,x2],E=>obtain⟨u,u2,O,I,K⟩:=bq hv;simp at O;obtain⟨rfl,rfl⟩:=O;simp only[bu,Bs,yR] at E;cases Q:cn J x2 with|none=>rw[Q] at E;cases E|some j=>rw[Q] at E;simp only[bD] at E;cases F:cn j Y with|none=>rw[F] at E;cases E|some i=>rw[F] at E;injection E with E;simp only[ij] at E;obtain⟨rfl,rfl,rfl⟩:=E;have U:=dc (P:=P) F I;have T:=dc (P:=P) Q K;exact⟨by simp_all[Instr.sliceBounds,ao],by omega,by simpa using (U .index j (ao _) w).2,λk h=>by injection h with h;subst h;exact(T .index cap hc w).2⟩)|some q=>cases Z with|none=>(cases mx with|none=>(match l,E with|[Y],E=>obtain⟨u,O,I⟩:=a7 hv;simp at O;subst O;simp only[bu,Bs,yR] at E;cases F:cn len Y with|none=>rw[F] at E;cases E|some i=>rw[F] at E;injection E with E;simp only[ij] at E;obtain⟨rfl,rfl,rfl⟩:=E;have U:=dc (P:=P) F I;exact⟨by simp_all[Instr.sliceBounds,ao],by simpa using (U .index len (ao _) w).2,by simpa using ad,λ_ h=>by cases h⟩)|some z=>simp[bu] at E)|some y=>cases mx with|none=>(match l,E with|[Y,x2],E=>obtain⟨u,u2,O,I,K⟩:=bq hv;simp at O;obtain⟨rfl,rfl⟩:=O;simp only[bu,Bs,yR] at E;cases Q:cn J x2 with|none=>rw[Q] at E;cases E|some j=>rw[Q] at E;simp only[bD] at E;cases F:cn j Y with|none=>rw[F] at E;cases E|some i=>rw[F] at E;injection E with E;simp only[ij] at E;obtain⟨rfl,rfl,rfl⟩:=E;have U:=dc (P:=P) F I;have T:=dc (P:=P) Q K;exact⟨by simp_all[Instr.sliceBounds,ao],(U .index j (ao _) w).2,by simpa using (T .index cap hc w).2,λ_ h=>by cases h⟩)|some z=>match l,E with|[Y,x2,x3],E=>obtain⟨u,u2,u3,O,I,K,ag⟩:=nv hv;simp at O;obtain⟨rfl,rfl,rfl⟩:=O;simp only[bu,Bs,yR] at E;cases h3:cn J x3 with|none=>rw[h3] at E;cases E|some k=>rw[h3] at E;simp only[bD] at E;cases Q:cn k x2 with|none=>rw[Q] at E;cases E|some j=>rw[Q] at E;simp only[bD] at E;cases F:cn j Y with|none=>rw[F] at E;cases E|some i=>rw[F] at E;injection E with E;simp only[ij] at E;obtain⟨rfl,rfl,rfl⟩:=E;have U:=dc (P:=P) F I;have T:=dc (P:=P) Q K;have ap:=dc (P:=P) h3 ag;exact⟨by simp_all[Instr.sliceBounds,ao],(U .index j (ao _) w).2,by simpa using (T .index k (ao _) w).2,λk' h=>by injection h with h;subst h;exact(ap .index cap hc w).2⟩
end
section
variable {P:Program}{g0 lo:Nat}{μ:Mu}{H:Heap}{w:World}{ρ:Operand->Value}{type:TypeId}{pos:String}{dst:Option Tmp}{after:Array Edge}{guard:Option (Nat×Bool)}{xs:List IV}{v:IV}{H':Heap}
theorem lJ(t:TypeId)(x:Operand)(a b c:Option Operand):(Op.slice t x a b c).operands.toList.map ρ=ρ x::((a.toArray++b.toArray++c.toArray).toList.map ρ):=by simp[Op.operands]
theorem MX(h:Rel P g0 μ H.get H.n w){b c p ez z size:Nat}(q:Js H b size=true)(F:μ b=.at c p ez z):ez=0\/ez=size:=by unfold Js at q;obtain⟨o,I,u⟩:=h.obj b c p ez z F;rw[I] at q;cases o with|cells J e E cs=>cases J;{simp at q;right;rw[u.2.1,q]};{left;exact u.1}|_=>simp at q
theorem XS(h:Rel P g0 μ H.get H.n w){t e:TypeId}{x:Operand}{a b c:Option Operand}{n:Nat}(hu:P.underlying t=some (.slice e))(hs:aR P e=some n)(u:ev1 (.slc n a.isSome b.isSome c.isSome) xs lo H=some (v,H'))(hx:VRs μ xs ((Op.slice t x a b c).operands.toList.map ρ)):Gives P g0 lo μ H w (execOp ρ ⟨dst,.slice t x a b c,type,pos,after,guard⟩) v H':=by rw[lJ] at hx;simp only[ev1] at u;split at u;{rename_i s l;obtain⟨y,ys,hy,hv,hl⟩:=hx;simp only[dT] at hy;obtain⟨rfl,rfl⟩:=hy;cases s with|nilSlice=>(simp only at u;cases U:bu 0 0 a.isSome b.isSome c.isSome l with|none=>rw[U] at u;cases u|some r=>obtain⟨i,j,m⟩:=r;rw[U] at u;simp only[bD] at u;split at u;{rename_i aE;obtain⟨rfl,rfl⟩:=aE;injection u with u;injection u with T O;subst T O;obtain⟨I,_,_,hm⟩:=np (P:=P) (isSl:=true) U (ao _) (ao 0) hl w;have a2:m.getD 0=0:=by{cases m with|none=>rfl|some k=>have:=hm k rfl;simp;omega};rw[a2] at I;have a5:ρ x=.slice none 0 0:=hv;exact Gives.pure h (v':=.slice none 0 0) (by simp[execOp,Instr.sliceAt,run_underlying hu,Instr.slice,a5,I,a8 hs]) rfl};{cases u})|slice bl o len lb ex=>simp only at u;split at u;{rename_i ap;cases U:bu len lb a.isSome b.isSome c.isSome l with|none=>rw[U] at u;cases u|some r=>obtain⟨i,j,m⟩:=r;rw[U] at u;obtain⟨ad,cap,a0,⟨c1,c2,c3,c4⟩,F⟩:=hv;obtain⟨I,aE,J,hm⟩:=np (P:=P) (isSl:=true) U c1 c2 hl w;have E:(execOp ρ ⟨dst,.slice t x a b c,type,pos,after,guard⟩).run P w=.ok (.value (.slice (some (if m.getD cap=i then ad else ad.add (i*n))) (j - i) (m.getD cap - i))) w:=by{simp only[execOp];simp[Instr.sliceAt,run_underlying hu,Instr.slice,a0,I,a8 hs];split<;>rfl};have K:∀ex':Bool,(ex'=false->ex=false/\m=none)->SlR μ bl (o+i*n) ex' (m.getD cap - i) (if m.getD cap=i then ad else ad.add (i*n)):=by{intro ex' Z;unfold SlR at F⊢;cases V:μ bl with|no=>rw[V] at F;exact F|dead=>trivial|«at» q p ez z=>rw[V] at F;simp only at F⊢;refine⟨?_,λT O=>?_⟩;{by_cases a3:m.getD cap=i;{left;omega};{right;rw[if_neg a3];have a6:m.getD cap<=cap:=by{cases m with|none=>exact ao _|some k=>have:=hm k rfl;simp;omega};have a1:i<=m.getD cap:=by{cases m with|none=>simp at J⊢;omega|some k=>simp at J⊢;omega};have Y:cap≠0:=by{omega};rw[F.1.resolve_left Y,xu,kv]}};{obtain⟨ag,a4⟩:=Z T;subst ag a4;simp only[Bool.false_or] at ap;rcases MX h ap V with h0|h0;{exact absurd h0 O};{subst h0;have:=F.2 rfl O;simp only[DJ] at J⊢;have a1:i<=cap:=by{omega};have:(cap - i)*ez+i*ez=cap*ez:=by{rw[<-qT];congr 1;omega};omega}}};cases m with|none=>simp only[fF] at u;injection u with u;injection u with T O;subst T O;have Q:=K ex λe=>⟨e,rfl⟩;simp only[DJ] at E Q J;exact Gives.pure h E ⟨_,_,rfl,⟨by omega,by omega,by omega,λe=>by have:=c4 e;omega⟩,Q⟩|some k=>simp only[fF] at u;injection u with u;injection u with T O;subst T O;simp only[iP] at E K J;have:=hm k rfl;exact Gives.pure h E ⟨_,_,rfl,⟨by omega,ao _,by omega,λ_=>rfl⟩,K true λe=>by cases e⟩};{cases u}|_=>simp at u};{cases u}
theorem OJ(h:Rel P g0 μ H.get H.n w){t:TypeId}{x:Operand}{a b:Option Operand}(V:P.underlying t=some .string)(q:ev1 (.slcStr a.isSome b.isSome) xs lo H=some (v,H'))(hx:VRs μ xs ((Op.slice t x a b none).operands.toList.map ρ)):Gives P g0 lo μ H w (execOp ρ ⟨dst,.slice t x a b none,type,pos,after,guard⟩) v H':=by rw[lJ] at hx;simp only[ev1] at q;split at q;{rename_i s l;obtain⟨y,ys,I,U,T⟩:=hx;simp only[dT] at I;obtain⟨rfl,rfl⟩:=I;cases u:bu s.length s.length a.isSome b.isSome false l with|none=>rw[u] at q;cases q|some r=>obtain⟨i,j,m⟩:=r;rw[u] at q;injection q with q;injection q with J K;subst J K;obtain⟨E,O,Q,hm⟩:=np (P:=P) (isSl:=false) (mx:=none) (cap:=s.length) u (ao _) (ao _) T w;have F:=xw U;have e:(ByteArray.mk ⟨s⟩).size=s.length:=rfl;refine Gives.pure h (v':=.string ((ByteArray.mk ⟨s⟩).extract i j)) ?_ ?_;{simp_all[execOp,Option.map_none,Instr.sliceAt,run_underlying,Instr.slice]};{exact congrArg Value.string (po (by rw[Lib.extract_data]))}};{cases q}
theorem OK(h:Rel P g0 μ H.get H.n w){t e:TypeId}{x:Operand}{a b c:Option Operand}{k n:Nat}(hu:P.underlying t=some (.array k e))(hs:aR P e=some n)(q:ev1 (.slcArr e k n a.isSome b.isSome c.isSome) xs lo H=some (v,H'))(hx:VRs μ xs ((Op.slice t x a b c).operands.toList.map ρ)):Gives P g0 lo μ H w (execOp ρ ⟨dst,.slice t x a b c,type,pos,after,guard⟩) v H':=by rw[lJ] at hx;simp only[ev1] at q;split at q;{rename_i bl o l;obtain⟨y,ys,O,hv,Y⟩:=hx;simp only[dT] at O;obtain⟨rfl,rfl⟩:=O;cases F:bu k k a.isSome b.isSome c.isSome l with|none=>rw[F] at q;cases q|some r=>obtain⟨i,j,m⟩:=r;rw[F] at q;simp only[bD] at q;split at q;{rename_i hk;injection q with q;injection q with Q T;subst Q T;obtain⟨I,K,E⟩:=hv;obtain⟨J,U,V,hm⟩:=np (P:=P) (isSl:=false) F (ao _) (ao _) Y w;have Z:m.getD k<=k:=by{cases m<;>grind};refine Gives.pure h (v':=.slice (some (if m.getD k=i then I else I.add (i*n))) (j - i) (m.getD k - i)) ?_ ⟨_,_,rfl,⟨by omega,ao _,by omega,λ_=>rfl⟩,?_⟩;{simp_all[execOp,Instr.sliceAt,run_underlying,Instr.sureAddr,a8]};{have u:=E.add (n:=i*n);unfold SlR;unfold LocR at u;grind}};{cases q}};{cases q}
end
section
variable {P:Program}{g0 lo:Nat}{μ:Mu}{H:Heap}{w:World}{ρ:Operand->Value}{type:TypeId}{pos:String}{dst:Option Tmp}{after:Array Edge}{guard:Option (Nat×Bool)}{xs:List IV}{v:IV}{H':Heap}
theorem cO:∀(cs:List IV)(o:Nat)(vs:List IV),o+vs.length<=cs.length->ax cs o vs=cs.take o++vs++cs.drop (o+vs.length)|[],o,vs,h=>by have q:o=0:=by{rw[eu] at h;omega};have u:vs=[]:=by{rw[eu] at h;exact List.length_eq_zero_iff.1 (by omega)};subst q u;rfl|c::cs,0,[],_=>by simp[ax]|c::cs,0,v::vs,h=>by simp only[ax];rw[cO cs 0 vs (by simp at h;omega)];simp|c::cs,o+1,vs,h=>by simp only[ax];rw[cO cs o vs (by simp at h;omega)];simp[Nat.add_right_comm]
theorem qC(cs:List IV)(o:Nat)(vs:List IV)(h:o+vs.length<=cs.length):(ax cs o vs).length=cs.length:=by grind[cO]
theorem GG(off:Nat):∀(vs:List Value)(k:Nat)(cells:Array Value),off+k+vs.length<=cells.size->((vs.zipIdx k).foldl (λcs x=>cs.setIfInBounds (off+x.2) x.1) cells).toList=cells.toList.take (off+k)++vs++cells.toList.drop (off+k+vs.length)|[],k,cells,_=>by simp|v::vs,k,cells,h=>by simp only[List.zipIdx_cons,qZ];rw[GG off vs (k+1) _ (by simp at h⊢;omega)];have e:=list_seg_step cells.toList (off+k) v vs (by simp at h⊢;omega);simpa [vx,kv] using e
theorem oN(place:Nat->Option (Nat×Nat)):∀(parts:List (Nat×Operand))(E:List (Nat×Nat))(xs cs r:List IV)(q:Array Value),parts.mapM (λp=>place p.1)=some E->VRs μ xs (parts.map λp=>ρ p.2)->VRs μ cs q.toList->ce E xs cs=some r->∃Y:Array Value,Instr.fill place q (parts.map λp=>(p.1,ρ p.2))=some Y/\VRs μ r Y.toList:=by intro parts;induction parts with|nil=>(intro E xs cs r q F hx K I;simp at F;subst F;cases xs with|nil=>simp[ce] at I;subst I;exact⟨q,rfl,K⟩|cons=>simp[ce] at I)|cons p parts ih=>intro E xs cs r q F hx K I;simp only[qY] at F;cases Z:place p.1 with|none=>rw[Z] at F;cases F|some pl=>obtain⟨off,size⟩:=pl;rw[Z] at F;cases U:parts.mapM (λp=>place p.1) with|none=>rw[U] at F;cases F|some J=>rw[U] at F;injection F with F;subst F;cases xs with|nil=>simp[ce] at I|cons x xs=>obtain⟨y,ys,hy,hv,V⟩:=hx;simp only[aT,dT] at hy;obtain⟨rfl,rfl⟩:=hy;simp only[ce] at I;split at I;{rename_i ap;have u:=hv.cells_;have hl:=u.length;have T:x.cells.length=(ρ p.2).cells.size:=by{simpa using hl};have ad:cs.length=q.size:=by{simpa using K.length};have Q:((ρ p.2).cells.size≠size||off+(ρ p.2).cells.size>q.size)=false:=by{have h1:(ρ p.2).cells.size=size:=by{omega};simp[h1];omega};have O:VRs μ (ax cs off x.cells) ((ρ p.2).cells.zipIdx.foldl (λcs x=>cs.setIfInBounds (off+x.2) x.1) q).toList:=by{rw[<-Array.foldl_toList,Array.toList_zipIdx,GG off _ 0 q (by simp;omega),cO cs off x.cells (by omega)];simp only[ss];rw[show off+(ρ p.2).cells.toList.length=off+x.cells.length by simp[T]];exact((K.take off).append u).append (K.drop _)};obtain⟨Y,ag,aE⟩:=ih J xs _ r _ U V O I;simp_all[aT,Instr.fill,if_neg]};{cases I}
theorem Gj{α q:Type}(F:α->Sem q)(G:α->q)(w:World):∀l:List α,(∀f∈l,(F f).run P w=.ok (G f) w)->(l.mapM F).run P w=.ok (l.map G) w|[],_=>by simp|f::l,h=>by have u:=h f (by simp);have E:=Gj F G w l λg I=>h g (by simp[I]);simp[u,E]
theorem I0{fs:Array Field}(hall:(fs.all fun f=>(aR P f.type).isSome)=true)(F:Field→Sem (Nat×Nat))(hF:∀f,F f=(do pure (f.offset,←sizeOf f.type)))(w:World):
  (fs.mapM F).run P w=.ok (fs.map fun f=>(f.offset,(aR P f.type).getD 0)) w:=by
 rw[Array.mapM_eq_mapM_toList]
 have hk:=Gj (P:=P) F (fun f=>(f.offset,(aR P f.type).getD 0)) w fs.toList (fun f hf=>by
  rw[Array.all_eq_true_iff_forall_mem] at hall;have h1:=hall f (by simpa using hf)
  cases hs:aR P f.type with
  | none=>rw[hs] at h1;cases h1
  | some n=>rw[hF];simp[a8 hs])
 simp[hk];apply qS;simp
theorem Sx(h:Rel P g0 μ H.get H.n w){t:TypeId}{J:Array (Nat×Operand)}{kd:Kd}(q:cq P (.build t J)=some kd)(E:ev1 kd xs lo H=some (v,H'))(hx:VRs μ xs ((Op.build t J).operands.toList.map ρ)):Gives P g0 lo μ H w (execOp ρ ⟨dst,.build t J,type,pos,after,guard⟩) v H':=by have Y:(Op.build t J).operands.toList.map ρ=J.toList.map λp=>ρ p.2:=by{simp[Op.operands]};rw[Y] at hx;simp only[cq] at q;cases hu:P.underlying t with|none=>rw[hu] at q;cases q|some d=>rw[hu] at q;cases d with|struct fs=>simp only at q;split at q;{rename_i V;cases O:rf (λi=>(fs[i]?).bind λf=>(aR P f.type).map λn=>(f.offset,n)) J with|none=>rw[O] at q;cases q|some u=>rw[O] at q;cases T:iy P t with|none=>simp[T] at q|some z=>simp[T] at q;subst q;simp only[ev1] at E;cases K:ce u xs z.cells with|none=>rw[K] at E;cases E|some cs=>rw[K] at E;injection E with E;injection E with e1 e2;subst e1 e2;obtain⟨i,zv,hi,U,Q⟩:=jd T;obtain⟨Z,I,hv⟩:=oN (ρ:=ρ) (μ:=μ) (λi=>(fs[i]?).bind λf=>(aR P f.type).map λn=>(f.offset,n)) J.toList u xs z.cells cs zv.cells O hx (Q μ).cells_ K;have F:(λi:Nat=>(fs[i]?).bind λf=>(aR P f.type).map λn=>(f.offset,n))=λi:Nat=>Option.map (λf:Field=>(f.offset,(aR P f.type).getD 0)) fs[i]?:=by{funext i;cases ag:fs[i]? with|none=>rfl|some f=>have:(aR P f.type).isSome=true:=by{grind};cases hs:aR P f.type with|none=>rw[hs] at this;cases this|some n=>simp[hs]};rw[F] at I;refine Gives.pure h (v':=.agg Z) ?_ ⟨Z,rfl,hv⟩;have ad:=I0 V (λf=>Prod.mk f.offset <$>sizeOf f.type) (λf=>by simp) w;simp only[execOp,Instr.build];simp[zeroValue,typeInfo,hi,U,run_underlying hu,ad,I]};{cases q}|array k e=>(simp only at q;cases hs:aR P e with|none=>rw[hs] at q;cases q|some n=>rw[hs] at q;simp only[bD] at q;cases O:rf (λi=>some (i*n,n)) J with|none=>rw[O] at q;cases q|some u=>rw[O] at q;cases T:iy P t with|none=>simp[T] at q|some z=>simp[T] at q;subst q;simp only[ev1] at E;cases K:ce u xs z.cells with|none=>rw[K] at E;cases E|some cs=>rw[K] at E;injection E with E;injection E with e1 e2;subst e1 e2;obtain⟨i,zv,hi,U,Q⟩:=jd T;obtain⟨Z,I,hv⟩:=oN (ρ:=ρ) (μ:=μ) (λi=>some (i*n,n)) J.toList u xs z.cells cs zv.cells O hx (Q μ).cells_ K;refine Gives.pure h (v':=.agg Z) ?_ ⟨Z,rfl,hv⟩;simp only[execOp,Instr.build];simp[zeroValue,typeInfo,hi,U,run_underlying hu,a8 hs,I])|_=>simp at q
theorem W1{u:Bool}{e ez:Nat}{cs:List IV}{q:Array Value}(E:VRs μ cs q.toList)(I:u=false):ObjR P μ (.cells u e ez cs) 0 ez q.size (some (.cells q e (0,0))):=by subst I;have F:=E.length;refine⟨rfl,rfl,q,rfl,rfl,by simp at F;omega,?_⟩;grind
theorem qh(h:Rel P g0 μ H.get H.n w){e ez:Nat}{cs:List IV}{q:Array Value}(O:VRs μ cs q.toList){w':World}(Q:w'.heap=w.heap.push (.cells q e (0,0)))(F:w'.os=w.os)(I:w'.tape=w.tape)(J:w'.output=w.output)(K:w.drawn<=w'.drawn:=by first|exact ao _|exact qU _|assumption|(simp;done)|omega):∃u:Mu,μ.le u/\u H.n=.at w.heap.size 0 ez q.size/\Rel P g0 u (H.new (.cells false e ez cs)).get (H.new (.cells false e ez cs)).n w'/\ Post lo μ H.get H.n w u (H.new (.cells false e ez cs)).get (H.new (.cells false e ez cs)).n w':=by have E:=μ.le_upd (.at w.heap.size 0 ez q.size) h.fresh;obtain⟨a,b⟩:=h.alloc (lo:=lo) (o:=.cells false e ez cs) (ez:=ez) (z:=q.size) Q (W1 (VRs.mono E _ _ O) rfl) F I J K;grind[aB]
theorem KG{q:Mu}{c ez z n:Nat}(h:q n=.at c 0 ez z):VR q (.ptr n 0) (.pointer (some ⟨c,0,none⟩)):=⟨_,rfl,by unfold LocR;rw[h]⟩
theorem Sy(h:Rel P g0 μ H.get H.n w){e n:Nat}{z:IV}(Q:iy P e=some z)(q:ev1 (.alloc e n z.cells) xs lo H=some (v,H')):Gives P g0 lo μ H w (execOp ρ ⟨dst,.alloc e,type,pos,after,guard⟩) v H':=by simp only[ev1] at q;split at q;{injection q with q;injection q with F I;subst F I;obtain⟨i,U,V,T,u⟩:=jd Q;obtain⟨E,J,hn,O,K⟩:=qh (lo:=lo) (e:=e) (ez:=n) h (u μ).cells_ (w':={w with heap:=w.heap.push (.cells U.cells e (0,0))}) rfl rfl rfl rfl;exact⟨_,_,_,E,by simp_all[execOp,Instr.alloc,zeroValue,typeInfo,newVar,newRow,newObj,Sem.run],.inl rfl,O,K,KG hn⟩};{cases q}
end
end Go.Iso
