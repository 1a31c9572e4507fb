/-
  values, heaps, the evaluator of isolated heaps, and its first operations: each run of the evaluator stands for a run of the model.
-/
import Derived.Orders
import Derived.Laws.CopyRow
import Derived.Laws.AppendOwn
import Derived.Deep.AppendSrc
import Derived.Laws.MakeOwn
import Derived.ChangeKeysEq
import Derived.Laws.Strings
import Derived.Lib.SmallJoins
import Derived.Lib.Split
set_option linter.unusedSimpArgs false
set_option linter.unusedVariables false
set_option linter.defProp false
namespace Go.Iso
abbrev an:=@Nat.le_refl
abbrev am:=@And.intro
abbrev aq:=@True.intro
abbrev aO:=@List.getElem_mem.{0}
abbrev aY:=@List.length_append.{0}
abbrev cn:=@List.getD_eq_getElem?_getD.{0}
abbrev b9:=@List.getElem?_eq_getElem.{0}
abbrev bq:=@Int.toNat_natCast
abbrev aX:=@List.map_cons.{0,0}
abbrev iQ:=@List.take_succ_eq_append_getElem.{0}
abbrev aM:=@List.length_map.{0,0}
abbrev bK:=@List.take_of_length_le.{0}
abbrev a7:=@List.length_set.{0}
abbrev bD:=@List.append_assoc.{0}
abbrev aI:=@Nat.mul_one
abbrev aT:=@List.map_nil.{0,0}
abbrev bC:=@Option.bind_some.{0,0}
abbrev bF:=@Bool.and_eq_true
abbrev bT:=@Nat.lt_of_lt_of_le
abbrev dX:=@Option.bind_eq_some_iff.{0,0}
abbrev dW:=@Option.map_eq_some_iff.{0,0}
abbrev bz:=@Nat.zero_add
abbrev eE:=@List.mem_cons_of_mem.{0}
abbrev dV:=@List.flatten_append.{0}
abbrev cF:=@List.getElem_map.{0,0}
abbrev cP:=@List.length_cons.{0}
abbrev fT:=@List.getElem_set_ne.{0}
abbrev iS:=@List.getElem?_eq_none.{0}
abbrev i9:=@List.getElem_set_self.{0}
abbrev dU:=@List.cons.injEq.{0}
abbrev kF:=@List.mem_or_eq_of_mem_set.{0}
abbrev fS:=@List.getElem?_map.{0,0}
abbrev iR:=@List.mem_map_of_mem.{0,0}
abbrev eD:=@List.length_nil.{0}
abbrev cE:=@Nat.lt_or_ge
abbrev fH:=@Option.map_some.{0,0}
abbrev gl:=@Option.getD_some.{0}
abbrev gj:=@List.length_take.{0}
abbrev i6:=@Bool.false_eq_true
abbrev dT:=@Nat.le_trans
abbrev il:=@List.append_nil.{0}
abbrev mj:=@Nat.add_sub_cancel_left
abbrev jv:=@List.flatten_cons.{0}
abbrev fG:=@Nat.succ_mul
abbrev dR:=@Nat.zero_le
abbrev ju:=@List.cons_append.{0}
abbrev lr:=@List.length_reverse.{0}
abbrev ol:=@List.getElem_append_left.{0}
abbrev ik:=@Prod.mk.injEq.{0,0}
abbrev kE:=@Option.some.injEq.{0}
abbrev qF:=@List.drop_eq_getElem_cons.{0}
abbrev qE:=@List.getElem_append_right.{0}
abbrev nz:=@Nat.mul_le_mul_right
abbrev ij:=@Nat.le_of_lt
abbrev jX:=@List.nil_append.{0}
abbrev kD:=@List.ext_getElem.{0}
abbrev mh:=@List.mem_cons_self.{0}
abbrev kC:=@List.map_append.{0,0}
abbrev qD:=@List.take_append_drop.{0}
abbrev qC:=@List.length_replicate.{0}
abbrev oj:=@List.getElem_mapIdx.{0,0}
abbrev jW:=@Nat.add_assoc
abbrev uU:=@Array.toList_setIfInBounds.{0}
abbrev mf:=@Bool.or_eq_true
abbrev qB:=@Array.length_toList.{0}
abbrev xG:=@List.getElem?_append_right.{0}
abbrev ny:=@List.mem_append.{0}
abbrev oi:=@List.length_drop.{0}
abbrev xF:=@Array.getElem?_eq_getElem.{0}
abbrev rZ:=@Option.bind_eq_bind.{0}
abbrev qA:=@List.nodup_append.{0}
abbrev mc:=@List.all_cons.{0}
abbrev xE:=@List.getElem?_cons_zero.{0}
abbrev qz:=@List.all_eq_true.{0}
abbrev Jz:=@Array.getElem?_setIfInBounds_self_of_lt.{0}
abbrev AP:=@List.getElem?_append_left.{0}
abbrev AO:=@List.pairwise_iff_getElem.{0}
abbrev xD:=@List.length_singleton.{0}
abbrev xC:=@List.mem_append_right.{0}
abbrev uT:=@Nat.lt_or_gt_of_ne
abbrev qx:=@List.drop_drop.{0}
abbrev qw:=@List.take_zero.{0}
abbrev xB:=@List.mem_of_mem_take.{0}
abbrev AN:=@List.pairwise_mergeSort.{0}
abbrev EP:=@Array.getD_eq_getD_getElem?.{0}
abbrev xA:=@Array.toList_append.{0}
abbrev xz:=@List.getD_cons_succ.{0}
abbrev xy:=@List.mergeSort_perm.{0}
abbrev qv:=@List.mem_cons.{0}
abbrev uS:=@List.take_length.{0}
abbrev AM:=@Array.getElem?_toList.{0}
abbrev xx:=@List.mem_singleton.{0}
abbrev AL:=@List.Perm.append_left.{0}
abbrev AK:=@List.perm_append_comm.{0}
abbrev AJ:=@List.eq_nil_or_concat.{0}
abbrev AI:=@List.concat_eq_append.{0}
abbrev uR:=@Nat.min_eq_left
abbrev xw:=@List.ext_getElem?.{0}
abbrev AH:=@List.getD_cons_zero.{0}
abbrev AG:=@List.filter_eq_self.{0}
abbrev xT:=@List.getElem_replicate.{0}
abbrev tI:=@Option.isSome_none.{0}
abbrev mR:=@Nat.add_zero
abbrev mQ:=@Nat.sub_zero
abbrev tH:=@List.set_cons_zero.{0}
abbrev Df:=@List.sublist_flatten_of_mem.{0}
abbrev qZ:=@List.foldl_cons.{0,0}
abbrev oq:=@Bool.and_self
abbrev De:=@List.extract_eq_take_drop.{0}
abbrev xS:=@List.mem_of_getElem?.{0}
abbrev qY:=@List.mapM_cons.{0,0,0}
abbrev qX:=@List.mem_range
abbrev qW:=@List.drop_zero.{0}
abbrev oo:=@Nat.zero_mul
abbrev tG:=@Bool.not_eq_true
abbrev tF:=@List.getElem_inj.{0}
abbrev HN:=@Array.getElem?_setIfInBounds_ne.{0}
abbrev Dd:=@List.getElem?_cons_succ.{0}
abbrev Dc:=@List.getElem?_replicate.{0}
abbrev xR:=@Option.isSome_some.{0}
abbrev tE:=@Option.pure_def.{0}
abbrev xQ:=@List.set_cons_succ.{0}
abbrev xP:=@List.length_mapIdx.{0,0}
abbrev Db:=@List.drop_of_length_le.{0}
abbrev xO:=@List.size_toArray.{0}
abbrev xN:=@Bool.not_eq_true'
abbrev qV:=@Nat.le_of_eq
abbrev qU:=@List.map_set.{0,0}
abbrev Da:=@List.length_mergeSort.{0}
abbrev xM:=@Option.getD_none.{0}
abbrev C9:=@List.mem_append_left.{0}
abbrev xL:=@List.map_flatten.{0,0}
abbrev HM:=@Nat.lt_of_mul_lt_mul_right
abbrev qT:=@Nat.le_succ
abbrev qS:=@Nat.add_mul
abbrev C8:=@List.getElem?_range
abbrev C7:=@List.replicate_succ.{0}
abbrev C6:=@List.flatMap_append.{0,0}
abbrev C5:=@List.map_congr_left.{0,0}
abbrev xK:=@Option.some.inj.{0}
abbrev tD:=@List.map_map.{0,0,0}
abbrev tC:=@Nat.sub_self
abbrev HL:=@List.eq_of_mem_replicate.{0}
abbrev qR:=@Array.ext'.{0}
abbrev HJ:=@Int.dvd_of_tmod_eq_zero
abbrev C4:=@Nat.lt_trichotomy
abbrev C3:=@List.getElem_take.{0}
abbrev xJ:=@List.sum_cons.{0}
abbrev xI:=@Bool.and_true
abbrev xH:=@Bool.true_and
abbrev C2:=@List.range'_succ
abbrev C1:=@List.filter_cons.{0}
abbrev C0:=@Nat.min_eq_right
abbrev CZ:=@Nat.le_max_right
abbrev CY:=@Nat.lt_of_not_le
abbrev CX:=@List.not_mem_nil.{0}
abbrev HI:=@Bool.and_eq_false_iff
abbrev HH:=@Nat.le_of_ble_eq_true
abbrev HG:=@List.set_append_right.{0}
abbrev HF:=@List.range_eq_range'
abbrev HE:=@List.getElem?_set_ne.{0}
abbrev HD:=@Bool.or_eq_false_iff
abbrev CW:=@Nat.le_max_left
abbrev HC:=@List.getElem_reverse.{0}
inductive IV where
 | bool (b:Bool)
 | int (k:IntKind) (n:Int)
 | str (s:List UInt8)
 | ptr (b o:Nat)
 | nilPtr
 | slice (b o len lb:Nat) (ex:Bool)
 | nilSlice
 | map (b:Nat)
 | nilMap
 | fn (f:FuncId) (first cap:List IV)
 | yield (l:Nat)
 | nilFunc
 | iface (t:TypeId) (v:IV)
 | nilIface
 | agg (cs:List IV)
 | tuple (cs:List IV)
 deriving Inhabited
def IV.undef:IV:=.tuple []
inductive Loc where
 | no
 | dead
 | at (c p ez z:Nat)
abbrev Mu:=Nat->Loc
def LocR(μ:Mu)(b o:Nat)(a:Addr):Prop:=match μ b with|.at c p _ _=>a=⟨c,p+o,none⟩|.dead=>True|.no=>False
def SlR(μ:Mu)(b o:Nat)(ex:Bool)(cap:Nat)(a:Addr):Prop:=match μ b with|.at c p ez z=>(cap=0\/a=⟨c,p+o,none⟩)/\(ex=false->ez≠0->o+cap*ez<=z)|.dead=>True|.no=>False
def abM(n lb:Nat)(ex:Bool)(cap:Nat):Prop:=n<=lb/\lb<=cap/\cap<2^63/\(ex=true->cap=lb)
mutual
def VR(μ:Mu):IV->Value->Prop|.bool b,v=>v=.bool b|.int k n,v=>v=.int k n|.str l,v=>v=.string ⟨⟨l⟩⟩|.ptr b o,v=>∃a:Addr,v=.pointer (some a)/\LocR μ b o a|.nilPtr,v=>v=.pointer none|.slice b o n lb ex,v=>∃(a:Addr) (cap:Nat),v=.slice (some a) n cap/\abM n lb ex cap/\SlR μ b o ex cap a|.nilSlice,v=>v=.slice none 0 0|.map b,v=>∃r:Nat,v=.map (some r)/\LocR μ b 0 ⟨r,0,none⟩|.nilMap,v=>v=.map none|.fn f l r,v=>∃q u:Array Value,v=.func (.func f) q u/\VRs μ l q.toList/\VRs μ r u.toList|.yield b,v=>∃r:Nat,v=.func (.yield r) #[] #[]/\LocR μ b 0 ⟨r,0,none⟩|.nilFunc,v=>v=.nilFunc|.iface t x,v=>∃A:Value,v=.iface t A/\VR μ x A|.nilIface,v=>v=.nilIface|.agg l,v=>∃q:Array Value,v=.agg q/\VRs μ l q.toList|.tuple l,v=>∃q:Array Value,v=.tuple q/\VRs μ l q.toList
def VRs(μ:Mu):List IV->List Value->Prop|[],l=>l=[]|x::xs,l=>∃(y:Value) (ys:List Value),l=y::ys/\VR μ x y/\VRs μ xs ys
end
def Mu.le(μ q:Mu):Prop:=∀b,μ b≠.no->q b=μ b\/q b=.dead
theorem Mu.le_refl(μ:Mu):μ.le μ:=λ_ _=>.inl rfl
theorem Mu.le_trans{a b c:Mu}(h:a.le b)(k:b.le c):a.le c:=λx hx=>by rcases h x hx with e|e;{rw[<-e];exact k x (by rw[e];exact hx)};{rcases k x (by rw[e];exactλh=>by cases h) with q|q<;>grind}
theorem LocR.mono{μ q:Mu}{b o:Nat}{a:Addr}(u:μ.le q)(h:LocR μ b o a):LocR q b o a:=by unfold LocR at *;have hn:μ b≠.no:=by{intro e;rw[e] at h;exact h};rcases u b hn with e|e<;>grind
theorem SlR.mono{μ q:Mu}{b o cap:Nat}{ex:Bool}{a:Addr}(u:μ.le q)(h:SlR μ b o ex cap a):SlR q b o ex cap a:=by unfold SlR at *;have hn:μ b≠.no:=by{intro e;rw[e] at h;exact h};rcases u b hn with e|e<;>grind
mutual
theorem VR.mono{μ A:Mu}(q:μ.le A):∀(x:IV)(v:Value),VR μ x v->VR A x v|.bool _,_,h=>h|.int _ _,_,h=>h|.str _,_,h=>h|.ptr _ _,_,h=>by obtain⟨a,e,k⟩:=h;exact⟨a,e,k.mono q⟩|.nilPtr,_,h=>h|.slice _ _ _ _ _,_,h=>by obtain⟨a,c,e,k,l⟩:=h;exact⟨a,c,e,k,l.mono q⟩|.nilSlice,_,h=>h|.map _,_,h=>by obtain⟨a,e,k⟩:=h;exact⟨a,e,k.mono q⟩|.nilMap,_,h=>h|.fn _ l r,_,h=>by obtain⟨u,I,e,E,F⟩:=h;exact⟨u,I,e,VRs.mono q l _ E,VRs.mono q r _ F⟩|.yield _,_,h=>by obtain⟨a,e,k⟩:=h;exact⟨a,e,k.mono q⟩|.nilFunc,_,h=>h|.iface _ x,_,h=>by obtain⟨J,e,k⟩:=h;exact⟨J,e,VR.mono q x _ k⟩|.nilIface,_,h=>h|.agg l,_,h=>by obtain⟨u,e,k⟩:=h;exact⟨u,e,VRs.mono q l _ k⟩|.tuple l,_,h=>by obtain⟨u,e,k⟩:=h;exact⟨u,e,VRs.mono q l _ k⟩
theorem VRs.mono{μ q:Mu}(u:μ.le q):∀(x:List IV)(v:List Value),VRs μ x v->VRs q x v|[],_,h=>h|x::xs,_,h=>by obtain⟨y,ys,e,k,ks⟩:=h;exact⟨y,ys,e,VR.mono u x _ k,VRs.mono u xs _ ks⟩
end
section
variable {μ:Mu}
theorem VRs.length:∀{l:List IV}{q:List Value},VRs μ l q->l.length=q.length|[],_,h=>by cases h;rfl|_::_,_,h=>by obtain⟨y,ys,rfl,_,k⟩:=h;simp[VRs.length k]
theorem VRs.get:∀{l:List IV}{q:List Value}{i:Nat}{x:IV},VRs μ l q->l[i]? =some x->∃y,q[i]? =some y/\VR μ x y|[],_,_,_,_,h=>by simp at h|a::u,_,0,x,h,e=>by obtain⟨y,ys,rfl,k,_⟩:=h;simp at e;subst e;exact⟨y,by simp,k⟩|a::u,_,i+1,x,h,e=>by obtain⟨y,ys,rfl,_,k⟩:=h;obtain⟨z,E,A⟩:=VRs.get k (i:=i) (by simpa using e);exact⟨z,by simpa using E,A⟩
theorem VRs.append:∀{l:List IV}{q:List Value}{r:List IV}{u:List Value},VRs μ l q->VRs μ r u->VRs μ (l++r) (q++u)|[],_,_,_,h,k=>by cases h;simpa using k|_::_,_,_,_,h,k=>by obtain⟨y,ys,rfl,a,b⟩:=h;exact⟨y,_,rfl,a,b.append k⟩
theorem VRs.take:∀{l:List IV}{q:List Value}(n:Nat),VRs μ l q->VRs μ (l.take n) (q.take n)|[],_,n,h=>by cases h;simp[VRs]|_::_,_,0,_=>by simp[VRs]|_::_,_,n+1,h=>by obtain⟨y,ys,rfl,a,b⟩:=h;exact⟨y,_,rfl,a,b.take n⟩
theorem VRs.drop:∀{l:List IV}{q:List Value}(n:Nat),VRs μ l q->VRs μ (l.drop n) (q.drop n)|[],_,n,h=>by cases h;simp[VRs]|_::_,_,0,h=>h|_::_,_,n+1,h=>by obtain⟨y,ys,rfl,a,b⟩:=h;exact b.drop n
theorem VRs.set:∀{l:List IV}{q:List Value}(i:Nat){x:IV}{y:Value},VRs μ l q->VR μ x y->VRs μ (l.set i x) (q.set i y)|[],_,_,_,_,h,_=>by cases h;simp[VRs]|_::_,_,0,_,y,h,k=>by obtain⟨z,ys,rfl,a,b⟩:=h;exact⟨y,ys,rfl,k,b⟩|_::_,_,i+1,_,_,h,k=>by obtain⟨z,ys,rfl,a,b⟩:=h;exact⟨z,_,rfl,a,b.set i k⟩
theorem zF:∀{l:List IV}{q:List Value},l.length=q.length->(∀(i:Nat)(x:IV)(y:Value),l[i]? =some x->q[i]? =some y->VR μ x y)->VRs μ l q|[],[],_,_=>rfl|[],_::_,h,_=>by simp at h|_::_,[],h,_=>by simp at h|x::xs,y::ys,h,k=>⟨y,ys,rfl,k 0 x y rfl rfl,zF (by simpa using h) λi a b u A=>k (i+1) a b (by simpa using u) (by simpa using A)⟩
end
inductive Tr(α:Type)where
 | leaf
 | node (v:Option α) (l r:Tr α)
def Tr.get{α:Type}:Tr α->Nat->Option α|.leaf,_=>none|.node v l r,i=>match i with|0=>v|j+1=>if j%2=0 then l.get (j / 2) else r.get (j / 2)
def Tr.setF{α:Type}:Nat->Tr α->Nat->α->Tr α|0,t,_,_=>t|f+1,t,i,x=>match t,i with|.leaf,0=>.node (some x) .leaf .leaf|.node _ l r,0=>.node (some x) l r|.leaf,j+1=>if j%2=0 then .node none (Tr.setF f .leaf (j / 2) x) .leaf else .node none .leaf (Tr.setF f .leaf (j / 2) x)|.node v l r,j+1=>if j%2=0 then .node v (Tr.setF f l (j / 2) x) r else .node v l (Tr.setF f r (j / 2) x)
def Tr.set{α:Type}(t:Tr α)(i:Nat)(x:α):Tr α:=Tr.setF (i+1) t i x
theorem pD{α:Type}(i:Nat):(Tr.leaf:Tr α).get i=none:=by unfold Tr.get;rfl
theorem Gy{α:Type}:∀(f:Nat)(t:Tr α)(i j:Nat)(x:α),i<f->(Tr.setF f t i x).get j=if i=j then some x else t.get j:=by intro f;induction f with|zero=>intro t i j x h;omega|succ f E=>intro t i j x h;cases t with|leaf=>(cases i with|zero=>cases j<;>simp[Tr.setF,Tr.get]|succ i=>have A:i / 2<f:=by{omega};by_cases q:i%2=0;{cases j with|zero=>simp[Tr.setF,q,Tr.get]|succ j=>by_cases u:j%2=0;{simp only[Tr.setF,q,if_true,Tr.get,u,E _ _ _ _ A];grind};{simp only[Tr.setF,q,if_true,Tr.get,u,if_false];grind}};{cases j with|zero=>simp[Tr.setF,q,Tr.get]|succ j=>by_cases u:j%2=0;{simp only[Tr.setF,q,if_false,Tr.get,u,if_true];grind};{simp only[Tr.setF,q,if_false,Tr.get,u,E _ _ _ _ A];grind}})|node v l r=>cases i with|zero=>cases j<;>simp[Tr.setF,Tr.get]|succ i=>have A:i / 2<f:=by{omega};by_cases q:i%2=0;{cases j with|zero=>simp[Tr.setF,q,Tr.get]|succ j=>by_cases u:j%2=0;{simp only[Tr.setF,q,if_true,Tr.get,u,E _ _ _ _ A];grind};{simp only[Tr.setF,q,if_true,Tr.get,u,if_false];grind}};{cases j with|zero=>simp[Tr.setF,q,Tr.get]|succ j=>by_cases u:j%2=0;{simp only[Tr.setF,q,if_false,Tr.get,u,if_true];grind};{simp only[Tr.setF,q,if_false,Tr.get,u,E _ _ _ _ A];grind}}
theorem rB{α:Type}(t:Tr α)(i j:Nat)(x:α):(t.set i x).get j=if i=j then some x else t.get j:=Gy _ _ _ _ _ (Nat.lt_succ_self i)
inductive IA where
 | tmp (t:Nat)
 | val (v:IV)
 | glob (g:Nat)
 deriving Inhabited
inductive Pk where
 | bool | int | str
 deriving DecidableEq,Inhabited
inductive Nk where
 | ptr | sl | map | fn
 deriving DecidableEq,Inhabited
inductive Kd where
 | move
 | pick
 | alloc (e ez:Nat) (zs:List IV)
 | box (e ez:Nat)
 | build (zs:List IV) (offs:List (Nat×Nat))
 | buildSl (e ez n:Nat) (zs:List IV) (offs:List (Nat×Nat))
 | load (n:Option Nat)
 | store (n:Nat)
 | nilCheck
 | bin (op:BinOp)
 | eqBool (neg:Bool)
 | eqFlat (neg:Bool) (ds:List Pk)
 | eqNil (neg:Bool) (k:Nk)
 | un (op:UnOp)
 | conv (k:IntKind)
 | iface (t:TypeId)
 | mkfn (f:FuncId) (k:Nat)
 | mkmap
 | mksl (e ez bytes:Nat) (zs:List IV)
 | slc (size:Nat) (lo hi mx:Bool)
 | slcStr (lo hi:Bool)
 | slcArr (e n size:Nat) (lo hi mx:Bool)
 | fieldAddr (off:Nat)
 | field (off:Nat) (n:Option Nat)
 | idxSl (size:Nat)
 | idxArrAddr (len size:Nat)
 | idxArr (len size:Nat) (n:Option Nat)
 | idxStr
 | lookup (t:TypeId) (ky:Bool×List Pk) (zero:IV) (ok:Bool)
 | mapUpd (ky:Bool×List Pk)
 | mapEntry (t:TypeId) (ky:Bool×List Pk) (zero:IV)
 | entryStore
 | delete (ky:Bool×List Pk)
 | lenSl
 | lenStr
 | lenArr (n:Nat)
 | lenMap
 | cap
 | append (e size bytes:Nat)
 | copy (size:Nat)
 | min
 | max
 | extract (i:Nat)
 | clear (zs:List IV)
 | appendZ (e size bytes:Nat) (zs:List IV)
 | strOf
 | rangeM
 | nextM
 | entryM
 | call
 deriving Inhabited
structure IOp where
 dst:Option Nat
 kd:Kd
 args:List IA
 guard:Option (Nat×Bool)
 amb:Bool
 idx:Nat
 mask:Nat
 deriving Inhabited
inductive Sg where
 | seq | free
 deriving DecidableEq,Inhabited
inductive IC where
 | skip
 | ops (l:List (Sg×List IOp))
 | seq (a b:IC)
 | cond (c:IA) (a b:IC)
 | block (id:Nat) (c:IC)
 | scope (c:IC)
 | loop (c:IC)
 | rfn (f:IA) (ps:List Nat) (asg body:IC)
 | exit (id:Nat)
 | ret
 deriving Inhabited
inductive Jmp where
 | exit (id:Nat)
 | ret
inductive IObj where
 | cells (ro:Bool) (e ez:Nat) (cs:List IV)
 | map (es:List (IV×IV×Nat)) (clock:Nat)
 | loop (st:LoopState) (pend:Option Jmp) (tm:List IV) (ps:List Nat) (asg body:IC) (df:Nat)
 | deferred
 | taken
 | iter (m:Option Nat) (since:Nat) (seen:List Nat) (last:Nat)
 | dead
structure Heap where
 n:Nat
 t:Tr IObj
def Heap.get(H:Heap)(b:Nat):Option IObj:=H.t.get b
def Heap.put(H:Heap)(b:Nat)(o:IObj):Heap:=⟨H.n,H.t.set b o⟩
def Heap.new(H:Heap)(o:IObj):Heap:=⟨H.n+1,H.t.set H.n o⟩
theorem aa(H:Heap)(b b':Nat)(o:IObj):(H.put b o).get b'=if b=b' then some o else H.get b':=rB _ _ _ _
theorem aj(H:Heap)(b':Nat)(o:IObj):(H.new o).get b'=if H.n=b' then some o else H.get b':=rB _ _ _ _
theorem af(H:Heap)(b:Nat)(o:IObj):(H.put b o).n=H.n:=rfl
theorem ac(H:Heap)(o:IObj):(H.new o).n=H.n+1:=rfl
def IV.cells:IV->List IV|.agg l=>l|v=>[v]
def aw:List IV->Nat->List IV->List IV|[],_,_=>[]|c::cs,0,[]=>c::cs|_::cs,0,v::vs=>v::aw cs 0 vs|c::cs,o+1,vs=>c::aw cs o vs
def Heap.read(H:Heap)(b o n:Nat):Option (List IV):=match H.get b with|some (.cells _ _ _ cs)=>if o+n<=cs.length then some ((cs.drop o).take n) else none|_=>none
def IV.one:IV->Bool|.agg _|.tuple _=>false|_=>true
def Heap.write(H:Heap)(lo b o:Nat)(vs:List IV):Option Heap:=match H.get b with|some (.cells false e ez cs)=>if lo<=b/\o+vs.length<=cs.length/\vs.all IV.one then some (H.put b (.cells false e ez (aw cs o vs))) else none|_=>none
def ak(n:Option Nat)(l:List IV):Option IV:=match n,l with|some _,l=>some (.agg l)|none,[v]=>some v|none,_=>none
def ca:List (Nat×Nat)->List IV->List IV->Option (List IV)|[],[],cs=>some cs|(off,size)::q,v::vs,cs=>if v.cells.length=size/\off+size<=cs.length then ca q vs (aw cs off v.cells) else none|_,_,_=>none
def LJ:Pk->IV->IV->Option Bool|.bool,.bool a,.bool b=>some (a==b)|.int,.int k a,.int q b=>if k=q then some (a==b) else none|.str,.str a,.str b=>some (a==b)|_,_,_=>none
def jE:List Pk->List IV->List IV->Option Bool|[],[],[]=>some true|d::ds,x::xs,y::ys=>(match LJ d x y,jE ds xs ys with|some a,some b=>some (a&&b)|_,_=>none)|_,_,_=>none
def RC:Pk->IV->Bool|.bool,.bool _=>true|.int,.int _ _=>true|.str,.str _=>true|_,_=>false
def sx:List Pk->List IV->Bool|[],[]=>true|d::ds,x::xs=>RC d x&&sx ds xs|_,_=>false
def pw(op:BinOp):IV->IV->Option IV|.int k a,.int q b=>(match op with|.shl=>if b<0 then none else some (.int k (k.wrap (a*2^(Min.min b.toNat k.bits))))|.shr=>if b<0 then none else some (.int k (a.fdiv (2^(Min.min b.toNat k.bits))))|_=>if k=q then match op with|.add=>some (.int k (k.wrap (a+b)))|.sub=>some (.int k (k.wrap (a - b)))|.mul=>some (.int k (k.wrap (a*b)))|.quo=>if b=0 then none else some (.int k (k.wrap (a.tdiv b)))|.rem=>if b=0 then none else some (.int k (a.tmod b))|.and=>some (.int k (k.wrap (BitVec.ofInt k.bits a&&& BitVec.ofInt k.bits b).toNat))|.or=>some (.int k (k.wrap (BitVec.ofInt k.bits a||| BitVec.ofInt k.bits b).toNat))|.xor=>some (.int k (k.wrap (BitVec.ofInt k.bits a^^^BitVec.ofInt k.bits b).toNat))|.andNot=>some (.int k (k.wrap (BitVec.ofInt k.bits a&&& ~~~(BitVec.ofInt k.bits b)).toNat))|.eql=>some (.bool (a==b))|.neq=>some (.bool (a !=b))|.lss=>some (.bool (decide (a<b)))|.leq=>some (.bool (decide (a<=b)))|.gtr=>some (.bool (decide (a>b)))|.geq=>some (.bool (decide (a>=b)))|_=>none else none)|.str a,.str b=>(match op with|.add=>if a.length+b.length<2^40 then some (.str (a++b)) else none|.eql=>some (.bool (a==b))|.neq=>some (.bool !(a==b))|.lss=>some (.bool (Op.bytesLess a b))|.leq=>some (.bool (Op.bytesLess a b||a==b))|.gtr=>some (.bool !(Op.bytesLess a b||a==b))|.geq=>some (.bool !(Op.bytesLess a b))|_=>none)|_,_=>none
def Uh(op:UnOp):IV->Option IV|.int k n=>(match op with|.neg=>some (.int k (k.wrap (0 - n)))|.xor=>some (.int k (k.wrap (BitVec.ofInt k.bits (if k.signed then -1 else k.max)^^^BitVec.ofInt k.bits n).toNat))|_=>none)|.bool b=>(match op with|.not=>some (.bool !b)|_=>none)|_=>none
def lg:Nk->IV->Option Bool|.ptr,.nilPtr|.sl,.nilSlice|.map,.nilMap|.fn,.nilFunc=>some true|.ptr,.ptr _ _|.sl,.slice _ _ _ _ _|.map,.map _|.fn,.fn _ _ _=>some false|_,_=>none
def ci(y:Nat):IV->Option Nat|.int _ n=>if 0<=n/\n<=(y:Int) then some n.toNat else none|_=>none
def bx(len q:Nat)(lo u mx:Bool)(l:List IV):Option (Nat×Nat×Option Nat):=match lo,u,mx,l with|false,false,false,[]=>some (0,len,none)|true,false,false,[a]=>(ci len a).map λa=>(a,len,none)|false,true,false,[b]=>(ci q b).map λb=>(0,b,none)|true,true,false,[a,b]=>(ci q b).bind λb=>(ci b a).map λa=>(a,b,none)|false,true,true,[b,c]=>(ci q c).bind λc=>(ci c b).map λb=>(0,b,some c)|true,true,true,[a,b,c]=>(ci q c).bind λc=>(ci c b).bind λb=>(ci b a).map λa=>(a,b,some c)|_,_,_,_=>none
def bi(q:Bool):IV->Bool|.agg _=>q|_=>!q
def cG(q:Bool×List Pk)(k:IV):Bool:=bi q.1 k&&sx q.2 k.cells
def fM(q:Bool×List Pk)(k u:IV):Option Bool:=if bi q.1 k&&bi q.1 u then jE q.2 k.cells u.cells else none
def aK(q:Bool×List Pk)(k:IV):List (IV×IV×Nat)->Nat->Option (Option (Nat×IV))|[],_=>some none|(A,v,_)::u,i=>match fM q k A with|some true=>some (some (i,v))|some false=>aK q k u (i+1)|none=>none
def hU(H:Heap)(size n:Nat):IV->Option (List IV)|.nilSlice=>if n=0 then some [] else none|.slice b o _ _ _=>if n=0 then some [] else H.read b o (n*size)|.str s=>if n<=s.length/\size=1 then some ((s.take n).map λc=>.int .u8 c.toNat) else none|_=>none
def lM:IV->Option Nat|.nilSlice=>some 0|.slice _ _ n _ _=>some n|.str s=>some s.length|_=>none
def ma:Nat->List IV->List IV|0,_=>[]|n+1,zs=>zs++ma n zs
def pt:List IV->Option (List UInt8)|[]=>some []|.int .u8 n::l=>(pt l).map (UInt8.ofNat n.toNat::·)|_=>none
def cw(e size bytes:Nat)(s:IV)(xs:List IV)(n lo:Nat)(H:Heap):Option (IV×Heap):=if xs.all IV.one=false then none else match s with|.nilSlice=>if n=0 then some (.nilSlice,H) else if n*(bytes+1)<=2^40 then some (.slice H.n 0 n n false,H.new (.cells false e size xs)) else none|.slice b o len lb ex=>if n=0 then some (.slice b o len lb ex,H) else if len+n<=lb then(H.write lo b (o+len*size) xs).map λH'=>(.slice b o (len+n) lb ex,H') else if (len+n)*(bytes+1)<=2^40 then if ex then(hU H size len s).map λold=>(.slice H.n 0 (len+n) (len+n) false,H.new (.cells false e size (old++xs))) else match H.get b with|some (.cells false q ez cs)=>if q=e/\ez=size/\0<size/\o=0/\lo<=b/\len*size<=cs.length then some (.slice H.n 0 (len+n) (len+n) false,(H.put b .dead).new (.cells false e size (cs.take (len*size)++xs))) else none|_=>none else none|_=>none
def eG{α:Type}:List α->Nat->List α|[],_=>[]|_::l,0=>l|x::l,i+1=>x::eG l i
def ew(key val:IV):List (IV×IV×Nat)->Nat->List (IV×IV×Nat)|[],_=>[]|(_,_,s)::l,0=>(key,val,s)::l|x::l,i+1=>x::ew key val l i
def eC(val:IV)(born:Int):List (IV×IV×Nat)->Option (List (IV×IV×Nat))|[]=>none|(k,v,s)::l=>if (s:Int)=born then some ((k,val,s)::l) else(eC val born l).map ((k,v,s)::·)
def aD(H:Heap)(b:Nat):Option (List (IV×IV×Nat)×Nat):=match H.get b with|some (.map q c)=>some (q,c)|_=>none
def stepM(H:Heap)(r:Nat):Option (IV×Option IObj):=match H.get r with|some (.iter none _ _ _)=>some (.tuple [.bool false],none)|some (.iter (some b) q seen A)=>(match aD H b with|none=>none|some (E,u)=>if seen≠[]/\E≠[]/\(E.all λe=>decide (A<=e.2.2))=true then none else match E.filter λe=>!seen.contains e.2.2 with|[]=>some (.tuple [.bool false],none)|[(k,v,s)]=>if s<q then some (.tuple [.bool true,k,v],some (.iter (some b) q (seen++[s]) u)) else none|_=>none)|_=>none
def yU(H:Heap)(r:Nat):Option IV:=match H.get r with|some (.iter (some b) _ seen u)=>(match seen.getLast? with|none=>none|some s=>match aD H b with|none=>none|some (A,q)=>if q=u then(A.find? λe=>e.2.2==s).map λe=>.tuple [e.1,e.2.1] else none)|_=>none
def It(H:Heap)(b size:Nat):Bool:=match H.get b with|some (.cells q _ ez _)=>q||ez==size|_=>false
def m8:IV->Option Nat|.nilSlice=>some 0|.slice _ _ n _ _=>some n|_=>none
def ev1(kd:Kd)(xs:List IV)(lo:Nat)(H:Heap):Option (IV×Heap):=match kd with|.move=>(match xs with|[x]=>some (x,H)|_=>none)|.pick=>(match xs with|[.bool c,a,b]=>some (if c then a else b,H)|_=>none)|.alloc e ez zs=>(match xs with|[]=>some (.ptr H.n 0,H.new (.cells false e ez zs))|_=>none)|.box e ez=>(match xs with|[x]=>some (.ptr H.n 0,H.new (.cells false e ez x.cells))|_=>none)|.build zs F=>(match xs with|xs=>(ca F xs zs).map λcs=>(.agg cs,H))|.buildSl e ez n zs F=>(match xs with|xs=>(ca F xs zs).map λcs=>(.slice H.n 0 n n true,H.new (.cells false e ez cs)))|.load n=>(match xs with|[.ptr b o]=>(H.read b o (n.getD 1)).bind λcs=>(ak n cs).map λv=>(v,H)|_=>none)|.store n=>(match xs with|[.ptr b o,x]=>if x.cells.length=n then(H.write lo b o x.cells).map λH'=>(IV.undef,H') else none|_=>none)|.nilCheck=>(match xs with|[x]=>(match x with|.nilPtr|.nilIface|.nilFunc|.yield _=>none|x=>some (x,H))|_=>none)|.bin op=>(match xs with|[x,y]=>(pw op x y).map (·,H)|_=>none)|.eqBool neg=>(match xs with|[.bool a,.bool b]=>some (.bool (neg !=(a==b)),H)|_=>none)|.eqFlat neg ds=>(match xs with|[.agg x,.agg y]=>(jE ds x y).map λr=>(.bool (neg !=r),H)|_=>none)|.eqNil neg Q=>(match xs with|[x,y]=>(match lg Q x,lg Q y with|some true,some r=>some (.bool (neg !=r),H)|some r,some true=>some (.bool (neg !=r),H)|_,_=>none)|_=>none)|.un op=>(match xs with|[x]=>(Uh op x).map (·,H)|_=>none)|.conv k=>(match xs with|[.int _ n]=>some (.int k (k.wrap n),H)|_=>none)|.iface t=>(match xs with|[x]=>some (.iface t x,H)|_=>none)|.mkfn f k=>(match xs with|xs=>some (.fn f (xs.take k) (xs.drop k),H))|.mkmap=>(match xs with|[]=>some (.map H.n,H.new (.map [] 0))|[.int _ _]=>some (.map H.n,H.new (.map [] 0))|_=>none)|.rangeM=>(match xs with|[.nilMap]=>some (.ptr H.n 0,H.new (.iter none 0 [] 0))|[.map b]=>(aD H b).map λp=>(.ptr H.n 0,H.new (.iter (some b) p.2 [] p.2))|_=>none)|.entryM=>(match xs with|[.ptr r 0]=>(yU H r).map (·,H)|_=>none)|.nextM=>(match xs with|[.ptr r 0]=>if lo<=r then(stepM H r).map λp=>(p.1,match p.2 with|none=>H|some o=>H.put r o) else none|_=>none)|.mksl e ez bytes zs=>(match xs with|[.int _ l,.int _ c]=>if 0<=l/\l<=c/\c*(bytes+1)<=2^40 then some (.slice H.n 0 l.toNat c.toNat true,H.new (.cells false e ez (ma c.toNat zs))) else none|_=>none)|.slc size lo J mx=>(match xs with|s::l=>(match s with|.nilSlice=>(bx 0 0 lo J mx l).bind λ(a,b,_)=>if a=0/\b=0 then some (.nilSlice,H) else none|.slice b o len lb ex=>if ex||It H b size then (bx len lb lo J mx l).map λ(a,h,m)=>match m with|some m=>(.slice b (o+a*size) (h - a) (m - a) true,H)|none=>(.slice b (o+a*size) (h - a) (lb - a) ex,H) else none|_=>none)|_=>none)|.slcStr lo J=>(match xs with|.str s::l=>(bx s.length s.length lo J false l).map λ(a,h,_)=>(.str ((s.drop a).take (h - a)),H)|_=>none)|.slcArr _ n size lo J mx=>(match xs with|.ptr b o::l=>(bx n n lo J mx l).bind λ(a,h,m)=>if 0<n/\n<=2^40 then some (.slice b (o+a*size) (h - a) (m.getD n - a) true,H) else none|_=>none)|.fieldAddr off=>(match xs with|[.ptr b o]=>some (.ptr b (o+off),H)|_=>none)|.field off n=>(match xs with|[.agg cs]=>if off+n.getD 1<=cs.length then(ak n ((cs.drop off).take (n.getD 1))).map λv=>(v,H) else none|_=>none)|.idxSl size=>(match xs with|[.slice b o len _ _,.int _ i]=>if 0<=i/\i<(len:Int) then some (.ptr b (o+i.toNat*size),H) else none|_=>none)|.idxArrAddr len size=>(match xs with|[.ptr b o,.int _ i]=>if 0<=i/\i<(len:Int) then some (.ptr b (o+i.toNat*size),H) else none|_=>none)|.idxArr len size n=>(match xs with|[.agg cs,.int _ i]=>if 0<=i/\i<(len:Int)/\i.toNat*size+n.getD 1<=cs.length then(ak n ((cs.drop (i.toNat*size)).take (n.getD 1))).map λv=>(v,H) else none|_=>none)|.idxStr=>(match xs with|[.str s,.int _ i]=>if 0<=i then(s[i.toNat]?).map λc=>(.int .u8 c.toNat,H) else none|_=>none)|.lookup _ E A ok=>(match xs with|[m,k]=>(match (match m with|.nilMap=>some []|.map b=>(aD H b).map (·.1)|_=>none) with|none=>none|some u=>if cG E k then match aK E k u 0 with|none=>none|some r=>let (v,I):IV×Bool:=match r with|some (_,v)=>(v,true)|none=>(A,false);some (if ok then .tuple [v,.bool I] else v,H) else none)|_=>none)|.mapUpd E=>(match xs with|[.map b,k,v]=>(match aD H b with|none=>none|some (u,q)=>if lo<=b/\cG E k then match aK E k u 0 with|none=>none|some (some (i,_))=>some (IV.undef,H.put b (.map (ew k v u i) q))|some none=>some (IV.undef,H.put b (.map (u++[(k,v,q)]) (q+1))) else none)|_=>none)|.mapEntry _ E A=>(match xs with|[.map b,k]=>(match aD H b with|none=>none|some (u,q)=>if lo<=b/\cG E k then match aK E k u 0 with|none=>none|some (some (i,v))=>(u[i]?).map λe=>(.tuple [v,.int .i64 e.2.2],H.put b (.map (ew k v u i) q))|some none=>some (.tuple [A,.int .i64 q],H.put b (.map (u++[(k,A,q)]) (q+1))) else none)|_=>none)|.entryStore=>(match xs with|[.map b,.int _ s,v]=>(match aD H b with|none=>none|some (u,q)=>if lo<=b then(eC v s u).map λK=>(IV.undef,H.put b (.map K q)) else none)|_=>none)|.delete E=>(match xs with|[.map b,k]=>(match aD H b with|none=>none|some (u,q)=>if lo<=b/\cG E k then match aK E k u 0 with|none=>none|some (some (i,_))=>some (IV.undef,H.put b (.map (eG u i) q))|some none=>some (IV.undef,H) else none)|_=>none)|.lenSl=>(match xs with|[x]=>(match x with|.nilSlice=>some (.int .i64 0,H)|.slice _ _ n _ _=>some (.int .i64 n,H)|_=>none)|_=>none)|.lenStr=>(match xs with|[.str s]=>some (.int .i64 s.length,H)|_=>none)|.lenArr n=>(match xs with|[_]=>some (.int .i64 n,H)|_=>none)|.lenMap=>(match xs with|[m]=>(match m with|.nilMap=>some (.int .i64 0,H)|.map b=>(aD H b).map λ(u,_)=>(.int .i64 u.length,H)|_=>none)|_=>none)|.cap=>(match xs with|[x]=>(match x with|.nilSlice=>some (.int .i64 0,H)|.slice _ _ _ c true=>some (.int .i64 c,H)|_=>none)|_=>none)|.append e size bytes=>(match xs with|[s,x]=>(lM x).bind λn=>(hU H size n x).bind λxs=>cw e size bytes s xs n lo H|_=>none)|.copy size=>(match xs with|[d,s]=>(match m8 d,lM s with|some n,some m=>(let k:=Min.min m n;if k=0 then some (.int .i64 0,H) else(hU H size k s).bind λxs=>match d with|.slice b o _ _ _=>(H.write lo b o xs).map λH'=>(.int .i64 k,H')|_=>none)|_,_=>none)|_=>none)|.min=>(match xs with|[.int k a,.int O b]=>if k=O then some (.int k (if b<a then b else a),H) else none|_=>none)|.max=>(match xs with|[.int k a,.int O b]=>if k=O then some (.int k (if b>a then b else a),H) else none|_=>none)|.clear zs=>(match xs with|[x]=>(match x with|.nilSlice=>some (.tuple [],H)|.slice b o n _ _=>if n=0 then some (.tuple [],H) else(H.write lo b o (ma n zs)).map λH'=>(.tuple [],H')|_=>none)|_=>none)|.appendZ e size bytes zs=>(match xs with|[s,.int _ n]=>if 0<=n/\n*(bytes+1)<=2^40 then cw e size bytes s (ma n.toNat zs) n.toNat lo H else none|_=>none)|.strOf=>(match xs with|[x]=>(match x with|.nilSlice=>some (.str [],H)|.slice b o n _ _=>if n=0 then some (.str [],H) else(H.read b o n).bind λcs=>(pt cs).map λs=>(.str s,H)|_=>none)|_=>none)|.extract i=>(match xs with|[.tuple l]=>(l[i]?).map (·,H)|_=>none)|.call=>none
structure IFn where
 ntmps:Nat
 results:List (Nat×Option (Option Nat))
 body:IC
structure Fr where
 tm:List IV
 marks:List Nat
inductive Ex where
 | normal
 | jmp (j:Jmp)
inductive Fp where
 | none
 | rd (b o n:Nat)
 | wr (b o n:Nat)
 | wb (b:Nat)
 | lk (t:TypeId) (ky:Bool×List Pk) (b:Nat) (k:IV)
 | me (t:TypeId) (ky:Bool×List Pk) (b:Nat) (k:IV)
abbrev cO:=List (Nat×Fp)
inductive Task where
 | code (c:IC) (rd:Option Nat) (fr:Fr)
 | segs (l:List (Sg×List IOp)) (rd:Option Nat) (fr:Fr)
 | ops (free:Option cO) (l:List IOp) (rd:Option Nat) (fr:Fr)
 | call (f:FuncId) (args:List IV)
 | apply (f:IV) (args:List IV)
inductive Out where
 | ex (e:Ex) (fr:Fr)
 | val (v:IV)
structure Env where
 fns:FuncId→Option IFn
 sums:FuncId→Option (List IV→Nat→Heap→Option (IV×Heap))
 g0:Nat
def IA.eval(g0:Nat)(tm:List IV):IA->Option IV|.tmp t=>some (tm.getD t IV.undef)|.val v=>some v|.glob g=>if g<g0 then some (.ptr g 0) else none
def bu(g0:Nat)(tm:List IV):List IA->Option (List IV)|[]=>some []|x::xs=>match x.eval g0 tm with|none=>none|some v=>match bu g0 tm xs with|none=>none|some vs=>some (v::vs)
def Fr.put(fr:Fr)(dst:Option Nat)(v:IV):Fr:=match dst with|none=>fr|some d=>{fr with tm:=fr.tm.set d v}
def bX(tm:List IV):Option (Nat×Bool)->Bool|none=>true|some (t,q)=>match tm.getD t IV.undef with|.bool b=>b==q|_=>false
def iO(H:Heap)(tm:List IV):Nat×Option (Option Nat)->Option IV|(t,none)=>some (tm.getD t IV.undef)|(t,some n)=>match tm.getD t IV.undef with|.ptr b o=>(H.read b o (n.getD 1)).bind (ak n)|_=>none
def az(H:Heap)(tm:List IV):List (Nat×Option (Option Nat))->Option (List IV)|[]=>some []|r::rs=>match iO H tm r,az H tm rs with|some v,some vs=>some (v::vs)|_,_=>none
def fW:List IV->IV|[v]=>v|l=>.tuple l
def bR(lo:Nat):List Nat->Heap->Option Heap|[],H=>some H|r::rs,H=>match H.get r with|some .deferred=>if lo<=r then bR lo rs (H.put r .taken) else none|_=>none
def fE:List IV->List Nat->List IV->List IV|tm,p::q,v::vs=>fE (tm.set p v) q vs|tm,_,_=>tm
def cK:Nat->List IV|0=>[]|n+1=>IV.undef::cK n
def Kd.pure:Kd->Bool|.move|.pick|.build _ _|.nilCheck|.bin _|.eqBool _|.eqFlat _ _|.eqNil _ _|.un _|.conv _|.iface _|.mkfn _ _|.fieldAddr _|.field _ _|.idxSl _|.idxArrAddr _ _|.idxArr _ _ _|.idxStr|.lenSl|.lenStr|.lenArr _|.cap|.min|.max|.extract _=>true|_=>false
def Kd.isStore:Kd->Bool|.store _=>true|_=>false
def jn(b o n b' o' q:Nat):Bool:=b≠b'||o+n<=o'||o'+q<=o
def bp:Fp->Fp->Bool|.rd b o n,.wr b' o' q|.wr b o n,.rd b' o' q|.wr b o n,.wr b' o' q=>jn b o n b' o' q|.wb b,.rd b' _ _|.rd b' _ _,.wb b|.wb b,.wr b' _ _|.wr b' _ _,.wb b|.wb b,.wb b'|.wb b,.lk _ _ b' _|.lk _ _ b' _,.wb b|.wb b,.me _ _ b' _|.me _ _ b' _,.wb b=>b≠b'|.lk _ _ b _,.wr b' _ _|.wr b' _ _,.lk _ _ b _|.rd b _ _,.me _ _ b' _|.me _ _ b' _,.rd b _ _|.wr b _ _,.me _ _ b' _|.me _ _ b' _,.wr b _ _|.me _ _ b' _,.me _ _ b _=>b≠b'|.lk t A b k,.me E _ b' u|.me E _ b' u,.lk t A b k=>b≠b'||(t==E&&(match fM A k u with|some true=>true|_=>false))|_,_=>true
def fP(o:IOp)(xs:List IV):Option Fp:=match o.kd,xs with|.store n,[.ptr b a,_]=>some (.wr b a n)|.store _,_=>none|.load n,[.ptr b a]=>some (.rd b a (n.getD 1))|.load _,_=>none|.lookup t q _ false,[.map b,k]=>some (.lk t q b k)|.lookup _ _ _ false,[.nilMap,_]=>some .none|.lookup _ _ _ false,_=>none|.append _ _ _,.slice b _ _ _ _::_=>some (if o.amb then .wb b else .none)|.appendZ _ _ _ _,.slice b _ _ _ _::_=>some (if o.amb then .wb b else .none)|.mapEntry t q _,[.map b,k]=>some (if o.amb then .me t q b k else .none)|_,_=>some .none
def mu(q:cO)(o:IOp)(xs:List IV):Option cO:=match fP o xs with|none=>none|some f=>if q.all λp=>o.mask.testBit p.1||bp p.2 f then some ((o.idx,f)::q) else none
def dY(free:Option cO)(o:IOp)(lo:Nat)(H:Heap):Nat:=match free with|none=>lo|some _=>if o.amb then lo else H.n
def be(free:Option cO)(o:IOp)(xs:List IV):Option (Option cO):=match free with|none=>some none|some q=>(mu q o xs).map some
def iY(rd:Option Nat)(H:Heap):Option (Nat×List Nat×Heap):=match rd with|none=>some (H.n,[H.n],H.new .deferred)|some l=>match H.get l with|some (.loop _ _ _ _ _ _ q)=>some (q,[],H)|_=>none
def jm(l:Nat)(H:Heap):Option Heap:=match H.get l with|some (.loop .ready pend tm A q body u)=>some (H.put l (.loop .busy pend tm A q body u))|_=>none
def Ae(l:Nat)(e:Ex)(H:Heap):Option (Out×Heap):=match H.get l with|some (.loop _ _ tm A q body u)=>(match e with|.normal=>some (.val (.bool true),H.put l (.loop .ready none tm A q body u))|.jmp j=>some (.val (.bool false),H.put l (.loop .done (some j) tm A q body u)))|_=>none
def run(E:Env):Nat->Task->Nat->Heap->Option (Out×Heap)|0,_,_,_=>none|n+1,t,lo,H=>match t with|.code c rd fr=>(match c with|.skip=>some (.ex .normal fr,H)|.exit id=>some (.ex (.jmp (.exit id)) fr,H)|.ret=>some (.ex (.jmp .ret) fr,H)|.ops l=>run E n (.segs l rd fr) lo H|.seq a b=>(match run E n (.code a rd fr) lo H with|some (.ex .normal q,H')=>run E n (.code b rd q) lo H'|r=>r)|.cond c a b=>(match c.eval E.g0 fr.tm with|some (.bool true)=>run E n (.code a rd fr) lo H|some (.bool false)=>run E n (.code b rd fr) lo H|_=>none)|.block id c=>(match run E n (.code c rd fr) lo H with|some (.ex (.jmp (.exit K)) q,H')=>some (.ex (if K=id then .normal else .jmp (.exit K)) q,H')|r=>r)|.loop c=>(match run E n (.code c rd fr) lo H with|some (.ex .normal q,H')=>run E n (.code (.loop c) rd q) lo H'|r=>r)|.scope c=>run E n (.code c rd fr) lo H|.rfn f I u body=>match f.eval E.g0 fr.tm,iY rd H with|some g,some (T,marks,H1)=>(match run E n (.apply g [.yield H1.n]) lo (H1.new (.loop .ready none fr.tm I u body T)) with|some (.val _,O)=>(match O.get H1.n with|some (.loop st pend tm I u body T)=>(if st=.busy\/H1.n<lo then none else let Q:=O.put H1.n (.loop .exhausted pend tm I u body T);let q:Fr:={fr with marks:=marks++fr.marks};match pend with|none=>some (.ex .normal q,Q)|some j=>some (.ex (.jmp j) q,Q))|_=>none)|_=>none)|_,_=>none)|.segs l rd fr=>(match l with|[]=>some (.ex .normal fr,H)|(k,os)::l=>match run E n (.ops (match k with|.seq=>none|.free=>some []) os rd fr) lo H with|some (.ex .normal q,H')=>run E n (.segs l rd q) lo H'|_=>none)|.ops free l rd fr=>(match l with|[]=>some (.ex .normal fr,H)|o::l=>if bX fr.tm o.guard then match bu E.g0 fr.tm o.args with|none=>none|some xs=>match be free o xs with|none=>none|some A=>match o.kd with|.call=>(match xs with|f::xs=>(match run E n (.apply f xs) (dY free o lo H) H with|some (.val v,H')=>run E n (.ops A l rd (fr.put o.dst v)) lo H'|_=>none)|[]=>none)|kd=>match ev1 kd xs (dY free o lo H) H with|some (v,H')=>run E n (.ops A l rd (fr.put o.dst v)) lo H'|none=>none else run E n (.ops free l rd (fr.put o.dst IV.undef)) lo H)|.apply f args=>(match f with|.fn f F cap=>run E n (.call f (F++args++cap)) lo H|.yield l=>(match H.get l with|some (.loop _ _ tm I u body _)=>if args.length=I.length/\lo<=l then match run E n (.code u (some l) ⟨fE tm I args,[]⟩) lo H with|some (.ex .normal fr,H1)=>(match jm l H1 with|some O=>(match run E n (.code body (some l) fr) lo O with|some (.ex e _,Q)=>Ae l e Q|_=>none)|none=>none)|_=>none else none|_=>none)|_=>none)|.call f args=>match E.sums f with|some s=>(s args lo H).map λ(v,H')=>(.val v,H')|none=>match E.fns f with|none=>none|some fn=>match run E n (.code fn.body none ⟨args++cK (fn.ntmps - args.length),[]⟩) lo H with|some (.ex e fr,H')=>(match e with|.jmp (.exit _)=>none|_=>match bR lo fr.marks H' with|none=>none|some J=>(az J fr.tm fn.results).map λvs=>(.val (fW vs),J))|_=>none
def qJ:Nat->Value->Option IV|0,_=>none|n+1,v=>match v with|.bool b=>some (.bool b)|.int k n=>some (.int k n)|.string s=>some (.str s.data.toList)|.pointer none=>some .nilPtr|.slice none 0 0=>some .nilSlice|.map none=>some .nilMap|.nilFunc=>some .nilFunc|.nilIface=>some .nilIface|.agg cs=>(cs.toList.mapM (qJ n)).map .agg|_=>none
def nG:Operand->Option IA|.tmp t=>some (.tmp t)|.const v=>(qJ 3 v).map .val|.global g=>some (.glob g)|.func f=>some (.val (.fn f [] []))
section
variable (P:Program)
def aR(t:TypeId):Option Nat:=(P.info? t).map (·.size)
def jj(t:TypeId):Option Nat:=(P.info? t).map (·.bytes)
def rA(t:TypeId):Option (Option Nat):=match P.underlying t,aR P t with|some (.struct _),some n=>some (some n)|some (.array _ _),some n=>some (some n)|some (.struct _),none=>none|some (.array _ _),none=>none|some _,some _=>some none|_,_=>none
def iz(t:TypeId):Option IV:=((P.info? t).bind (·.zero)).bind (qJ 3)
def mX(av:TypeId->Option (List Pk)):List Field->Nat->Option (List Pk)|[],_=>some []|f::fs,off=>match av f.type with|some l=>if f.name≠"_"/\f.offset=off/\aR P f.type=some l.length then(mX av fs (off+l.length)).map (l++·) else none|none=>none
def cu:Nat->TypeId->Option (List Pk)|0,_=>none|d+1,t=>match P.underlying t with|some .bool=>some [.bool]|some (.int _)=>some [.int]|some .string=>some [.str]|some (.struct fs)=>if P.stoodInHeld t then none else mX P (cu d) fs.toList 0|some (.array n e)=>(match cu d e with|some l=>if aR P e=some l.length then some (List.replicate n l).flatten else none|none=>none)|_=>none
def mt(k:TypeId):Option (Bool×List Pk):=(cu P 8 k).map λds=>(match P.underlying k with|some (.struct _)|some (.array _ _)=>true|_=>false,ds)
def nh(l:List Operand):Option (List IA):=l.mapM nG
def lz(t:TypeId)(i:Nat):Option Field:=match P.underlying t with|some (.struct fs)=>fs[i]?|_=>none
def iZ(e:TypeId):Option (Nat×List IV):=match aR P e,iz P e with|some n,some z=>if z.cells.length=n then some (n,z.cells) else none|_,_=>none
def aP(b:Builtin)(ts:List TypeId):Option Kd:=match b,ts with|.len,[t]=>(match P.underlying t with|some (.slice _)=>some .lenSl|some .string=>some .lenStr|some (.array n _)=>some (.lenArr n)|some (.map _ _)=>some .lenMap|_=>none)|.cap,[t]=>(match P.underlying t with|some (.slice _)=>some .cap|_=>none)|.append,[t,u]=>(match P.underlying t,P.underlying u with|some (.slice e),some (.slice _)=>(iZ P e).bind λz=>(jj P e).map λb=>.append e z.1 b|some (.slice e),some .string=>(iZ P e).bind λz=>(jj P e).map λb=>.append e z.1 b|some (.slice e),some (.int _)=>(iZ P e).bind λz=>(jj P e).map λb=>.appendZ e z.1 b z.2|_,_=>none)|.copy,t::_=>(match P.underlying t with|some (.slice e)=>(aR P e).map .copy|_=>none)|.delete,t::_=>(match P.underlying t with|some (.map k _)=>(mt P k).map .delete|_=>none)|.clear,t::_=>(match P.underlying t with|some (.slice e)=>(iZ P e).map λz=>.clear z.2|_=>none)|.min,_=>some .min|.max,_=>some .max|_,_=>none
def Fj(op:BinOp)(t:TypeId):Option Kd:=match op with|.eql|.neq=>(let neg:=op matches .neq;match P.underlying t with|some .bool=>some (.eqBool neg)|some (.int _)|some .string=>some (.bin op)|some (.struct _)|some (.array _ _)=>if P.eqGuardType P.depth t then none else(cu P 8 t).map (.eqFlat neg)|some (.pointer _)=>some (.eqNil neg .ptr)|some (.slice _)=>some (.eqNil neg .sl)|some (.map _ _)=>some (.eqNil neg .map)|some (.func _ _ _)=>some (.eqNil neg .fn)|_=>none)|_=>some (.bin op)
def rc(place:Nat->Option (Nat×Nat))(q:Array (Nat×Operand)):Option (List (Nat×Nat)):=q.toList.mapM λp=>place p.1
def cp(op:Op):Option Kd:=match op with|.move _|.assign _=>some .move|.pick _ _ _=>some .pick|.alloc e=>(aR P e).bind λn=>(iz P e).map λz=>.alloc e n z.cells|.box e _=>(aR P e).map λn=>.box e n|.build t A=>(match P.underlying t with|some (.struct fs)=>if fs.all λf=>(aR P f.type).isSome then (rc (λi=>(fs[i]?).bind λf=>(aR P f.type).map λn=>(f.offset,n)) A).bind λq=>(iz P t).map λz=>.build z.cells q else none|some (.array _ e)=>(aR P e).bind λn=>(rc (λi=>some (i*n,n)) A).bind λq=>(iz P t).map λz=>.build z.cells q|_=>none)|.buildSlice t len A=>(match P.underlying t with|some (.slice e)=>(iZ P e).bind λz=>(rc (λi=>some (i*z.1,z.1)) A).bind λq=>if len*z.1<=2^24/\len<2^40 then some (.buildSl e z.1 len (ma len z.2) q) else none|_=>none)|.load t _=>(rA P t).map .load|.store t _ _=>(aR P t).map .store|.nilCheck _=>some .nilCheck|.binOp op t _ _ _=>Fj P op t|.unOp op _ _=>some (.un op)|.convert J dst _=>(match P.underlying J,P.underlying dst with|some (.int _),some (.int k)=>some (.conv k)|some (.slice e),some .string=>(match P.underlying e with|some (.int .u8)=>some .strOf|_=>none)|_,_=>none)|.makeInterface t _=>(match P.underlying t with|some (.interface _)|none=>none|some _=>some (.iface t))|.makeFunc (.func f) u _=>some (.mkfn f u.size)|.makeMap t _=>(match P.underlying t with|some (.map _ _)=>some .mkmap|_=>none)|.makeSlice t _ _=>(match P.underlying t with|some (.slice e)=>(iZ P e).bind λz=>(jj P e).map λb=>.mksl e z.1 b z.2|_=>none)|.slice t _ lo E mx=>(match P.underlying t with|some (.slice e)=>(aR P e).map λn=>.slc n lo.isSome E.isSome mx.isSome|some .string=>if mx.isSome then none else some (.slcStr lo.isSome E.isSome)|some (.array n e)=>(aR P e).map λk=>.slcArr e n k lo.isSome E.isSome mx.isSome|_=>none)|.fieldAddr t _ i=>(lz P t i).bind λf=>(aR P f.type).bind λn=>if n=0 then none else some (.fieldAddr f.offset)|.field t _ i=>(lz P t i).bind λf=>(rA P f.type).map λn=>.field f.offset n|.indexAddr t _ _=>(match P.underlying t with|some (.slice e)=>(aR P e).map .idxSl|some (.array n e)=>(aR P e).map λk=>.idxArrAddr n k|_=>none)|.index t _ _=>(match P.underlying t with|some (.array n e)=>(aR P e).bind λk=>(rA P e).map λa=>.idxArr n k a|some .string=>some .idxStr|_=>none)|.lookup t _ _ ok=>(match P.underlying t with|some (.map k e)=>(mt P k).bind λI=>(iz P e).map λz=>.lookup t I z ok|_=>none)|.mapUpdate t _ _ _|.insert t _ _ _=>(match P.underlying t with|some (.map F _)=>(mt P F).map .mapUpd|_=>none)|.mapEntry t _ _=>(match P.underlying t with|some (.map F e)=>(mt P F).bind λI=>(iz P e).map λz=>.mapEntry t I z|_=>none)|.entryStore _ _ _ _=>some .entryStore|.range t _=>(match P.underlying t with|some (.map _ _)=>some .rangeM|_=>none)|.next _ false=>some .nextM|.entry _=>some .entryM|.extract _ i=>some (.extract i)|.call c=>(match c.callee with|.value _=>some .call|.builtin b=>aP P b c.argTypes.toList|_=>none)|_=>none
def Pl(o:Oper):Option (Kd×List IA):=do
 let kd←cp P o.op
 let as←nh o.op.operands.toList
 pure (kd,as)
def JY:List Oper->Nat->Bool|[],_=>true|o::os,i=>(o.after.all λe=>!Region.binds .any e||decide (e.on<i))&&JY os (i+1)
def mask(q:List Nat)(o:Oper):Nat:=o.after.toList.foldl (λs e=>if Region.binds .any e then s||| 2^e.on||| q.getD e.on 0 else s) 0
def kL:List Oper->List Nat->List Nat|[],q=>q|o::os,q=>kL os (q++[mask q o])
def gW(ms:List Nat)(i j:Nat):Bool:=(ms.getD (Max.max i j) 0).testBit (Min.min i j)
def wL:IA->Option Nat|.tmp t=>some t|_=>none
def IOp.names(o:IOp):List Nat:=o.dst.toList++o.args.filterMap wL++(o.guard.map (·.1)).toList
def qO(a b:IOp):Bool:=(match a.dst with|some d=>!b.names.contains d|none=>true)&& (match b.dst with|some d=>!a.names.contains d|none=>true)
def mB(ms:List Nat)(i:Nat)(a:IOp):List IOp->Nat->Bool|[],_=>true|b::l,j=>(gW ms i j||qO a b)&&mB ms i a l (j+1)
def tc(ms:List Nat):List IOp->Nat->Bool|[],_=>true|a::l,i=>mB ms i a l (i+1)&&tc ms l (i+1)
def mz(ops:Array Oper)(o:Oper):Option IOp:=do
 let (kd,args)←Pl P o
 let guard←match o.guard with
  | none=>pure none
  | some (j,want)=>do pure (some (←(ops[j]?).bind (·.dst),want))
 pure {dst:=o.dst,kd,args,guard,amb:=true,idx:=0,mask:=0}
def Bj(ms:List Nat)(i:Nat):Bool:=(ms.drop i).all λm=>m%2^i=2^i - 1
def mK(l:List IOp):Sg:=if l.length<=1 then .seq else .free
def Kd.isLoad:Kd->Bool|.load _=>true|_=>false
def Kd.isLook:Kd->Bool|.lookup _ _ _ false=>true|_=>false
def Kd.light(k:Kd):Bool:=k.pure||k.isLoad||k.isLook
def Kd.isWr:Kd->Bool|.append _ _ _|.appendZ _ _ _ _|.mapEntry _ _ _=>true|_=>false
def kg(ms:List Nat)(i:Nat)(ok:Kd->Bool):List IOp->Nat->Bool|[],_=>true|b::l,j=>(i==j||gW ms i j||ok b.kd)&&kg ms i ok l (j+1)
def Gq(ms:List Nat)(l:List IOp)(i:Nat)(k:Kd):Bool:=k.isStore||kg ms i Kd.pure l 0||(k.isWr&&kg ms i Kd.light l 0)
def lF(ms:List Nat)(all:List IOp):List IOp->Nat->List IOp|[],_=>[]|o::l,i=>{o with amb:=Gq ms all i o.kd,idx:=i,mask:=ms.getD i 0}::lF ms all l (i+1)
def kX(a b:IOp):Bool:=a.kd.light||b.kd.light||(a.kd.isStore&&b.kd.isStore)||(!a.amb&&!b.amb)
def kq(ms:List Nat)(i:Nat)(a:IOp):List IOp->Nat->Bool|[],_=>true|b::l,j=>(gW ms i j||kX a b)&&kq ms i a l (j+1)
def pS(ms:List Nat):List IOp->Nat->Bool|[],_=>true|a::l,i=>kq ms i a l (i+1)&&pS ms l (i+1)
def parts(ms:List Nat):List IOp->Nat->List IOp->List (Sg×List IOp)|[],_,[]=>[]|[],_,q=>[(mK q.reverse,q.reverse)]|o::l,i,q=>if Bj ms (i+1) then(mK (o::q).reverse,(o::q).reverse)::parts ms l (i+1) [] else parts ms l (i+1) (o::q)
def CG(md:Region.Mode)(ops:Array Oper):List Nat->List Nat->Bool|[],seen=>(List.range ops.size).all seen.contains|i::l,seen=>(match ops[i]? with|some o=>o.after.all (λe=>!Region.binds md e||seen.contains e.on)|none=>false)&&CG md ops l (i::seen)
def wU(ops:Array Oper):Bool:=CG .any ops (List.range ops.size) []&& (!Region.departs ops||(CG .text ops (List.range ops.size) []&&CG .gc ops (Region.linearise .gc ops 0) []))
def dc(ops:Array Oper)(draw:Bool):Option (List (Sg×List IOp)):=do
 let l←ops.toList.mapM (mz P ops)
 if draw then
  let ms:=kL ops.toList []
  let l:=lF ms l l 0
  if wU ops&&JY ops.toList 0&&tc ms l 0&&pS ms l 0 then pure (parts ms l 0 []) else none
 else pure [(.seq,l)]
def aU:Code→Option IC
 | .skip=>some .skip
 | .region _ ops draw=>(dc P ops draw).map .ops
 | .seq a b=>do pure (.seq (←aU a) (←aU b))
 | .cond c a b=>do pure (.cond (←nG c) (←aU a) (←aU b))
 | .block id c=>do pure (.block id (←aU c))
 | .scope c=>do pure (.scope (←aU c))
 | .label _=>some .skip
 | .loop c=>do pure (.loop (←aU c))
 | .rangeFunc f ps asg body=>do pure (.rfn (←nG f) ps.toList (←aU asg) (←aU body))
 | .exit id=>some (.exit id)
 | .ret=>some .ret
 | _=>none
def vl:ResultVar->Option (Nat×Option (Option Nat))|.tmp t=>some (t,none)|.cell a t=>(rA P t).map λn=>(a,some n)
def al(f:FuncId):Option IFn:=
 match P.funcs[f]? with
 | none=>none
 | some fn=>
   if fn.name=="runtime.NumGoroutine" then none else
   match fn.body with
   | none=>none
   | some c=>do pure ⟨fn.ntmps,←fn.results.toList.mapM (vl P),←aU P c⟩
end
def IObj.owned:IObj->Bool|.cells true _ _ _=>false|.dead=>false|_=>true
def j6:Jmp->Code|.exit id=>.exit id|.ret=>.ret
def EsR(μ:Mu):List (IV×IV×Nat)->List MapEntry->Prop|[],l=>l=[]|(k,v,s)::u,l=>∃(e:MapEntry) (q:List MapEntry),l=e::q/\VR μ k e.key/\VR μ v e.val/\e.born=s/\EsR μ u q
theorem EsR.mono{μ q:Mu}(u:μ.le q):∀{A:List (IV×IV×Nat)}{l:List MapEntry},EsR μ A l->EsR q A l|[],_,h=>h|(k,v,_)::_,_,h=>by obtain⟨e,E,a,b,c,d,f⟩:=h;exact⟨e,E,a,VR.mono u k _ b,VR.mono u v _ c,d,EsR.mono u f⟩
def ObjR(P:Program)(μ:Mu)(o:IObj)(p ez z:Nat)(h:Option Obj):Prop:=match o with|.cells true _ _ cs=>ez=0/\∃(q:Array Value) (e:TypeId) (T:Nat×Nat),h=some (.cells q e T)/\p+cs.length<=q.size/\VRs μ cs ((q.toList.drop p).take cs.length)|.cells false e J cs=>p=0/\ez=J/\∃q:Array Value,h=some (.cells q e (0,0))/\q.size=z/\cs.length<=z/\VRs μ cs (q.toList.take cs.length)|.map Q u=>p=0/\∃E:Array MapEntry,h=some (.map E u)/\EsR μ Q E.toList|.loop st pend tm U I body O=>p=0/\∃L:Loop,h=some (.loop L)/\L.state=st/\L.pending=pend.map j6/\VRs μ tm L.tmps.toList/\L.params.toList=U/\ aU P L.assign=some I/\aU P L.body=some body/\LocR μ O 0 ⟨L.defers,0,none⟩|.deferred=>p=0/\h=some (.deferred (some []))|.taken=>p=0/\h=some (.deferred none)|.iter m A seen F=>p=0/\∃K:Option Nat,h=some (.mapIter K A seen.toArray F)/\VR μ (match m with|none=>.nilMap|some b=>.map b) (.map K)|.dead=>False
theorem ObjR.mono{P:Program}{μ A:Mu}{o:IObj}{p ez z:Nat}{h:Option Obj}(u:μ.le A)(k:ObjR P μ o p ez z h):ObjR P A o p ez z h:=by cases o with|cells V e Q cs=>cases V;{obtain⟨a,b,q,c,d,F,f⟩:=k;exact⟨a,b,q,c,d,F,VRs.mono u _ _ f⟩};{obtain⟨a,q,F,T,b,c,f⟩:=k;exact⟨a,q,F,T,b,c,VRs.mono u _ _ f⟩}|map Z E=>obtain⟨a,I,b,c⟩:=k;exact⟨a,I,b,EsR.mono u c⟩|loop st pend tm ps O body Y=>obtain⟨a,L,b,c,d,e,f,g,i,j⟩:=k;exact⟨a,L,b,c,d,VRs.mono u _ _ e,f,g,i,j.mono u⟩|deferred=>exact k|taken=>exact k|iter m J seen K=>obtain⟨a,U,b,c⟩:=k;exact⟨a,U,b,VR.mono u _ _ c⟩|dead=>exact k
theorem ObjR.some_{P:Program}{μ:Mu}{o:IObj}{p ez z:Nat}{h:Option Obj}(k:ObjR P μ o p ez z h):∃x,h=some x:=by cases o with|cells K e J cs=>cases K;{obtain⟨_,_,u,c,_⟩:=k;exact⟨_,c⟩};{obtain⟨_,u,Q,U,b,_⟩:=k;exact⟨_,b⟩}|map T q=>obtain⟨_,I,b,_⟩:=k;exact⟨_,b⟩|loop st pend tm Y F body O=>obtain⟨_,L,b,_⟩:=k;exact⟨_,b⟩|deferred=>exact⟨_,k.2⟩|taken=>exact⟨_,k.2⟩|iter m A seen E=>obtain⟨_,V,b,_⟩:=k;exact⟨_,b⟩|dead=>exact k.elim
abbrev Gt:=Nat->Option IObj
def a8(g:Gt)(b:Nat):Prop:=∃o,g b=some o/\o.owned=true
structure Rel(P:Program)(g0:Nat)(μ:Mu)(g:Gt)(n:Nat)(w:World):Prop where
 lt:∀b,μ b≠.no→b < n
 inj:∀b b' c p ez z p' ez' z',μ b=.at c p ez z→μ b'=.at c p' ez' z'→a8 g b→b=b'
 obj:∀b c p ez z,μ b=.at c p ez z→∃o,g b=some o∧ObjR P μ o p ez z w.heap[c]?
 glob:∀i,i < g0→μ i=.at i 0 0 0
 ded:∀b,μ b=.dead→g b=some .dead
structure Post(lo:Nat)(μ:Mu)(g:Gt)(n:Nat)(w:World)(μ':Mu)(g':Gt)(n':Nat)(w':World):Prop where
 le:μ.le μ'
 hn:n≤n'
 old:∀b,b < n→μ b=.no→μ' b=.no
 low:∀b,b < lo→b < n→μ' b=μ b∧g' b=g b
 own:∀b,b < n→a8 g' b→a8 g b
 new:∀b c p ez z,n≤b→μ' b=.at c p ez z→w.heap.size≤c∨∃b0 p0 ez0 z0,lo≤b0∧b0 < n∧a8 g b0∧μ b0=.at c p0 ez0 z0
 full:∀b,n≤b→b < n'→μ' b≠.no
 size:w.heap.size≤w'.heap.size
 frame:∀c,c < w.heap.size→(∀b p ez z,lo≤b→b < n→a8 g b→μ b≠.at c p ez z)→w'.heap[c]? =w.heap[c]?
 os:w'.os=w.os
 tape:w'.tape=w.tape
 output:w'.output=w.output
 drawn:w.drawn≤w'.drawn
section
variable {P:Program}{g0 lo n:Nat}{μ:Mu}{g:Gt}{w:World}
theorem Rel.clt(h:Rel P g0 μ g n w){b c p ez z:Nat}(q:μ b=.at c p ez z):c<w.heap.size:=by obtain⟨o,_,u⟩:=h.obj b c p ez z q;obtain⟨x,hx⟩:=u.some_;grind
theorem Rel.heap_eq{w':World}(h:Rel P g0 μ g n w)(e:w'.heap=w.heap):Rel P g0 μ g n w':=⟨h.lt,h.inj,λb c p ez z q=>by rw[e];exact h.obj b c p ez z q,h.glob,h.ded⟩
theorem Rel.congr{E:Gt}(h:Rel P g0 μ g n w)(e:∀b,μ b≠.no->E b=g b):Rel P g0 μ E n w where lt:=h.lt;inj:=λb b' c p ez z J u K q A I=>h.inj b b' c p ez z J u K q A (by obtain⟨o,O,F⟩:=I;exact⟨o,by grind,F⟩);obj:=λb c p ez z q=>by{rw[e b (by grind)];exact h.obj b c p ez z q};glob:=h.glob;ded:=λb q=>by rw[e b (by grind)];exact h.ded b q
theorem Rel.more{q:Nat}(h:Rel P g0 μ g n w)(hn:n<=q):Rel P g0 μ g q w:=⟨λb u=>bT (h.lt b u) hn,h.inj,h.obj,h.glob,h.ded⟩
theorem Post.refl(h:Rel P g0 μ g n w):Post lo μ g n w μ g n w where le:=μ.le_refl;hn:=an _;old:=λ_ _ h=>h;low:=λ_ _ _=>⟨rfl,rfl⟩;own:=λ_ _ h=>h;new:=λb c p ez z A e=>absurd (h.lt b (by grind)) (by omega);full:=λb q u=>by{omega};size:=an _;frame:=λ_ _ _=>rfl;os:=rfl;tape:=rfl;output:=rfl;drawn:=an _
theorem Post.trans{n1 n2:Nat}{I V:Mu}{g1 g2:Gt}{w1 w2:World}(h:Post lo μ g n w I g1 n1 w1)(k:Post lo I g1 n1 w1 V g2 n2 w2):Post lo μ g n w V g2 n2 w2 where le:=Mu.le_trans h.le k.le;hn:=dT h.hn k.hn;old:=λb E e=>k.old b (bT E h.hn) (h.old b E e);low:=λb hl E=>by{obtain⟨a1,a2⟩:=h.low b hl E;obtain⟨b1,b2⟩:=k.low b hl (bT E h.hn);grind};own:=λb E o=>h.own b E (k.own b (bT E h.hn) o);new:=λb c p ez z E e=>by{have key:∀b0 J u K,lo<=b0->b0<n1->a8 g1 b0->I b0=.at c J u K->w.heap.size<=c\/∃b0 J u K,lo<=b0/\b0<n/\a8 g b0/\μ b0=.at c J u K:=by{intro b0 J u K O ad ho Q;by_cases q:b0<n;{have A:μ b0≠.no:=λT=>by{rw[h.old b0 q T] at Q;cases Q};rcases h.le b0 A with F|F;{exact .inr ⟨b0,J,u,K,O,q,h.own b0 q ho,by rw[<-F];exact Q⟩};{rw[F] at Q;cases Q}};{exact h.new b0 c J u K (by omega) Q}};by_cases q:b<n1;{have A:I b≠.no:=λT=>by{rw[k.old b q T] at e;cases e};rcases k.le b A with F|F;{exact h.new b c p ez z E (by rw[<-F];exact e)};{rw[F] at e;cases e}};{rcases k.new b c p ez z (by omega) e with Y|⟨b0,J,u,K,Z,h2,h3,h4⟩;{exact .inl (dT h.size Y)};grind}};full:=λb Z h2=>by{by_cases E:b<n1;{have A:=h.full b Z E;rcases k.le b A with e|e<;>grind};{exact k.full b (by omega) h2}};size:=dT h.size k.size;frame:=λc Y U=>by{refine(k.frame c (bT Y h.size) λb p ez z O ad ho e=>?_).trans (h.frame c Y U);by_cases q:b<n;{have A:μ b≠.no:=λT=>by{rw[h.old b q T] at e;cases e};rcases h.le b A with F|F;{exact U b p ez z O q (h.own b q ho) (by rw[<-F];exact e)};{rw[F] at e;cases e}};{rcases h.new b c p ez z (by omega) e with ag|⟨b0,J,u,K,Z,h2,h3,h4⟩<;>grind}};os:=k.os.trans h.os;tape:=k.tape.trans h.tape;output:=k.output.trans h.output;drawn:=dT h.drawn k.drawn
theorem Post.lower{q n1:Nat}{u:Mu}{g1:Gt}{F:World}(V:lo<=q)(h:Post q μ g n w u g1 n1 F):Post lo μ g n w u g1 n1 F where le:=h.le;hn:=h.hn;old:=h.old;low:=λb a c=>h.low b (by omega) c;own:=h.own;new:=λb c p ez z J e=>by{rcases h.new b c p ez z J e with E|⟨b0,Y,I,Z,O,Q,T,U⟩<;>grind};full:=h.full;size:=h.size;frame:=λc E A=>h.frame c E λb p ez z K=>A b p ez z (by omega);os:=h.os;tape:=h.tape;output:=h.output;drawn:=h.drawn
theorem Post.same{w':World}(h:Rel P g0 μ g n w)(e:w'.heap=w.heap)(q:w'.os=w.os)(u:w'.tape=w.tape)(A:w'.output=w.output)(E:w.drawn<=w'.drawn:=by first|exact an _|exact qT _|assumption|(simp;done)|omega):Post lo μ g n w μ g n w' where le:=μ.le_refl;hn:=an _;old:=λ_ _ h=>h;low:=λ_ _ _=>⟨rfl,rfl⟩;own:=λ_ _ h=>h;new:=λb c p ez z J e=>absurd (h.lt b (by grind)) (by omega);full:=λb F I=>by{omega};size:=by{rw[e];exact an _};frame:=λ_ _ _=>by{rw[e]};os:=q;tape:=u;output:=A;drawn:=E
def Mu.upd(μ:Mu)(b:Nat)(l:Loc):Mu:=λx=>if x=b then l else μ x
theorem aA(μ:Mu)(b:Nat)(l:Loc):μ.upd b l b=l:=by simp[Mu.upd]
theorem aC(μ:Mu){b x:Nat}(l:Loc)(h:x≠b):μ.upd b l x=μ x:=by simp[Mu.upd,h]
theorem Mu.le_upd(μ:Mu){b:Nat}(l:Loc)(h:μ b=.no):μ.le (μ.upd b l):=λx hx=>by left;refine aC _ _ λe=>hx (by rw[e];exact h)
theorem Mu.le_kill(μ:Mu)(b:Nat):μ.le (μ.upd b .dead):=λx hx=>by grind[aA,aC]
theorem Rel.fresh(h:Rel P g0 μ g n w):μ n=.no:=by cases e:μ n with|no=>rfl|dead=>exact absurd (h.lt n (by grind)) (by omega)|«at» c p ez z=>exact absurd (h.lt n (by grind)) (by omega)
theorem Ra(h:Array Obj)(ob:Obj):(h.push ob)[h.size]? =some ob:=by simp
theorem EQ(h:Array Obj)(ob:Obj){c:Nat}(q:c<h.size):(h.push ob)[c]? =h[c]?:=by grind
theorem Rel.alloc{H:Heap}(h:Rel P g0 μ H.get H.n w){w':World}{ob:Obj}{o:IObj}{ez z:Nat}(U:w'.heap=w.heap.push ob)(T:ObjR P (μ.upd H.n (.at w.heap.size 0 ez z)) o 0 ez z (some ob))(V:w'.os=w.os)(Y:w'.tape=w.tape)(Z:w'.output=w.output)(e4:w.drawn<=w'.drawn:=by first|exact an _|exact qT _|assumption|(simp;done)|omega):Rel P g0 (μ.upd H.n (.at w.heap.size 0 ez z)) (H.new o).get (H.new o).n w'/\ Post lo μ H.get H.n w (μ.upd H.n (.at w.heap.size 0 ez z)) (H.new o).get (H.new o).n w':=by have I:=h.fresh;have F:=μ.le_upd (.at w.heap.size 0 ez z) I;have old:∀b,b≠H.n->(H.new o).get b=H.get b:=λb q=>by{rw[aj,if_neg (Ne.symm q)]};have ad:(H.new o).get H.n=some o:=by{rw[aj,if_pos rfl]};refine⟨⟨λb q=>?_,?_,?_,λi Q=>?_,λb q=>?_⟩,⟨F,by rw[ac];omega,λb q e=>?_,λb _ q=>?_,λb q T=>?_,λb c p ez z q e=>?_,λb h1 h2=>?_,?_,λc hc _=>?_,V,Y,Z,e4⟩⟩;{rw[ac];by_cases e:b=H.n;{omega};{rw[aC _ _ e] at q;have:=h.lt b q;omega}};{intro b b' c p ez z p' A O q u J;by_cases e:b=H.n;{subst e;rw[aA] at q;by_cases E:b'=H.n;{exact E.symm};{rw[aC _ _ E] at u;have:=h.clt u;grind}};{rw[aC _ _ e] at q;by_cases E:b'=H.n;{subst E;rw[aA] at u;have:=h.clt q;grind};{rw[aC _ _ E] at u;refine h.inj b b' c p ez z p' A O q u ?_;obtain⟨x,hx,K⟩:=J;exact⟨x,by rw[<-old b e];exact hx,K⟩}}};{intro b c p A O q;by_cases e:b=H.n;{grind[aA,Ra]};{rw[aC _ _ e] at q;obtain⟨x,hx,hr⟩:=h.obj b c p A O q;refine⟨x,by rw[old b e];exact hx,?_⟩;rw[U,EQ _ _ (h.clt q)];exact hr.mono F}};{have hn:μ i≠.no:=by{rw[h.glob i Q];exactλx=>by cases x};rw[aC _ _ (by have:=h.lt i hn;omega)];exact h.glob i Q};{by_cases e:b=H.n;{grind[aA]};{rw[aC _ _ e] at q;rw[old b e];exact h.ded b q}};{grind[aC]};{grind[aC]};{obtain⟨x,hx,K⟩:=T;exact⟨x,by grind,K⟩};{by_cases eb:b=H.n;{grind[aA]};{rw[aC _ _ eb] at e;exact absurd (h.lt b (by grind)) (by omega)}};{grind[ac,aA]};{grind};{rw[U,EQ _ _ hc]}
theorem Rel.update{H:Heap}(h:Rel P g0 μ H.get H.n w){w':World}{b c p ez z:Nat}{o:IObj}(J:μ b=.at c p ez z)(ap:lo<=b)(E:a8 H.get b)(a0:w'.heap.size=w.heap.size)(u:∀c',c'≠c->w'.heap[c']? =w.heap[c']?)(ho:ObjR P μ o p ez z w'.heap[c]?)(e1:w'.os=w.os)(e2:w'.tape=w.tape)(e3:w'.output=w.output)(e4:w.drawn<=w'.drawn:=by first|exact an _|exact qT _|assumption|(simp;done)|omega):Rel P g0 μ (H.put b o).get (H.put b o).n w'/\Post lo μ H.get H.n w μ (H.put b o).get (H.put b o).n w':=by have old:∀x,x≠b->(H.put b o).get x=H.get x:=λx hx=>by{rw[aa,if_neg (Ne.symm hx)]};have U:(H.put b o).get b=some o:=by{rw[aa,if_pos rfl]};have ad:b<H.n:=h.lt b (by rw[J];exactλx=>by cases x);have A:∀x,a8 (H.put b o).get x->a8 H.get x:=λx hx=>by{by_cases e:x=b;{subst e;exact E};{obtain⟨y,T,hz⟩:=hx;exact⟨y,by rw[<-old x e];exact T,hz⟩}};refine⟨⟨h.lt,λx x' c1 F q I p2 K z2 hx Q O=>h.inj x x' c1 F q I p2 K z2 hx Q (A x O),λx c1 F q I hx=>?_,h.glob,λx hx=>by rw[old x (λe=>by subst e;rw[J] at hx;cases hx)];exact h.ded x hx⟩,⟨μ.le_refl,an _,λ_ _ e=>e,λx a5 _=>⟨rfl,old x (by omega)⟩,λx _ hx=>A x hx,λx c1 F q I hx e=>absurd (h.lt x (by rw[e];exactλy=>by cases y)) (by omega),λx h1 h2=>by rw[af] at h2;omega,by omega,λc1 ag aE=>u c1 λe=>?_,e1,e2,e3,e4⟩⟩;{by_cases e:x=b;{subst e;rw[J] at hx;injection hx with V Y Z a4;subst V Y Z a4;exact⟨o,U,ho⟩};{obtain⟨y,T,hr⟩:=h.obj x c1 F q I hx;refine⟨y,by rw[old x e];exact T,?_⟩;rw[u c1 λec=>e ?_];{exact hr};{subst ec;exact(h.inj b x c1 p ez z F q I J hx E).symm}}};grind
theorem Rel.kill{H:Heap}(h:Rel P g0 μ H.get H.n w){b:Nat}(V:lo<=b)(hg:g0<=b)(T:μ b≠.no):Rel P g0 (μ.upd b .dead) (H.put b .dead).get (H.put b .dead).n w/\Post lo μ H.get H.n w (μ.upd b .dead) (H.put b .dead).get (H.put b .dead).n w:=by have old:∀x,x≠b->(H.put b .dead).get x=H.get x:=λx hx=>by{rw[aa,if_neg (Ne.symm hx)]};have F:(H.put b .dead).get b=some .dead:=by{rw[aa,if_pos rfl]};have J:b<H.n:=h.lt b T;have E:=μ.le_kill b;have q:∀x c p ez z,μ.upd b .dead x=.at c p ez z->x≠b/\μ x=.at c p ez z:=λx c p ez z hx=>by{by_cases e:x=b;{subst e;rw[aA] at hx;cases hx};{rw[aC _ _ e] at hx;exact⟨e,hx⟩}};have u:∀x,a8 (H.put b .dead).get x->a8 H.get x:=λx hx=>by{by_cases e:x=b;{subst e;obtain⟨y,A,O⟩:=hx;rw[F] at A;injection A with A;subst A;cases O};{obtain⟨y,A,O⟩:=hx;exact⟨y,by rw[<-old x e];exact A,O⟩}};refine⟨⟨λx hx=>?_,λx x' c p ez z p' I z' hx K Y=>h.inj x x' c p ez z p' I z' (q _ _ _ _ _ hx).2 (q _ _ _ _ _ K).2 (u x Y),λx c p ez z hx=>?_,λi U=>?_,λx hx=>?_⟩,⟨E,an _,λx hx e=>?_,λx ad hx=>⟨aC _ _ (by omega),old x (by omega)⟩,λx _ hx=>u x hx,λx c p ez z hx e=>absurd (h.lt x (by rw[(q _ _ _ _ _ e).2];exactλy=>by cases y)) (by omega),λx h1 Q=>by rw[af] at Q;omega,an _,λ_ _ _=>rfl,rfl,rfl,rfl,an _⟩⟩;{by_cases e:x=b;{subst e;exact J};{rw[aC _ _ e] at hx;exact h.lt x hx}};{obtain⟨e,hx⟩:=q _ _ _ _ _ hx;obtain⟨y,A,Z⟩:=h.obj x c p ez z hx;exact⟨y,by rw[old x e];exact A,Z.mono E⟩};{rw[aC _ _ (by omega)];exact h.glob i U};{by_cases e:x=b;{subst e;exact F};{rw[aC _ _ e] at hx;rw[old x e];exact h.ded x hx}};grind[absurd,aC]
theorem Rel.regrow{H:Heap}(h:Rel P g0 μ H.get H.n w){w':World}{b c ez z:Nat}{o:IObj}(U:μ b=.at c 0 ez z)(a0:lo<=b)(hg:g0<=b)(I:a8 H.get b)(bo:w'.heap.size=w.heap.size)(K:∀c',c'≠c->w'.heap[c']? =w.heap[c']?)(ho:ObjR P ((μ.upd b .dead).upd H.n (.at c 0 ez z)) o 0 ez z w'.heap[c]?)(e1:w'.os=w.os)(e2:w'.tape=w.tape)(e3:w'.output=w.output)(e4:w.drawn<=w'.drawn:=by first|exact an _|exact qT _|assumption|(simp;done)|omega):Rel P g0 ((μ.upd b .dead).upd H.n (.at c 0 ez z)) ((H.put b .dead).new o).get ((H.put b .dead).new o).n w'/\ Post lo μ H.get H.n w ((μ.upd b .dead).upd H.n (.at c 0 ez z)) ((H.put b .dead).new o).get ((H.put b .dead).new o).n w':=by have aE:b<H.n:=h.lt b (by rw[U];exactλx=>by cases x);have old:∀x,x≠b->x≠H.n->((H.put b .dead).new o).get x=H.get x:=λx hx F=>by{rw[aj,if_neg (by rw[af];exact Ne.symm F),aa,if_neg (Ne.symm hx)]};have a9:((H.put b .dead).new o).get H.n=some o:=by{rw[aj,af,if_pos rfl]};have ap:((H.put b .dead).new o).get b=some .dead:=by{rw[aj,af,if_neg (by omega),aa,if_pos rfl]};have mb:(μ.upd b .dead).upd H.n (.at c 0 ez z) b=.dead:=by{rw[aC _ _ (by omega),aA]};have mn:(μ.upd b .dead).upd H.n (.at c 0 ez z) H.n=.at c 0 ez z:=aA _ _ _;have T:∀x,x≠b->x≠H.n->(μ.upd b .dead).upd H.n (.at c 0 ez z) x=μ x:=λx hx F=>by{rw[aC _ _ F,aC _ _ hx]};have ag:μ.le ((μ.upd b .dead).upd H.n (.at c 0 ez z)):=λx hx=>by{by_cases e:x=b;{subst e;exact .inr mb};{exact .inl (T x e λA=>by subst A;exact hx h.fresh)}};have q:∀x c' p' J z',(μ.upd b .dead).upd H.n (.at c 0 ez z) x=.at c' p' J z'->(x=H.n/\c'=c/\p'=0/\J=ez/\z'=z)\/(x≠b/\x≠H.n/\μ x=.at c' p' J z'):=by{intro x c' p' J z' hx;by_cases e:x=H.n;{subst e;rw[mn] at hx;injection hx with u a2 a3 a4;exact .inl ⟨rfl,u.symm,a2.symm,a3.symm,a4.symm⟩};{by_cases A:x=b;{subst A;rw[mb] at hx;cases hx};{rw[T x A e] at hx;exact .inr ⟨A,e,hx⟩}}};have O:∀x,x<H.n->a8 ((H.put b .dead).new o).get x->a8 H.get x:=λx hx Q=>by{obtain⟨y,hy,hz⟩:=Q;by_cases e:x=b;{subst e;exact I};{exact⟨y,by rw[<-old x e (by omega)];exact hy,hz⟩}};refine⟨⟨λx hx=>?_,λx x' c1 V E Y p2 ad z2 hx F a6=>?_,λx c1 V E Y hx=>?_,λi hi=>?_,λx hx=>?_⟩,⟨ag,by rw[ac,af];omega,λx hx e=>?_,λx bt hx=>⟨T x (by omega) (by omega),old x (by omega) (by omega)⟩,λx hx Q=>O x hx Q,λx c1 V E Y hx e=>?_,λx h1 h2=>?_,by omega,λc1 bd bl=>K c1 λe=>?_,e1,e2,e3,e4⟩⟩;{rw[ac,af];by_cases e:x=H.n;{omega};{by_cases A:x=b;{omega};{rw[T x A e] at hx;have:=h.lt x hx;omega}}};{rcases q _ _ _ _ _ hx with⟨a,u,-⟩|⟨a,a',u⟩;{rcases q _ _ _ _ _ F with⟨d,-⟩|⟨d,d',Z⟩;{rw[a,d]};{subst u;exact absurd (h.inj b x' c1 0 ez z p2 ad z2 U Z I).symm d}};{have a5:=h.lt x (by rw[u];exactλx=>by cases x);rcases q _ _ _ _ _ F with⟨d,Z,-⟩|⟨d,d',Z⟩;{subst Z;exact absurd (h.inj b x c1 0 ez z V E Y U u I).symm a};{exact h.inj x x' c1 V E Y p2 ad z2 u Z (O x a5 a6)}}};{rcases q _ _ _ _ _ hx with⟨a,u,a2,a3,a4⟩|⟨a,a',u⟩;{subst a u a2 a3 a4;exact⟨o,a9,ho⟩};{obtain⟨y,hy,hr⟩:=h.obj x c1 V E Y u;refine⟨y,by rw[old x a a'];exact hy,?_⟩;rw[K c1 λec=>a ?_];{exact hr.mono ag};{subst ec;exact(h.inj b x c1 0 ez z V E Y U u I).symm}}};{have hn:μ i≠.no:=by{rw[h.glob i hi];exactλx=>by cases x};rw[T i (by omega) (by have:=h.lt i hn;omega)];exact h.glob i hi};{by_cases e:x=b;{subst e;exact ap};{by_cases A:x=H.n;{subst A;rw[mn] at hx;cases hx};{rw[T x e A] at hx;rw[old x e A];exact h.ded x hx}}};{by_cases A:x=b;{subst A;rw[U] at e;cases e};{rw[T x A (by omega)];exact e}};{rcases q _ _ _ _ _ e with⟨a,u,-⟩|⟨a,a',u⟩;{subst u;exact .inr ⟨b,0,ez,z,a0,aE,I,U⟩};{exact absurd (h.lt x (by rw[u];exactλy=>by cases y)) (by omega)}};{have e:x=H.n:=by{rw[ac,af] at h2;omega};subst e;rw[mn];exactλx=>by cases x};grind
end
section
variable {P:Program}{g0 lo:Nat}{μ:Mu}{H:Heap}{w:World}
def Gives(P:Program)(g0 lo:Nat)(μ:Mu)(H:Heap)(w:World)(s:Sem Next)(v:IV)(H':Heap):Prop:=∃(u:Next) (v':Value) (w':World) (q:Mu),s.run P w=.ok u w'/\(u=.value v'\/(u=.skip/\v'=undef))/\ Rel P g0 q H'.get H'.n w'/\Post lo μ H.get H.n w q H'.get H'.n w'/\VR q v v'
theorem Gives.pure(h:Rel P g0 μ H.get H.n w){s:Sem Next}{v:IV}{v':Value}(q:s.run P w=.ok (.value v') w)(u:VR μ v v'):Gives P g0 lo μ H w s v H:=⟨_,v',w,μ,q,.inl rfl,h,Post.refl h,u⟩
theorem ba{x:IV}{l:List Value}(h:VRs μ [x] l):∃a,l=[a]/\VR μ x a:=by obtain⟨a,l1,rfl,q,u⟩:=h;cases u;exact⟨a,rfl,q⟩
theorem br{x y:IV}{l:List Value}(h:VRs μ [x,y] l):∃a b,l=[a,b]/\VR μ x a/\VR μ y b:=by obtain⟨a,l1,rfl,q,u⟩:=h;obtain⟨b,rfl,A⟩:=ba u;exact⟨a,b,rfl,q,A⟩
theorem nm{x y z:IV}{l:List Value}(h:VRs μ [x,y,z] l):∃a b c,l=[a,b,c]/\VR μ x a/\VR μ y b/\VR μ z c:=by obtain⟨a,l1,rfl,u,q⟩:=h;obtain⟨b,c,rfl,A,E⟩:=br q;grind
theorem fR{k:IntKind}{n:Int}{v:Value}(h:VR μ (.int k n) v):v=.int k n:=h
theorem kZ{b:Bool}{v:Value}(h:VR μ (.bool b) v):v=.bool b:=h
theorem wK{s:List UInt8}{v:Value}(h:VR μ (.str s) v):v=.string ⟨⟨s⟩⟩:=h
theorem bc{t:TypeId}{n:Nat}(h:aR P t=some n)(w:World):(sizeOf t).run P w=.ok n w:=by unfold aR at h;cases q:P.info? t<;>simp_all[sizeOf,typeInfo]
theorem xh{t:TypeId}{n:Nat}(h:aR P t=some n):∃i,P.info? t=some i/\i.size=n:=by unfold aR at h;cases q:P.info? t with|none=>rw[q] at h;cases h|some i=>rw[q] at h;injection h with h;exact⟨i,rfl,h⟩
theorem pr{t:TypeId}{n:Nat}(h:jj P t=some n):∃i,P.info? t=some i/\i.bytes=n:=by unfold jj at h;cases q:P.info? t with|none=>rw[q] at h;cases h|some i=>rw[q] at h;injection h with h;exact⟨i,rfl,h⟩
theorem vk:∀(n:Nat)(v:Value)(x:IV),qJ n v=some x->∀μ:Mu,VR μ x v:=by intro n;induction n with|zero=>intro v x h;cases h|succ n F=>intro v x h μ;unfold qJ at h;split at h;{injection h with h;subst h;rfl};{injection h with h;subst h;rfl};{injection h with h;subst h;rfl};{injection h with h;subst h;rfl};{injection h with h;subst h;rfl};{injection h with h;subst h;rfl};{injection h with h;subst h;rfl};{injection h with h;subst h;rfl};{rename_i cs;cases hm:List.mapM (qJ n) cs.toList with|none=>rw[hm] at h;cases h|some l=>rw[hm] at h;injection h with h;subst h;refine⟨cs,rfl,?_⟩;have key:∀(vs:List Value)(l:List IV),vs.mapM (qJ n)=some l->VRs μ l vs:=by{intro vs;induction vs with|nil=>intro l q;simp at q;subst q;rfl|cons a vs E=>intro l q;simp only[qY] at q;cases u:qJ n a with|none=>rw[u] at q;cases q|some x=>rw[u] at q;cases A:vs.mapM (qJ n) with|none=>rw[A] at q;cases q|some xs=>rw[A] at q;injection q with q;subst q;exact⟨a,vs,rfl,F a x u μ,E xs A⟩};exact key _ _ hm};{cases h}
theorem jd{t:TypeId}{z:IV}(h:iz P t=some z):∃i q,P.info? t=some i/\i.zero=some q/\∀μ:Mu,VR μ z q:=by unfold iz at h;cases A:P.info? t with|none=>rw[A] at h;cases h|some i=>rw[A] at h;cases u:i.zero with|none=>simp[u] at h|some q=>simp[u] at h;exact⟨i,q,rfl,u,vk 3 q z h⟩
theorem VR.cells_{x:IV}{v:Value}(h:VR μ x v):VRs μ x.cells v.cells.toList:=by cases x with|agg l=>obtain⟨A,rfl,u⟩:=h;exact u|ptr b o=>obtain⟨a,rfl,q⟩:=h;exact⟨_,_,rfl,⟨a,rfl,q⟩,rfl⟩|slice b o n lb ex=>obtain⟨a,c,rfl,q⟩:=h;exact⟨_,_,rfl,⟨a,c,rfl,q⟩,rfl⟩|map b=>obtain⟨a,rfl,q⟩:=h;exact⟨_,_,rfl,⟨a,rfl,q⟩,rfl⟩|fn f a b=>obtain⟨l,r,rfl,q⟩:=h;exact⟨_,_,rfl,⟨l,r,rfl,q⟩,rfl⟩|yield b=>obtain⟨a,rfl,q⟩:=h;exact⟨_,_,rfl,⟨a,rfl,q⟩,rfl⟩|iface t x=>obtain⟨a,rfl,q⟩:=h;exact⟨_,_,rfl,⟨a,rfl,q⟩,rfl⟩|tuple l=>obtain⟨A,rfl,u⟩:=h;exact⟨_,_,rfl,⟨A,rfl,u⟩,rfl⟩|bool b=>cases h;exact⟨_,_,rfl,rfl,rfl⟩|int k n=>cases h;exact⟨_,_,rfl,rfl,rfl⟩|str s=>cases h;exact⟨_,_,rfl,rfl,rfl⟩|nilPtr=>cases h;exact⟨_,_,rfl,rfl,rfl⟩|nilSlice=>cases h;exact⟨_,_,rfl,rfl,rfl⟩|nilMap=>cases h;exact⟨_,_,rfl,rfl,rfl⟩|nilFunc=>cases h;exact⟨_,_,rfl,rfl,rfl⟩|nilIface=>cases h;exact⟨_,_,rfl,rfl,rfl⟩
theorem VR.one_cell{x:IV}{v:Value}(h:VR μ x v)(u:x.one=true):v.oneCell'=true:=by cases x with|agg l=>cases u|tuple l=>cases u|ptr b o=>obtain⟨a,rfl,q⟩:=h;rfl|slice b o n lb ex=>obtain⟨a,c,rfl,q⟩:=h;rfl|map b=>obtain⟨a,rfl,q⟩:=h;rfl|fn f a b=>obtain⟨l,r,rfl,q⟩:=h;rfl|yield b=>obtain⟨a,rfl,q⟩:=h;rfl|iface t x=>obtain⟨a,rfl,q⟩:=h;rfl|_=>cases h;rfl
theorem VRs.one_cells:∀{l:List IV}{A:List Value},VRs μ l A->l.all IV.one=true->∀v∈A,v.oneCell'=true|[],_,h,_,v,q=>by cases h;cases q|x::xs,_,h,u,v,q=>by obtain⟨y,ys,rfl,E,F⟩:=h;simp only[mc,bF] at u;cases q with|head=>exact E.one_cell u.1|tail _ q=>exact VRs.one_cells F u.2 v q
end
section
variable {P:Program}{g0 lo:Nat}{μ:Mu}{H:Heap}{w:World}{ρ:Operand->Value}{type:TypeId}{pos:String}{dst:Option Tmp}{after:Array Edge}{guard:Option (Nat×Bool)}{xs:List IV}{v:IV}{H':Heap}
theorem Nd(h:Rel P g0 μ H.get H.n w){x:Operand}(q:ev1 .move xs lo H=some (v,H'))(hx:VRs μ xs [ρ x]):Gives P g0 lo μ H w (execOp ρ ⟨dst,.move x,type,pos,after,guard⟩) v H'/\Gives P g0 lo μ H w (execOp ρ ⟨dst,.assign x,type,pos,after,guard⟩) v H':=by simp only[ev1] at q;split at q;{injection q with q;injection q with u A;subst u A;obtain⟨y,F,E⟩:=ba hx;simp_all[Gives.pure,execOp]};{cases q}
theorem Uv(h:Rel P g0 μ H.get H.n w){c a b:Operand}(q:ev1 .pick xs lo H=some (v,H'))(hx:VRs μ xs [ρ c,ρ a,ρ b]):Gives P g0 lo μ H w (execOp ρ ⟨dst,.pick c a b,type,pos,after,guard⟩) v H':=by simp only[ev1] at q;split at q;{rename_i c1 K b1;injection q with q;injection q with E F;subst E F;obtain⟨O,Q,T,A,u,I,J⟩:=nm hx;simp only[dU,and_true] at A;obtain⟨rfl,rfl,rfl⟩:=A;cases c1;{exact Gives.pure h (v':=ρ b) (by simp[execOp,kZ u,asBool]) (by simpa using J)};{exact Gives.pure h (v':=ρ a) (by simp[execOp,kZ u,asBool]) (by simpa using I)}};{cases q}
theorem Hu(h:Rel P g0 μ H.get H.n w){x:Operand}(E:ev1 .nilCheck xs lo H=some (v,H'))(hx:VRs μ xs [ρ x]):Gives P g0 lo μ H w (execOp ρ ⟨dst,.nilCheck x,type,pos,after,guard⟩) v H':=by simp only[ev1] at E;split at E;{rename_i a;obtain⟨y,F,A⟩:=ba hx;injection F with F;subst F;cases a<;>simp only[reduceCtorEq] at E<;>(injection E with E;injection E with I J;subst I J);(case fn f l r=>obtain⟨K,O,e,q⟩:=A;exact Gives.pure h (v':=ρ x) (by simp[execOp,e]) ⟨K,O,e,q⟩);(case ptr b o=>obtain⟨a,e,q⟩:=A;exact Gives.pure h (v':=ρ x) (by simp[execOp,e]) ⟨a,e,q⟩);(case slice b o n lb ex=>obtain⟨a,c,e,q⟩:=A;exact Gives.pure h (v':=ρ x) (by simp[execOp,e]) ⟨a,c,e,q⟩);(case map b=>obtain⟨a,e,q⟩:=A;exact Gives.pure h (v':=ρ x) (by simp[execOp,e]) ⟨a,e,q⟩);(case iface t u=>obtain⟨a,e,q⟩:=A;exact Gives.pure h (v':=ρ x) (by simp[execOp,e]) ⟨a,e,q⟩);(case agg l=>obtain⟨a,e,q⟩:=A;exact Gives.pure h (v':=ρ x) (by simp[execOp,e]) ⟨a,e,q⟩);(case tuple l=>obtain⟨a,e,q⟩:=A;exact Gives.pure h (v':=ρ x) (by simp[execOp,e]) ⟨a,e,q⟩);all_goals have e:ρ x=_:=A;exact Gives.pure h (v':=ρ x) (by simp[execOp,e]) e};{cases E}
theorem Pz{op:BinOp}{k A:IntKind}{a b:Int}{r:IV}(q:pw op (.int k a) (.int A b)=some r)(t:TypeId):∃E:Value,(binOp op t (.int k a) (.int A b)).run P w=.ok E w/\∀μ:Mu,VR μ r E:=by cases op<;>simp only[pw] at q;(case shl=>by_cases u:b<0;{grind};{rw[if_neg u] at q;injection q with q;subst q;exact⟨_,by simp[binOp,Op.shift,u],λ_=>rfl⟩});(case shr=>by_cases u:b<0;{grind};{rw[if_neg u] at q;injection q with q;subst q;exact⟨_,by simp[binOp,Op.shift,u],λ_=>rfl⟩});all_goals by_cases F:k=A;{subst F;simp only[if_true] at q;first|(injection q with q;subst q;exact⟨_,by simp[binOp,Op.intArith,Op.intBits,Op.intCmp]<;>rfl,λ_=>rfl⟩)|(by_cases u:b=0;{grind};{rw[if_neg u] at q;injection q with q;subst q;exact⟨_,by simp[binOp,Op.intDiv,u]<;>rfl,λ_=>rfl⟩})};{grind}
theorem po{s:ByteArray}{l:List UInt8}(h:s.data.toList=l):s=⟨⟨l⟩⟩:=by subst h;rfl
theorem Kv(l:List UInt8):(ByteArray.mk (Array.mk l)).toList=l:=by rw[ByteArray.toList_eq]
theorem Py{op:BinOp}{a b:List UInt8}{r:IV}(q:pw op (.str a) (.str b)=some r)(t:TypeId):∃u:Value,(binOp op t (.string ⟨⟨a⟩⟩) (.string ⟨⟨b⟩⟩)).run P w=.ok u w/\∀μ:Mu,VR μ r u:=by cases op<;>simp only[pw,reduceCtorEq] at q;(case add=>split at q;{rename_i J;injection q with q;subst q;refine⟨.string (⟨⟨a⟩⟩++⟨⟨b⟩⟩),?_,λ_=>?_⟩;{have I:¬((((ByteArray.mk ⟨a⟩).size+(ByteArray.mk ⟨b⟩).size:Nat):Int)>IntKind.i64.max):=by{have A:(ByteArray.mk ⟨a⟩).size=a.length:=rfl;have E:(ByteArray.mk ⟨b⟩).size=b.length:=rfl;have F:IntKind.i64.max=9223372036854775807:=rfl;rw[A,E,F];omega};simp_all[binOp,Op.stringOp,if_neg]};{show Value.string _=Value.string _;exact congrArg Value.string (po (by simp))}};{cases q});all_goals injection q with q;subst q;exact⟨_,by simp[binOp,Op.stringOp,Kv]<;>rfl,λ_=>rfl⟩
theorem jh{op:BinOp}{t:TypeId}{x y:Operand}{a b:Value}(q:∀cs,a≠.agg cs)(u:a≠.nilIface):(eqGuard op t x y a b).run P w=.ok () w:=by simp_all[eqGuard]
theorem Np(h:Rel P g0 μ H.get H.n w){op:BinOp}{t T:TypeId}{x y:Operand}(u:ev1 (.bin op) xs lo H=some (v,H'))(hx:VRs μ xs [ρ x,ρ y]):Gives P g0 lo μ H w (execOp ρ ⟨dst,.binOp op t x y T,type,pos,after,guard⟩) v H':=by simp only[ev1] at u;split at u;{rename_i a b;obtain⟨Y,Z,K,I,J⟩:=br hx;simp only[dU,and_true] at K;obtain⟨rfl,rfl⟩:=K;cases A:pw op a b with|none=>rw[A] at u;cases u|some r=>rw[A] at u;injection u with u;injection u with O Q;subst O Q;cases a with|int k n=>(cases b with|int U m=>obtain⟨F,q,E⟩:=Pz (P:=P) (w:=w) A t;refine Gives.pure h (v':=F) ?_ (E μ);simp only[execOp,fR I,fR J];simp[jh,q]|_=>cases op<;>simp[pw] at A)|str s=>(cases b with|str V=>obtain⟨F,q,E⟩:=Py (P:=P) (w:=w) A t;refine Gives.pure h (v':=F) ?_ (E μ);simp only[execOp,wK I,wK J];simp[jh,q]|_=>cases op<;>simp[pw] at A)|_=>cases op<;>simp[pw] at A};{cases u}
theorem Nm(h:Rel P g0 μ H.get H.n w){op:BinOp}{neg:Bool}{t T:TypeId}{x y:Operand}(Q:P.underlying t=some .bool)(E:op=.eql/\neg=false\/op=.neq/\neg=true)(u:ev1 (.eqBool neg) xs lo H=some (v,H'))(hx:VRs μ xs [ρ x,ρ y]):Gives P g0 lo μ H w (execOp ρ ⟨dst,.binOp op t x y T,type,pos,after,guard⟩) v H':=by simp only[ev1] at u;split at u;{rename_i a b;injection u with u;injection u with K O;subst K O;obtain⟨U,V,J,F,I⟩:=br hx;simp only[dU,and_true] at J;obtain⟨rfl,rfl⟩:=J;have A:∀d:Nat,(Op.equalIn (d+1) t (.bool a) (.bool b)).run P w=.ok (a==b) w:=λd=>by{simp[Op.equalIn,run_underlying Q]};have q:(Op.equal t (.bool a) (.bool b)).run P w=.ok (a==b) w:=A 9999;rcases E with⟨rfl,rfl⟩|⟨rfl,rfl⟩;{refine Gives.pure h (v':=.bool (a==b)) ?_ (by simp[VR]);simp only[execOp,kZ F,kZ I];simp[jh,binOp,q]};{refine Gives.pure h (v':=.bool (!(a==b))) ?_ (by simp[VR]);simp only[execOp,kZ F,kZ I];simp[jh,binOp,q]}};{cases u}
theorem YY(h:Rel P g0 μ H.get H.n w){op:UnOp}{t:TypeId}{x:Operand}(q:ev1 (.un op) xs lo H=some (v,H'))(hx:VRs μ xs [ρ x]):Gives P g0 lo μ H w (execOp ρ ⟨dst,.unOp op t x,type,pos,after,guard⟩) v H':=by simp only[ev1] at q;split at q;{rename_i a;obtain⟨y,A,E⟩:=ba hx;injection A with A;subst A;cases u:Uh op a with|none=>rw[u] at q;cases q|some r=>rw[u] at q;injection q with q;injection q with F I;subst F I;cases a with|int k n=>have e:=fR E;cases op<;>simp[Uh] at u<;>subst u;{exact Gives.pure h (by simp[execOp,e,Op.unary,Op.intArith]<;>rfl) rfl};{exact Gives.pure h (by simp[execOp,e,Op.unary,Op.intBits]<;>rfl) rfl}|bool b=>have e:=kZ E;cases op<;>simp[Uh] at u;subst u;exact Gives.pure h (by simp[execOp,e,Op.unary]<;>rfl) rfl|_=>simp[Uh] at u};{cases q}
theorem UA(h:Rel P g0 μ H.get H.n w){k k0:IntKind}{s d:TypeId}{x:Operand}(hs:P.underlying s=some (.int k0))(F:P.underlying d=some (.int k))(q:ev1 (.conv k) xs lo H=some (v,H'))(hx:VRs μ xs [ρ x]):Gives P g0 lo μ H w (execOp ρ ⟨dst,.convert s d x,type,pos,after,guard⟩) v H':=by simp only[ev1] at q;split at q;{rename_i J n;injection q with q;injection q with A E;subst A E;obtain⟨y,u,I⟩:=ba hx;injection u with u;subst u;exact Gives.pure h (by simp[execOp,fR I,convert,run_underlying hs,run_underlying F,Conv.intToInt]<;>rfl) rfl};{cases q}
theorem QU(h:Rel P g0 μ H.get H.n w){t:TypeId}{d:TypeDesc}{x:Operand}(J:P.underlying t=some d)(I:∀ms,d≠.interface ms)(q:ev1 (.iface t) xs lo H=some (v,H'))(hx:VRs μ xs [ρ x]):Gives P g0 lo μ H w (execOp ρ ⟨dst,.makeInterface t x,type,pos,after,guard⟩) v H':=by simp only[ev1] at q;split at q;{rename_i a;injection q with q;injection q with A E;subst A E;obtain⟨y,u,F⟩:=ba hx;injection u with u;subst u;refine Gives.pure h (v':=.iface t (ρ x)) ?_ ⟨_,rfl,F⟩;simp_all[execOp,Instr.makeInterface,run_underlying]};{cases q}
theorem Ux(h:Rel P g0 μ H.get H.n w){f:FuncId}{q cap:Array Operand}(u:ev1 (.mkfn f q.size) xs lo H=some (v,H'))(hx:VRs μ xs ((q++cap).toList.map ρ)):Gives P g0 lo μ H w (execOp ρ ⟨dst,.makeFunc (.func f) q cap,type,pos,after,guard⟩) v H':=by simp only[ev1] at u;injection u with u;injection u with A E;subst A E;refine Gives.pure h (v':=.func (.func f) (q.map ρ) (cap.map ρ)) (by simp[execOp,Instr.makeFunc]) ⟨_,_,rfl,?_,?_⟩;{have:=hx.take q.size;simp_all[List.take,List.map_take,List.take_append]};{have:=hx.drop q.size;simp_all[List.drop,List.drop_append]}
theorem KL(h:Rel P g0 μ H.get H.n w){i:Nat}{x:Operand}(q:ev1 (.extract i) xs lo H=some (v,H'))(hx:VRs μ xs [ρ x]):Gives P g0 lo μ H w (execOp ρ ⟨dst,.extract x i,type,pos,after,guard⟩) v H':=by simp only[ev1] at q;split at q;{rename_i l;cases A:l[i]? with|none=>rw[A] at q;cases q|some r=>rw[A] at q;injection q with q;injection q with J K;subst J K;obtain⟨y,I,T⟩:=ba hx;injection I with I;subst I;obtain⟨U,e,O⟩:=T;obtain⟨u,Q,F⟩:=O.get A;have E:U[i]? =some u:=by{simpa using Q};exact Gives.pure h (v':=u) (by simp[execOp,e,Instr.extract,E]) F};{cases q}
end
section
variable {P:Program}{g0 lo:Nat}{μ:Mu}{H:Heap}{w:World}{ρ:Operand->Value}{type:TypeId}{pos:String}{dst:Option Tmp}{after:Array Edge}{guard:Option (Nat×Bool)}{xs:List IV}{v:IV}{H':Heap}
theorem uo{t:TypeId}{n:Option Nat}(h:rA P t=some n):(n=none/\(∀w:World,(isAgg t).run P w=.ok false w))\/(∃k,n=some k/\aR P t=some k/\(∀w:World,(isAgg t).run P w=.ok true w)):=by unfold rA at h;cases q:P.underlying t with|none=>simp[q] at h|some d=>cases hs:aR P t with|none=>cases d<;>simp[q,hs] at h|some k=>cases d<;>simp[q,hs] at h<;>subst h<;> first|exact .inl ⟨rfl,λw=>by simp[isAgg,run_underlying q]⟩|exact .inr ⟨k,rfl,rfl,λw=>by simp[isAgg,run_underlying q]⟩
theorem xX{t:TypeId}{n:Option Nat}(K:rA P t=some n){cs:List IV}{A:Array Value}(I:VRs μ cs A.toList){off:Nat}{r:IV}(E:off+n.getD 1<=cs.length)(u:ak n ((cs.drop off).take (n.getD 1))=some r):∃J:Value,(part t A off).run P w=.ok J w/\VR μ r J:=by rcases uo K with⟨rfl,q⟩|⟨k,rfl,hs,q⟩;{simp only[xM] at u E;have F:off<cs.length:=by{omega};have e:(cs.drop off).take 1=[cs[off]]:=by{rw[qF F];rfl};rw[e] at u;injection u with u;subst u;obtain⟨y,Q,O⟩:=I.get (i:=off) (x:=cs[off]) (b9 F);simp_all[part]};{injection u with u;subst u;refine⟨.agg (A.extract off (off+k)),by simp[part,q,bc hs],_,rfl,?_⟩;have:=(I.drop off).take k;simp_all[De]}
theorem sC{t:TypeId}{i:Nat}{f:Field}(h:lz P t i=some f):∃fs:Array Field,P.underlying t=some (.struct fs)/\fs[i]? =some f:=by grind[lz]
theorem QW(h:Rel P g0 μ H.get H.n w){t:TypeId}{x:Operand}{i:Nat}{f:Field}{n:Option Nat}(O:lz P t i=some f)(K:rA P f.type=some n)(q:ev1 (.field f.offset n) xs lo H=some (v,H'))(hx:VRs μ xs [ρ x]):Gives P g0 lo μ H w (execOp ρ ⟨dst,.field t x i,type,pos,after,guard⟩) v H':=by obtain⟨fs,Y,V⟩:=sC O;simp only[ev1] at q;split at q;{rename_i cs;split at q;{rename_i u;cases A:ak n ((cs.drop f.offset).take (n.getD 1)) with|none=>rw[A] at q;cases q|some r=>rw[A] at q;injection q with q;injection q with I J;subst I J;obtain⟨y,E,Z,e,Q⟩:=ba hx;injection E with E;subst E;obtain⟨U,F,T⟩:=xX (P:=P) (w:=w) K Q u A;exact Gives.pure h (v':=U) (by simp_all[execOp,Instr.field,run_underlying,asAgg]) T};{cases q}};{cases q}
theorem wJ(c p n:Nat):(⟨c,p,none⟩:Addr).add n=⟨c,p+n,none⟩:=by grind[Addr.add]
theorem LocR.add{b o n:Nat}{a:Addr}(h:LocR μ b o a):LocR μ b (o+n) (a.add n):=by grind[LocR,wJ,Nat.add_assoc]
theorem EB(h:Rel P g0 μ H.get H.n w){t:TypeId}{x:Operand}{i:Nat}{f:Field}{n:Nat}(F:lz P t i=some f)(hs:aR P f.type=some n)(hn:n≠0)(q:ev1 (.fieldAddr f.offset) xs lo H=some (v,H'))(hx:VRs μ xs [ρ x]):Gives P g0 lo μ H w (execOp ρ ⟨dst,.fieldAddr t x i,type,pos,after,guard⟩) v H':=by obtain⟨fs,K,J⟩:=sC F;simp only[ev1] at q;split at q;{rename_i b o;injection q with q;injection q with A E;subst A E;obtain⟨y,u,a,e,I⟩:=ba hx;injection u with u;subst u;exact Gives.pure h (v':=.pointer (some (a.add f.offset))) (by simp_all[execOp,Instr.fieldAt,run_underlying,Instr.sureAddr,fieldPlace,bc]) ⟨_,rfl,I.add⟩};{cases q}
theorem SlR.loc{b o cap:Nat}{ex:Bool}{a:Addr}(h:SlR μ b o ex cap a)(q:cap≠0):LocR μ b o a:=by grind[SlR,LocR]
theorem QV(h:Rel P g0 μ H.get H.n w){t e:TypeId}{x i:Operand}{n:Nat}(Q:P.underlying t=some (.slice e))(hs:aR P e=some n)(q:ev1 (.idxSl n) xs lo H=some (v,H'))(hx:VRs μ xs [ρ x,ρ i]):Gives P g0 lo μ H w (execOp ρ ⟨dst,.indexAddr t x i,type,pos,after,guard⟩) v H':=by simp only[ev1] at q;split at q;{rename_i b o len lb ex k j;split at q;{rename_i K;injection q with q;injection q with A F;subst A F;obtain⟨T,U,E,⟨a,cap,A,J,O⟩,I⟩:=br hx;simp only[dU,and_true] at E;obtain⟨rfl,rfl⟩:=E;have u:cap≠0:=by{obtain⟨c1,c2,_⟩:=J;omega};exact Gives.pure h (v':=.pointer (some (a.add (j.toNat*n)))) (by simp[execOp,Instr.indexAt,fR I,asIntOf,run_underlying Q,A,K,bc hs]) ⟨_,rfl,(O.loc u).add⟩};{cases q}};{cases q}
theorem CO(h:Rel P g0 μ H.get H.n w){t e:TypeId}{x i:Operand}{len n:Nat}(K:P.underlying t=some (.array len e))(hs:aR P e=some n)(q:ev1 (.idxArrAddr len n) xs lo H=some (v,H'))(hx:VRs μ xs [ρ x,ρ i]):Gives P g0 lo μ H w (execOp ρ ⟨dst,.indexAddr t x i,type,pos,after,guard⟩) v H':=by simp only[ev1] at q;split at q;{rename_i b o k j;split at q;{rename_i I;injection q with q;injection q with u E;subst u E;obtain⟨O,Q,A,⟨a,u,J⟩,F⟩:=br hx;simp only[dU,and_true] at A;obtain⟨rfl,rfl⟩:=A;exact Gives.pure h (v':=.pointer (some (a.add (j.toNat*n)))) (by simp[execOp,Instr.indexAt,fR F,asIntOf,run_underlying K,u,Instr.sureAddr,I,bc hs]) ⟨_,rfl,J.add⟩};{cases q}};{cases q}
theorem Nl(h:Rel P g0 μ H.get H.n w){t e:TypeId}{x i:Operand}{len k:Nat}{n:Option Nat}(Y:P.underlying t=some (.array len e))(hs:aR P e=some k)(T:rA P e=some n)(q:ev1 (.idxArr len k n) xs lo H=some (v,H'))(hx:VRs μ xs [ρ x,ρ i]):Gives P g0 lo μ H w (execOp ρ ⟨dst,.index t x i,type,pos,after,guard⟩) v H':=by simp only[ev1] at q;split at q;{rename_i cs kd j;split at q;{rename_i U;obtain⟨F,I,u⟩:=U;cases J:ak n ((cs.drop (j.toNat*k)).take (n.getD 1)) with|none=>rw[J] at q;cases q|some r=>rw[J] at q;injection q with q;injection q with E O;subst E O;obtain⟨y1,y2,K,⟨l',E,V⟩,Q⟩:=br hx;simp only[dU,and_true] at K;obtain⟨rfl,rfl⟩:=K;obtain⟨r',A,Z⟩:=xX (P:=P) (w:=w) T V u J;exact Gives.pure h (v':=r') (by simp[execOp,Instr.index,fR Q,asIntOf,run_underlying Y,E,F,I,bc hs,A]) Z};{cases q}};{cases q}
theorem Nj(h:Rel P g0 μ H.get H.n w){t:TypeId}{x i:Operand}(T:P.underlying t=some .string)(q:ev1 .idxStr xs lo H=some (v,H'))(hx:VRs μ xs [ρ x,ρ i]):Gives P g0 lo μ H w (execOp ρ ⟨dst,.index t x i,type,pos,after,guard⟩) v H':=by simp only[ev1] at q;split at q;{rename_i s kd j;split at q;{rename_i Q;cases hs:s[j.toNat]? with|none=>rw[hs] at q;cases q|some c=>rw[hs] at q;injection q with q;injection q with I J;subst I J;obtain⟨U,V,F,K,O⟩:=br hx;simp only[dU,and_true] at F;obtain⟨rfl,rfl⟩:=F;have A:(ByteArray.mk ⟨s⟩:ByteArray)[j.toNat]? =some c:=by{obtain⟨E,A⟩:=List.getElem?_eq_some_iff.1 hs;have u:j.toNat<(ByteArray.mk ⟨s⟩).size:=E;rw[getElem?_pos (ByteArray.mk ⟨s⟩) j.toNat u];exact congrArg some A};exact Gives.pure h (v':=.int .u8 c.toNat) (by simp[execOp,Instr.index,fR O,asIntOf,run_underlying T,wK K,Q,A]) rfl};{cases q}};{cases q}
theorem QT(h:Rel P g0 μ H.get H.n w){t e:TypeId}{args:Array Operand}{ts:Array TypeId}(F:ts=#[t])(I:P.underlying t=some (.slice e))(u:ev1 .lenSl xs lo H=some (v,H'))(hx:VRs μ xs (args.toList.map ρ)):Gives P g0 lo μ H w (execOp ρ ⟨dst,.call ⟨.builtin .len,args,ts⟩,type,pos,after,guard⟩) v H':=by simp only[ev1] at u;split at u;{rename_i x;obtain⟨y,K,J⟩:=ba hx;have q:args.map ρ=#[y]:=by{grind};subst F;cases x with|nilSlice=>injection u with u;injection u with A E;subst A E;cases J;exact Gives.pure h (v':=.int .i64 0) (by simp[execOp,resolve,invoke,builtin,q,Builtin.len_,run_underlying I,goInt]) rfl|slice b o n lb ex=>injection u with u;injection u with A E;subst A E;obtain⟨a,c,rfl,_⟩:=J;exact Gives.pure h (v':=.int .i64 n) (by simp[execOp,resolve,invoke,builtin,q,Builtin.len_,run_underlying I,goInt]) rfl|_=>simp at u};{cases u}
theorem Ng(h:Rel P g0 μ H.get H.n w){t:TypeId}{args:Array Operand}{ts:Array TypeId}(A:ts=#[t])(I:P.underlying t=some .string)(u:ev1 .lenStr xs lo H=some (v,H'))(hx:VRs μ xs (args.toList.map ρ)):Gives P g0 lo μ H w (execOp ρ ⟨dst,.call ⟨.builtin .len,args,ts⟩,type,pos,after,guard⟩) v H':=by simp only[ev1] at u;split at u;{rename_i s;injection u with u;injection u with E F;subst E F;obtain⟨y,K,J⟩:=ba hx;have q:args.map ρ=#[y]:=by{grind};subst A;cases J;have e:(ByteArray.mk ⟨s⟩).size=s.length:=rfl;exact Gives.pure h (v':=.int .i64 s.length) (by simp[execOp,resolve,invoke,builtin,q,Builtin.len_,run_underlying I,goInt,e]) rfl};{cases u}
theorem Ni(h:Rel P g0 μ H.get H.n w){t e:TypeId}{n:Nat}{args:Array Operand}{ts:Array TypeId}(A:ts=#[t])(I:P.underlying t=some (.array n e))(u:ev1 (.lenArr n) xs lo H=some (v,H'))(hx:VRs μ xs (args.toList.map ρ)):Gives P g0 lo μ H w (execOp ρ ⟨dst,.call ⟨.builtin .len,args,ts⟩,type,pos,after,guard⟩) v H':=by simp only[ev1] at u;split at u;{injection u with u;injection u with E F;subst E F;obtain⟨y,K,J⟩:=ba hx;have q:args.map ρ=#[y]:=by{grind};subst A;exact Gives.pure h (v':=.int .i64 n) (by simp[execOp,resolve,invoke,builtin,q,Builtin.len_,run_underlying I,goInt]) rfl};{cases u}
theorem Wj(h:Rel P g0 μ H.get H.n w){t e:TypeId}{args:Array Operand}{ts:Array TypeId}(F:ts=#[t])(I:P.underlying t=some (.slice e))(u:ev1 .cap xs lo H=some (v,H'))(hx:VRs μ xs (args.toList.map ρ)):Gives P g0 lo μ H w (execOp ρ ⟨dst,.call ⟨.builtin .cap,args,ts⟩,type,pos,after,guard⟩) v H':=by simp only[ev1] at u;split at u;{rename_i x;obtain⟨y,O,J⟩:=ba hx;have q:args.map ρ=#[y]:=by{grind};subst F;cases x with|nilSlice=>injection u with u;injection u with A E;subst A E;cases J;exact Gives.pure h (v':=.int .i64 0) (by simp[execOp,resolve,invoke,builtin,q,Builtin.cap_,run_underlying I,goInt]) rfl|slice b o n lb ex=>(cases ex with|false=>simp at u|true=>injection u with u;injection u with A E;subst A E;obtain⟨a,c,rfl,K,_⟩:=J;have:c=lb:=K.2.2.2 rfl;subst this;exact Gives.pure h (v':=.int .i64 c) (by simp[execOp,resolve,invoke,builtin,q,Builtin.cap_,run_underlying I,goInt]) rfl)|_=>simp at u};{cases u}
theorem Wh(h:Rel P g0 μ H.get H.n w){args:Array Operand}{ts:Array TypeId}(q:ev1 .min xs lo H=some (v,H'))(hx:VRs μ xs (args.toList.map ρ)):Gives P g0 lo μ H w (execOp ρ ⟨dst,.call ⟨.builtin .min,args,ts⟩,type,pos,after,guard⟩) v H':=by simp only[ev1] at q;split at q;{rename_i k a J b;split at q;{injection q with q;injection q with A E;subst A E;obtain⟨O,Q,K,F,I⟩:=br hx;cases F;cases I;have u:args.map ρ=#[.int k a,.int J b]:=by{grind};exact Gives.pure h (v':=.int k (if b<a then b else a)) (by simp[execOp,resolve,invoke,builtin,u,Builtin.min_,Builtin.min2]) rfl};{cases q}};{cases q}
theorem Wi(h:Rel P g0 μ H.get H.n w){args:Array Operand}{ts:Array TypeId}(q:ev1 .max xs lo H=some (v,H'))(hx:VRs μ xs (args.toList.map ρ)):Gives P g0 lo μ H w (execOp ρ ⟨dst,.call ⟨.builtin .max,args,ts⟩,type,pos,after,guard⟩) v H':=by simp only[ev1] at q;split at q;{rename_i k a J b;split at q;{injection q with q;injection q with A E;subst A E;obtain⟨O,Q,K,F,I⟩:=br hx;cases F;cases I;have u:args.map ρ=#[.int k a,.int J b]:=by{grind};exact Gives.pure h (v':=.int k (if b>a then b else a)) (by simp[execOp,resolve,invoke,builtin,u,Builtin.max_,Builtin.max2]) rfl};{cases q}};{cases q}
theorem dg{y i:Nat}{x:IV}{u:Value}(h:ci y x=some i)(A:VR μ x u)(c:BoundsCode)(q:Nat)(F:y<=q)(w:World):(Instr.sliceBound u q c).run P w=.ok i w/\i<=y:=by cases x with|int k n=>cases A;simp only[ci] at h;split at h;{rename_i hn;injection h with h;subst h;have E:0<=n/\n<=(q:Int):=by{omega};simp_all[Instr.sliceBound,asIntOf]};{cases h}|_=>simp[ci] at h
theorem ni{isSl:Bool}{len I cap:Nat}{l:List IV}{a b:Nat}{m:Option Nat}{U Y mx:Option Operand}(A:bx len I U.isSome Y.isSome mx.isSome l=some (a,b,m))(Z:len<=I)(hc:I<=cap)(hv:VRs μ l ((U.toArray++Y.toArray++mx.toArray).toList.map ρ))(w:World):(Instr.sliceBounds isSl len cap (U.map ρ) (Y.map ρ) (mx.map ρ)).run P w=.ok (a,b,m.getD cap) w/\a<=b/\b<=m.getD I/\(∀k,m=some k->k<=I):=by cases U with|none=>(cases Y with|none=>(cases mx with|none=>(match l,A with|[],A=>injection A with A;simp only[ik] at A;obtain⟨rfl,rfl,rfl⟩:=A;exact⟨by simp[Instr.sliceBounds],by omega,by simpa using Z,λ_ h=>by cases h⟩)|some z=>simp[bx] at A)|some y=>cases mx with|none=>(match l,A with|[V],A=>obtain⟨u,K,F⟩:=ba hv;simp at K;subst K;simp only[bx,tI,xR] at A;cases E:ci I V with|none=>rw[E] at A;cases A|some i=>rw[E] at A;injection A with A;simp only[ik] at A;obtain⟨rfl,rfl,rfl⟩:=A;have T:=dg (P:=P) E F;exact⟨by simp_all[Instr.sliceBounds],by omega,by simpa using (T .index cap hc w).2,λ_ h=>by cases h⟩)|some z=>match l,A with|[V,x2],A=>obtain⟨u,u2,K,F,J⟩:=br hv;simp at K;obtain⟨rfl,rfl⟩:=K;simp only[bx,tI,xR] at A;cases O:ci I x2 with|none=>rw[O] at A;cases A|some j=>rw[O] at A;simp only[bC] at A;cases E:ci j V with|none=>rw[E] at A;cases A|some i=>rw[E] at A;injection A with A;simp only[ik] at A;obtain⟨rfl,rfl,rfl⟩:=A;have T:=dg (P:=P) E F;have Q:=dg (P:=P) O J;exact⟨by simp_all[Instr.sliceBounds,an],by omega,by simpa using (T .index j (an _) w).2,λk h=>by injection h with h;subst h;exact(Q .index cap hc w).2⟩)|some q=>cases Y with|none=>(cases mx with|none=>(match l,A with|[V],A=>obtain⟨u,K,F⟩:=ba hv;simp at K;subst K;simp only[bx,tI,xR] at A;cases E:ci len V with|none=>rw[E] at A;cases A|some i=>rw[E] at A;injection A with A;simp only[ik] at A;obtain⟨rfl,rfl,rfl⟩:=A;have T:=dg (P:=P) E F;exact⟨by simp_all[Instr.sliceBounds,an],by simpa using (T .index len (an _) w).2,by simpa using Z,λ_ h=>by cases h⟩)|some z=>simp[bx] at A)|some y=>cases mx with|none=>(match l,A with|[V,x2],A=>obtain⟨u,u2,K,F,J⟩:=br hv;simp at K;obtain⟨rfl,rfl⟩:=K;simp only[bx,tI,xR] at A;cases O:ci I x2 with|none=>rw[O] at A;cases A|some j=>rw[O] at A;simp only[bC] at A;cases E:ci j V with|none=>rw[E] at A;cases A|some i=>rw[E] at A;injection A with A;simp only[ik] at A;obtain⟨rfl,rfl,rfl⟩:=A;have T:=dg (P:=P) E F;have Q:=dg (P:=P) O J;exact⟨by simp_all[Instr.sliceBounds,an],(T .index j (an _) w).2,by simpa using (Q .index cap hc w).2,λ_ h=>by cases h⟩)|some z=>match l,A with|[V,x2,x3],A=>obtain⟨u,u2,u3,K,F,J,ad⟩:=nm hv;simp at K;obtain⟨rfl,rfl,rfl⟩:=K;simp only[bx,tI,xR] at A;cases h3:ci I x3 with|none=>rw[h3] at A;cases A|some k=>rw[h3] at A;simp only[bC] at A;cases O:ci k x2 with|none=>rw[O] at A;cases A|some j=>rw[O] at A;simp only[bC] at A;cases E:ci j V with|none=>rw[E] at A;cases A|some i=>rw[E] at A;injection A with A;simp only[ik] at A;obtain⟨rfl,rfl,rfl⟩:=A;have T:=dg (P:=P) E F;have Q:=dg (P:=P) O J;have ag:=dg (P:=P) h3 ad;exact⟨by simp_all[Instr.sliceBounds,an],(T .index j (an _) w).2,by simpa using (Q .index k (an _) w).2,λk' h=>by injection h with h;subst h;exact(ag .index cap hc w).2⟩
end
section
variable {P:Program}{g0 lo:Nat}{μ:Mu}{H:Heap}{w:World}{ρ:Operand->Value}{type:TypeId}{pos:String}{dst:Option Tmp}{after:Array Edge}{guard:Option (Nat×Bool)}{xs:List IV}{v:IV}{H':Heap}
theorem lE(t:TypeId)(x:Operand)(a b c:Option Operand):(Op.slice t x a b c).operands.toList.map ρ=ρ x::((a.toArray++b.toArray++c.toArray).toList.map ρ):=by simp[Op.operands]
theorem LF(h:Rel P g0 μ H.get H.n w){b c p ez z size:Nat}(q:It H b size=true)(E:μ b=.at c p ez z):ez=0\/ez=size:=by unfold It at q;obtain⟨o,F,u⟩:=h.obj b c p ez z E;rw[F] at q;cases o with|cells I e A cs=>cases I;{simp at q;right;rw[u.2.1,q]};{left;exact u.1}|_=>simp at q
theorem Wg(h:Rel P g0 μ H.get H.n w){t e:TypeId}{x:Operand}{a b c:Option Operand}{n:Nat}(hu:P.underlying t=some (.slice e))(hs:aR P e=some n)(u:ev1 (.slc n a.isSome b.isSome c.isSome) xs lo H=some (v,H'))(hx:VRs μ xs ((Op.slice t x a b c).operands.toList.map ρ)):Gives P g0 lo μ H w (execOp ρ ⟨dst,.slice t x a b c,type,pos,after,guard⟩) v H':=by rw[lE] at hx;simp only[ev1] at u;split at u;{rename_i s l;obtain⟨y,ys,hy,hv,hl⟩:=hx;simp only[dU] at hy;obtain⟨rfl,rfl⟩:=hy;cases s with|nilSlice=>(simp only at u;cases T:bx 0 0 a.isSome b.isSome c.isSome l with|none=>rw[T] at u;cases u|some r=>obtain⟨i,j,m⟩:=r;rw[T] at u;simp only[bC] at u;split at u;{rename_i ap;obtain⟨rfl,rfl⟩:=ap;injection u with u;injection u with Q K;subst Q K;obtain⟨F,_,_,hm⟩:=ni (P:=P) (isSl:=true) T (an _) (an 0) hl w;have a1:m.getD 0=0:=by{cases m with|none=>rfl|some k=>have:=hm k rfl;simp;omega};rw[a1] at F;have a4:ρ x=.slice none 0 0:=hv;exact Gives.pure h (v':=.slice none 0 0) (by simp[execOp,Instr.sliceAt,run_underlying hu,Instr.slice,a4,F,bc hs]) rfl};{cases u})|slice bl o len lb ex=>simp only at u;split at u;{rename_i ag;cases T:bx len lb a.isSome b.isSome c.isSome l with|none=>rw[T] at u;cases u|some r=>obtain⟨i,j,m⟩:=r;rw[T] at u;obtain⟨ad,cap,aE,⟨c1,c2,c3,c4⟩,E⟩:=hv;obtain⟨F,ap,I,hm⟩:=ni (P:=P) (isSl:=true) T c1 c2 hl w;have A:(execOp ρ ⟨dst,.slice t x a b c,type,pos,after,guard⟩).run P w=.ok (.value (.slice (some (if m.getD cap=i then ad else ad.add (i*n))) (j - i) (m.getD cap - i))) w:=by{simp only[execOp];simp[Instr.sliceAt,run_underlying hu,Instr.slice,aE,F,bc hs];split<;>rfl};have J:∀ex':Bool,(ex'=false->ex=false/\m=none)->SlR μ bl (o+i*n) ex' (m.getD cap - i) (if m.getD cap=i then ad else ad.add (i*n)):=by{intro ex' Y;unfold SlR at E⊢;cases U:μ bl with|no=>rw[U] at E;exact E|dead=>trivial|«at» q p ez z=>rw[U] at E;simp only at E⊢;refine⟨?_,λQ K=>?_⟩;{by_cases a2:m.getD cap=i;{left;omega};{right;rw[if_neg a2];have a5:m.getD cap<=cap:=by{cases m with|none=>exact an _|some k=>have:=hm k rfl;simp;omega};have a0:i<=m.getD cap:=by{cases m with|none=>simp at I⊢;omega|some k=>simp at I⊢;omega};have V:cap≠0:=by{omega};rw[E.1.resolve_left V,wJ,jW]}};{obtain⟨Z,a3⟩:=Y Q;subst Z a3;simp only[Bool.false_or] at ag;rcases LF h ag U with h0|h0;{exact absurd h0 K};{subst h0;have:=E.2 rfl K;simp only[xM] at I⊢;have a0:i<=cap:=by{omega};have:(cap - i)*ez+i*ez=cap*ez:=by{rw[<-qS];congr 1;omega};omega}}};cases m with|none=>simp only[fH] at u;injection u with u;injection u with Q K;subst Q K;have O:=J ex λe=>⟨e,rfl⟩;simp only[xM] at A O I;exact Gives.pure h A ⟨_,_,rfl,⟨by omega,by omega,by omega,λe=>by have:=c4 e;omega⟩,O⟩|some k=>simp only[fH] at u;injection u with u;injection u with Q K;subst Q K;simp only[gl] at A J I;have:=hm k rfl;exact Gives.pure h A ⟨_,_,rfl,⟨by omega,an _,by omega,λ_=>rfl⟩,J true λe=>by cases e⟩};{cases u}|_=>simp at u};{cases u}
theorem Na(h:Rel P g0 μ H.get H.n w){t:TypeId}{x:Operand}{a b:Option Operand}(U:P.underlying t=some .string)(q:ev1 (.slcStr a.isSome b.isSome) xs lo H=some (v,H'))(hx:VRs μ xs ((Op.slice t x a b none).operands.toList.map ρ)):Gives P g0 lo μ H w (execOp ρ ⟨dst,.slice t x a b none,type,pos,after,guard⟩) v H':=by rw[lE] at hx;simp only[ev1] at q;split at q;{rename_i s l;obtain⟨y,ys,F,T,Q⟩:=hx;simp only[dU] at F;obtain⟨rfl,rfl⟩:=F;cases u:bx s.length s.length a.isSome b.isSome false l with|none=>rw[u] at q;cases q|some r=>obtain⟨i,j,m⟩:=r;rw[u] at q;injection q with q;injection q with I J;subst I J;obtain⟨A,K,O,hm⟩:=ni (P:=P) (isSl:=false) (mx:=none) (cap:=s.length) u (an _) (an _) Q w;have E:=wK T;have e:(ByteArray.mk ⟨s⟩).size=s.length:=rfl;refine Gives.pure h (v':=.string ((ByteArray.mk ⟨s⟩).extract i j)) ?_ ?_;{simp_all[execOp,Option.map_none,Instr.sliceAt,run_underlying,Instr.slice]};{exact congrArg Value.string (po (by rw[Lib.extract_data]))}};{cases q}
theorem Nb(h:Rel P g0 μ H.get H.n w){t e:TypeId}{x:Operand}{a b c:Option Operand}{k n:Nat}(hu:P.underlying t=some (.array k e))(hs:aR P e=some n)(q:ev1 (.slcArr e k n a.isSome b.isSome c.isSome) xs lo H=some (v,H'))(hx:VRs μ xs ((Op.slice t x a b c).operands.toList.map ρ)):Gives P g0 lo μ H w (execOp ρ ⟨dst,.slice t x a b c,type,pos,after,guard⟩) v H':=by rw[lE] at hx;simp only[ev1] at q;split at q;{rename_i bl o l;obtain⟨y,ys,K,Z,V⟩:=hx;simp only[dU] at K;obtain⟨rfl,rfl⟩:=K;cases E:bx k k a.isSome b.isSome c.isSome l with|none=>rw[E] at q;cases q|some r=>obtain⟨i,j,m⟩:=r;rw[E] at q;simp only[bC] at q;split at q;{rename_i hk;injection q with q;injection q with O Q;subst O Q;obtain⟨F,J,A⟩:=Z;obtain⟨I,T,U,hm⟩:=ni (P:=P) (isSl:=false) E (an _) (an _) V w;have Y:m.getD k<=k:=by{cases m<;>grind};refine Gives.pure h (v':=.slice (some (if m.getD k=i then F else F.add (i*n))) (j - i) (m.getD k - i)) ?_ ⟨_,_,rfl,⟨by omega,an _,by omega,λ_=>rfl⟩,?_⟩;{simp_all[execOp,Instr.sliceAt,run_underlying,Instr.sureAddr,bc]};{have u:=A.add (n:=i*n);unfold SlR;unfold LocR at u;grind}};{cases q}};{cases q}
end
section
variable {P:Program}{g0 lo:Nat}{μ:Mu}{H:Heap}{w:World}{ρ:Operand->Value}{type:TypeId}{pos:String}{dst:Option Tmp}{after:Array Edge}{guard:Option (Nat×Bool)}{xs:List IV}{v:IV}{H':Heap}
theorem cR:∀(cs:List IV)(o:Nat)(vs:List IV),o+vs.length<=cs.length->aw cs o vs=cs.take o++vs++cs.drop (o+vs.length)|[],o,vs,h=>by have q:o=0:=by{rw[eD] at h;omega};have u:vs=[]:=by{rw[eD] at h;exact List.length_eq_zero_iff.1 (by omega)};subst q u;rfl|c::cs,0,[],_=>by simp[aw]|c::cs,0,v::vs,h=>by simp only[aw];rw[cR cs 0 vs (by simp at h;omega)];simp|c::cs,o+1,vs,h=>by simp only[aw];rw[cR cs o vs (by simp at h;omega)];simp[Nat.add_right_comm]
theorem qs(cs:List IV)(o:Nat)(vs:List IV)(h:o+vs.length<=cs.length):(aw cs o vs).length=cs.length:=by grind[cR]
theorem Fx(off:Nat):∀(vs:List Value)(k:Nat)(cells:Array Value),off+k+vs.length<=cells.size->((vs.zipIdx k).foldl (λcs x=>cs.setIfInBounds (off+x.2) x.1) cells).toList=cells.toList.take (off+k)++vs++cells.toList.drop (off+k+vs.length)|[],k,cells,_=>by simp|v::vs,k,cells,h=>by simp only[List.zipIdx_cons,qZ];rw[Fx off vs (k+1) _ (by simp at h⊢;omega)];have e:=list_seg_step cells.toList (off+k) v vs (by simp at h⊢;omega);simpa [uU,jW] using e
theorem oP(place:Nat->Option (Nat×Nat)):∀(parts:List (Nat×Operand))(A:List (Nat×Nat))(xs cs r:List IV)(q:Array Value),parts.mapM (λp=>place p.1)=some A->VRs μ xs (parts.map λp=>ρ p.2)->VRs μ cs q.toList->ca A xs cs=some r->∃V:Array Value,Instr.fill place q (parts.map λp=>(p.1,ρ p.2))=some V/\VRs μ r V.toList:=by intro parts;induction parts with|nil=>(intro A xs cs r q E hx J F;simp at E;subst E;cases xs with|nil=>simp[ca] at F;subst F;exact⟨q,rfl,J⟩|cons=>simp[ca] at F)|cons p parts ih=>intro A xs cs r q E hx J F;simp only[qY] at E;cases Y:place p.1 with|none=>rw[Y] at E;cases E|some pl=>obtain⟨off,size⟩:=pl;rw[Y] at E;cases T:parts.mapM (λp=>place p.1) with|none=>rw[T] at E;cases E|some I=>rw[T] at E;injection E with E;subst E;cases xs with|nil=>simp[ca] at F|cons x xs=>obtain⟨y,ys,Z,hv,U⟩:=hx;simp only[aX,dU] at Z;obtain⟨rfl,rfl⟩:=Z;simp only[ca] at F;split at F;{rename_i ap;have u:=hv.cells_;have hl:=u.length;have Q:x.cells.length=(ρ p.2).cells.size:=by{simpa using hl};have ad:cs.length=q.size:=by{simpa using J.length};have O:((ρ p.2).cells.size≠size||off+(ρ p.2).cells.size>q.size)=false:=by{have h1:(ρ p.2).cells.size=size:=by{omega};simp[h1];omega};have K:VRs μ (aw cs off x.cells) ((ρ p.2).cells.zipIdx.foldl (λcs x=>cs.setIfInBounds (off+x.2) x.1) q).toList:=by{rw[<-Array.foldl_toList,Array.toList_zipIdx,Fx off _ 0 q (by simp;omega),cR cs off x.cells (by omega)];simp only[mR];rw[show off+(ρ p.2).cells.toList.length=off+x.cells.length by simp[Q]];exact((J.take off).append u).append (J.drop _)};obtain⟨V,ag,aE⟩:=ih I xs _ r _ T U K F;simp_all[aX,Instr.fill,if_neg]};{cases F}
theorem Fb{α q:Type}(F:α->Sem q)(G:α->q)(w:World):∀l:List α,(∀f∈l,(F f).run P w=.ok (G f) w)->(l.mapM F).run P w=.ok (l.map G) w|[],_=>by simp|f::l,h=>by have u:=h f (by simp);have A:=Fb F G w l λg E=>h g (by simp[E]);simp[u,A]
theorem HP{fs:Array Field}(hall:(fs.all fun f=>(aR P f.type).isSome)=true)(F:Field→Sem (Nat×Nat))(hF:∀f,F f=(do pure (f.offset,←sizeOf f.type)))(w:World):
  (fs.mapM F).run P w=.ok (fs.map fun f=>(f.offset,(aR P f.type).getD 0)) w:=by
 rw[Array.mapM_eq_mapM_toList]
 have hk:=Fb (P:=P) F (fun f=>(f.offset,(aR P f.type).getD 0)) w fs.toList (fun f hf=>by
  rw[Array.all_eq_true_iff_forall_mem] at hall;have h1:=hall f (by simpa using hf)
  cases hs:aR P f.type with
  | none=>rw[hs] at h1;cases h1
  | some n=>rw[hF];simp[bc hs])
 simp[hk];apply qR;simp
theorem QZ(h:Rel P g0 μ H.get H.n w){t:TypeId}{I:Array (Nat×Operand)}{kd:Kd}(q:cp P (.build t I)=some kd)(A:ev1 kd xs lo H=some (v,H'))(hx:VRs μ xs ((Op.build t I).operands.toList.map ρ)):Gives P g0 lo μ H w (execOp ρ ⟨dst,.build t I,type,pos,after,guard⟩) v H':=by have V:(Op.build t I).operands.toList.map ρ=I.toList.map λp=>ρ p.2:=by{simp[Op.operands]};rw[V] at hx;simp only[cp] at q;cases Z:P.underlying t with|none=>rw[Z] at q;cases q|some d=>rw[Z] at q;cases d with|struct fs=>simp only at q;split at q;{rename_i U;cases K:rc (λi=>(fs[i]?).bind λf=>(aR P f.type).map λn=>(f.offset,n)) I with|none=>rw[K] at q;cases q|some u=>rw[K] at q;cases Q:iz P t with|none=>simp[Q] at q|some z=>simp[Q] at q;subst q;simp only[ev1] at A;cases J:ca u xs z.cells with|none=>rw[J] at A;cases A|some cs=>rw[J] at A;injection A with A;injection A with e1 e2;subst e1 e2;obtain⟨i,zv,hi,T,O⟩:=jd Q;obtain⟨Y,F,hv⟩:=oP (ρ:=ρ) (μ:=μ) (λi=>(fs[i]?).bind λf=>(aR P f.type).map λn=>(f.offset,n)) I.toList u xs z.cells cs zv.cells K hx (O μ).cells_ J;have E:(λi:Nat=>(fs[i]?).bind λf=>(aR P f.type).map λn=>(f.offset,n))=λi:Nat=>Option.map (λf:Field=>(f.offset,(aR P f.type).getD 0)) fs[i]?:=by{funext i;cases ag:fs[i]? with|none=>rfl|some f=>have:(aR P f.type).isSome=true:=by{grind};cases hs:aR P f.type with|none=>rw[hs] at this;cases this|some n=>simp[hs]};rw[E] at F;refine Gives.pure h (v':=.agg Y) ?_ ⟨Y,rfl,hv⟩;have ad:=HP U (λf=>Prod.mk f.offset <$>sizeOf f.type) (λf=>by simp) w;simp only[execOp,Instr.build];simp[zeroValue,typeInfo,hi,T,run_underlying Z,ad,F]};{cases q}|array k e=>(simp only at q;cases hs:aR P e with|none=>rw[hs] at q;cases q|some n=>rw[hs] at q;simp only[bC] at q;cases K:rc (λi=>some (i*n,n)) I with|none=>rw[K] at q;cases q|some u=>rw[K] at q;cases Q:iz P t with|none=>simp[Q] at q|some z=>simp[Q] at q;subst q;simp only[ev1] at A;cases J:ca u xs z.cells with|none=>rw[J] at A;cases A|some cs=>rw[J] at A;injection A with A;injection A with e1 e2;subst e1 e2;obtain⟨i,zv,hi,T,O⟩:=jd Q;obtain⟨Y,F,hv⟩:=oP (ρ:=ρ) (μ:=μ) (λi=>some (i*n,n)) I.toList u xs z.cells cs zv.cells K hx (O μ).cells_ J;refine Gives.pure h (v':=.agg Y) ?_ ⟨Y,rfl,hv⟩;simp only[execOp,Instr.build];simp[zeroValue,typeInfo,hi,T,run_underlying Z,bc hs,F])|_=>simp at q
theorem Vp{u:Bool}{e ez:Nat}{cs:List IV}{q:Array Value}(A:VRs μ cs q.toList)(F:u=false):ObjR P μ (.cells u e ez cs) 0 ez q.size (some (.cells q e (0,0))):=by subst F;have E:=A.length;refine⟨rfl,rfl,q,rfl,rfl,by simp at E;omega,?_⟩;grind
theorem p8(h:Rel P g0 μ H.get H.n w){e ez:Nat}{cs:List IV}{q:Array Value}(K:VRs μ cs q.toList){w':World}(O:w'.heap=w.heap.push (.cells q e (0,0)))(E:w'.os=w.os)(F:w'.tape=w.tape)(I:w'.output=w.output)(J:w.drawn<=w'.drawn:=by first|exact an _|exact qT _|assumption|(simp;done)|omega):∃u:Mu,μ.le u/\u H.n=.at w.heap.size 0 ez q.size/\Rel P g0 u (H.new (.cells false e ez cs)).get (H.new (.cells false e ez cs)).n w'/\ Post lo μ H.get H.n w u (H.new (.cells false e ez cs)).get (H.new (.cells false e ez cs)).n w':=by have A:=μ.le_upd (.at w.heap.size 0 ez q.size) h.fresh;obtain⟨a,b⟩:=h.alloc (lo:=lo) (o:=.cells false e ez cs) (ez:=ez) (z:=q.size) O (Vp (VRs.mono A _ _ K) rfl) E F I J;grind[aA]
theorem JB{q:Mu}{c ez z n:Nat}(h:q n=.at c 0 ez z):VR q (.ptr n 0) (.pointer (some ⟨c,0,none⟩)):=⟨_,rfl,by unfold LocR;rw[h]⟩
theorem Q0(h:Rel P g0 μ H.get H.n w){e n:Nat}{z:IV}(O:iz P e=some z)(q:ev1 (.alloc e n z.cells) xs lo H=some (v,H')):Gives P g0 lo μ H w (execOp ρ ⟨dst,.alloc e,type,pos,after,guard⟩) v H':=by simp only[ev1] at q;split at q;{injection q with q;injection q with E F;subst E F;obtain⟨i,T,U,Q,u⟩:=jd O;obtain⟨A,I,hn,K,J⟩:=p8 (lo:=lo) (e:=e) (ez:=n) h (u μ).cells_ (w':={w with heap:=w.heap.push (.cells T.cells e (0,0))}) rfl rfl rfl rfl;exact⟨_,_,_,A,by simp_all[execOp,Instr.alloc,zeroValue,typeInfo,newVar,newRow,newObj,Sem.run],.inl rfl,K,J,JB hn⟩};{cases q}
end
end Go.Iso
