/-
  values, heaps, the evaluator of isolated heaps, and its first operations: each run of the evaluator stands for a run of the model.
-/
import Derived.Orders
import Derived.Laws.CopyRow
import Derived.Laws.AppendOwn
import Derived.Deep.AppendSrc
import Derived.Laws.MakeOwn
import Derived.ChangeKeysEq
import Derived.Laws.Strings
import Derived.Lib.SmallJoins
import Derived.Lib.Split
set_option linter.unusedSimpArgs false
set_option linter.unusedVariables false
set_option linter.defProp false
namespace Go.Iso
def BV{A B C D E F:Sort _}{a:A}{b:B}{c:C}{d:D}{e:E}{f:F}:a=a/\b=b/\c=c/\d=d/\e=e/\f=f:=⟨rfl,rfl,rfl,rfl,rfl,rfl⟩
abbrev aq:=@Nat.le_refl
abbrev ao:=@And.intro
abbrev bG:=@List.getD_eq_getElem?_getD.{0}
abbrev aW:=@List.length_append.{0}
abbrev bO:=@List.getElem?_eq_getElem.{0}
abbrev aQ:=@List.getElem_mem.{0}
abbrev aM:=@List.map_cons.{0,0}
abbrev eP:=@List.take_succ_eq_append_getElem.{0}
abbrev bi:=@List.length_map.{0,0}
abbrev dG:=@List.take_of_length_le.{0}
abbrev aJ:=@List.map_nil.{0,0}
abbrev bF:=@Option.bind_some.{0,0}
abbrev bE:=@List.length_set.{0}
abbrev bP:=@Bool.and_eq_true
abbrev cj:=@Nat.lt_of_lt_of_le
abbrev ci:=@List.append_assoc.{0}
abbrev cv:=@List.length_cons.{0}
abbrev bp:=@Nat.mul_one
abbrev fh:=@Option.bind_eq_some_iff.{0,0}
abbrev cE:=@List.length_nil.{0}
abbrev fg:=@Option.map_eq_some_iff.{0,0}
abbrev eS:=@List.mem_cons_of_mem.{0}
abbrev du:=@List.getElem_map.{0,0}
abbrev dt:=@List.append_nil.{0}
abbrev dW:=@Option.getD_some.{0}
abbrev eR:=@List.getElem?_map.{0,0}
abbrev dV:=@Option.map_some.{0,0}
abbrev j3:=@List.mem_or_eq_of_mem_set.{0}
abbrev eQ:=@List.ext_getElem.{0}
abbrev gK:=@List.flatten_append.{0}
abbrev gJ:=@List.mem_map_of_mem.{0,0}
abbrev cV:=@Nat.zero_add
abbrev ij:=@List.getElem_set_ne.{0}
abbrev dq:=@Nat.le_trans
abbrev dp:=@Nat.lt_or_ge
abbrev jk:=@List.getElem?_eq_none.{0}
abbrev fB:=@List.length_take.{0}
abbrev ii:=@Bool.false_eq_true
abbrev gI:=@List.flatten_cons.{0}
abbrev fW:=@List.cons.injEq.{0}
abbrev eD:=@Nat.succ_mul
abbrev ig:=@List.cons_append.{0}
abbrev dI:=@Nat.zero_le
abbrev gH:=@List.map_append.{0,0}
abbrev lY:=@List.getElem_set_self.{0}
abbrev ie:=@List.nil_append.{0}
abbrev nV:=@List.take_append_drop.{0}
abbrev qL:=@List.drop_eq_getElem_cons.{0}
abbrev lX:=@List.getElem_mapIdx.{0,0}
abbrev nU:=@Nat.mul_le_mul_right
abbrev fU:=@Nat.le_of_lt
abbrev li:=@Option.some.injEq.{0}
abbrev nT:=@List.length_reverse.{0}
abbrev iO:=@Prod.mk.injEq.{0,0}
abbrev vI:=@Array.toList_setIfInBounds.{0}
abbrev lW:=@List.length_drop.{0}
abbrev j2:=@Nat.add_assoc
abbrev lV:=@Bool.or_eq_true
abbrev qK:=@Array.length_toList.{0}
abbrev oM:=@List.foldl_append.{0,0}
abbrev oL:=@Int.toNat_natCast
abbrev yi:=@List.getElem?_append_right.{0}
abbrev qJ:=@List.mem_cons_self.{0}
abbrev yh:=@List.getElem?_append_left.{0}
abbrev yg:=@Array.getElem?_eq_getElem.{0}
abbrev sM:=@Option.bind_eq_bind.{0}
abbrev lU:=@List.all_cons.{0}
abbrev vH:=@List.eq_nil_or_concat.{0}
abbrev vG:=@List.concat_eq_append.{0}
abbrev yf:=@List.getElem?_cons_zero.{0}
abbrev KN:=@Array.getElem?_setIfInBounds_self_of_lt.{0}
abbrev sK:=@List.nodup_append.{0}
abbrev qI:=@List.mem_append.{0}
abbrev Bo:=@List.pairwise_iff_getElem.{0}
abbrev Bn:=@List.getElem_append_right.{0}
abbrev ye:=@List.length_singleton.{0}
abbrev FU:=@List.take_append_of_le_length.{0}
abbrev vF:=@Nat.lt_or_gt_of_ne
abbrev sJ:=@List.all_eq_true.{0}
abbrev nS:=@List.map_map.{0,0,0}
abbrev oK:=@List.mem_cons.{0}
abbrev qH:=@List.drop_drop.{0}
abbrev qG:=@List.drop_zero.{0}
abbrev yc:=@List.mem_of_mem_take.{0}
abbrev Bm:=@Nat.add_sub_cancel_left
abbrev Bl:=@List.pairwise_mergeSort.{0}
abbrev sI:=@List.foldl_cons.{0,0}
abbrev FT:=@Array.getD_eq_getD_getElem?.{0}
abbrev x9:=@Array.toList_append.{0}
abbrev xZ:=@List.getD_cons_zero.{0}
abbrev xY:=@List.getD_cons_succ.{0}
abbrev xX:=@List.mergeSort_perm.{0}
abbrev Bj:=@List.getElem_replicate.{0}
abbrev qF:=@Bool.and_self
abbrev vE:=@List.take_length.{0}
abbrev vD:=@List.map_flatten.{0,0}
abbrev Bi:=@Array.getElem?_toList.{0}
abbrev sG:=@List.take_zero.{0}
abbrev Bh:=@List.perm_append_comm.{0}
abbrev vC:=@Nat.min_eq_left
abbrev yD:=@List.getElem_append_left.{0}
abbrev lD:=@List.map_set.{0,0}
abbrev yC:=@List.getElem?_replicate.{0}
abbrev uH:=@List.filter_eq_self.{0}
abbrev uG:=@Option.isSome_none.{0}
abbrev m9:=@Nat.sub_zero
abbrev uF:=@List.mem_singleton.{0}
abbrev DI:=@List.sublist_flatten_of_mem.{0}
abbrev yB:=@List.Perm.append_left.{0}
abbrev yA:=@List.mem_append_right.{0}
abbrev uE:=@List.ext_getElem?.{0}
abbrev DH:=@List.extract_eq_take_drop.{0}
abbrev yz:=@List.mem_of_getElem?.{0}
abbrev q9:=@List.mapM_cons.{0,0,0}
abbrev oN:=@Nat.add_zero
abbrev uD:=@List.any_eq_true.{0}
abbrev uC:=@Bool.not_eq_true
abbrev uB:=@List.getElem_inj.{0}
abbrev DG:=@List.eq_of_mem_replicate.{0}
abbrev yy:=@List.replicate_succ.{0}
abbrev yx:=@List.length_zipWith.{0,0,0}
abbrev I4:=@Array.getElem?_setIfInBounds_ne.{0}
abbrev DF:=@List.getElem?_cons_succ.{0}
abbrev yw:=@Option.isSome_some.{0}
abbrev uA:=@Option.pure_def.{0}
abbrev yv:=@List.set_cons_zero.{0}
abbrev yu:=@List.length_mapIdx.{0,0}
abbrev DE:=@List.drop_of_length_le.{0}
abbrev yt:=@List.size_toArray.{0}
abbrev yr:=@Bool.not_eq_true'
abbrev yq:=@List.flatMap_cons.{0,0}
abbrev uz:=@List.mem_range
abbrev qZ:=@Nat.zero_mul
abbrev DD:=@List.length_replicate.{0}
abbrev qY:=@Nat.le_of_eq
abbrev DC:=@List.length_mergeSort.{0}
abbrev uy:=@Bool.and_true
abbrev I3:=@Nat.lt_of_mul_lt_mul_right
abbrev qX:=@Nat.le_succ
abbrev qW:=@Nat.add_mul
abbrev DB:=@List.flatMap_append.{0,0}
abbrev DA:=@List.set_cons_succ.{0}
abbrev qV:=@Array.ext'.{0}
abbrev Dz:=@Nat.lt_trichotomy
abbrev Dy:=@List.any_eq_false.{0}
abbrev Dx:=@List.getElem_take.{0}
abbrev yp:=@List.map_take.{0,0}
abbrev yk:=@List.sum_cons.{0}
abbrev Dw:=@Option.getD_none.{0}
abbrev Dv:=@List.flatten_nil.{0}
abbrev Du:=@List.range'_succ
abbrev Dt:=@List.filter_cons.{0}
abbrev Ds:=@Nat.le_max_right
abbrev Dr:=@List.map_flatMap.{0,0,0}
abbrev Dq:=@Nat.lt_of_not_le
abbrev Dp:=@List.not_mem_nil.{0}
abbrev Do:=@List.map_reverse.{0,0}
abbrev I2:=@Nat.le_of_ble_eq_true
abbrev I1:=@List.range_eq_range'
abbrev I0:=@Bool.or_eq_false_iff
abbrev Dn:=@Bool.eq_iff_iff
abbrev Dm:=@Nat.le_max_left
abbrev yj:=@Nat.sub_self
abbrev IZ:=@List.getElem_reverse.{0}
abbrev Dk:=@List.nodup_cons.{0}
abbrev IY:=@List.getElem_zipWith.{0,0,0}
abbrev Dj:=@Bool.not_false
def Om{p:Prop}(h:p:=by omega):p:=h
def Oh{q p:Prop}(h:q)(k:q->p:=by intro;omega):p:=k h
def Rr{p:Prop}(h:p:=by repeat' first|rfl|constructor):p:=h
def iN{c:Prop}[Decidable c]{α:Type}{a b:α}(h:¬c:=by omega):(if c then a else b)=b:=if_neg h
def iP{c:Prop}[Decidable c]{α:Type}{a b:α}(h:c:=by omega):(if c then a else b)=a:=if_pos h
inductive IV where
 | bool (b:Bool)
 | int (k:IntKind) (n:Int)
 | str (s:List UInt8)
 | ptr (b o:Nat)
 | nilPtr
 | slice (b o len lb:Nat) (ex:Bool)
 | nilSlice
 | map (b:Nat)
 | nilMap
 | fn (f:FuncId) (first cap:List IV)
 | yield (l:Nat)
 | nilFunc
 | iface (t:TypeId) (v:IV)
 | nilIface
 | agg (cs:List IV)
 | tuple (cs:List IV)
 deriving Inhabited
def UN:IV:=.tuple []
inductive Loc where
 | no
 | dead
 | at (c p ez z:Nat)
abbrev Mu:=Nat->Loc
def LocR(μ:Mu)(b o:Nat)(a:Addr):Prop:=match μ b with|.at c p _ _=>a=⟨c,p+o,none⟩|.dead=>True|.no=>False
def SlR(μ:Mu)(b o:Nat)(ex:Bool)(cap:Nat)(a:Addr):Prop:=match μ b with|.at c p ez z=>(cap=0\/a=⟨c,p+o,none⟩)/\(ex=false->ez≠0->o+cap*ez<=z)|.dead=>True|.no=>False
def afz(n lb:Nat)(ex:Bool)(cap:Nat):Prop:=n<=lb/\lb<=cap/\cap<2^63/\(ex=true->cap=lb)
mutual
def VR(μ:Mu):IV->Value->Prop|.bool b,v=>v=.bool b|.int k n,v=>v=.int k n|.str l,v=>v=.string ⟨⟨l⟩⟩|.ptr b o,v=>∃a:Addr,v=.pointer (some a)/\LocR μ b o a|.nilPtr,v=>v=.pointer none|.slice b o n lb ex,v=>∃(a:Addr) (cap:Nat),v=.slice (some a) n cap/\afz n lb ex cap/\SlR μ b o ex cap a|.nilSlice,v=>v=.slice none 0 0|.map b,v=>∃r:Nat,v=.map (some r)/\LocR μ b 0 ⟨r,0,none⟩|.nilMap,v=>v=.map none|.fn f l r,v=>∃q u:Array Value,v=.func (.func f) q u/\VRs μ l q.toList/\VRs μ r u.toList|.yield b,v=>∃r:Nat,v=.func (.yield r) #[] #[]/\LocR μ b 0 ⟨r,0,none⟩|.nilFunc,v=>v=.nilFunc|.iface t x,v=>∃A:Value,v=.iface t A/\VR μ x A|.nilIface,v=>v=.nilIface|.agg l,v=>∃q:Array Value,v=.agg q/\VRs μ l q.toList|.tuple l,v=>∃q:Array Value,v=.tuple q/\VRs μ l q.toList
def VRs(μ:Mu):List IV->List Value->Prop|[],l=>l=[]|x::xs,l=>∃(y:Value) (ys:List Value),l=y::ys/\VR μ x y/\VRs μ xs ys
end
def Mu.le(μ q:Mu):Prop:=∀b,μ b≠.no->q b=μ b\/q b=.dead
def Mu.le_refl(μ:Mu):μ.le μ:=λ_ _=>.inl rfl
def Mu.le_trans{a b c:Mu}(h:a.le b)(k:b.le c):a.le c:=λx hx=>by rcases h x hx with e|e;{rw[<-e];exact k x (by rw[e];exact hx)};{rcases k x (by rw[e];exactλh=>by cases h) with q|q<;>grind}
def LocR.mono{μ q:Mu}{b o:Nat}{a:Addr}(u:μ.le q)(h:LocR μ b o a):LocR q b o a:=by unfold LocR at *;have hn:μ b≠.no:=by{intro e;rw[e] at h;exact h};rcases u b hn with e|e<;>grind
def SlR.mono{μ q:Mu}{b o cap:Nat}{ex:Bool}{a:Addr}(u:μ.le q)(h:SlR μ b o ex cap a):SlR q b o ex cap a:=by unfold SlR at *;have hn:μ b≠.no:=by{intro e;rw[e] at h;exact h};rcases u b hn with e|e<;>grind
mutual
def VR.mono{μ A:Mu}(q:μ.le A):∀(x:IV)(v:Value),VR μ x v->VR A x v|.bool _,_,h=>h|.int _ _,_,h=>h|.str _,_,h=>h|.ptr _ _,_,h=>by obtain⟨a,e,k⟩:=h;exact⟨a,e,k.mono q⟩|.nilPtr,_,h=>h|.slice _ _ _ _ _,_,h=>by obtain⟨a,c,e,k,l⟩:=h;exact⟨a,c,e,k,l.mono q⟩|.nilSlice,_,h=>h|.map _,_,h=>by obtain⟨a,e,k⟩:=h;exact⟨a,e,k.mono q⟩|.nilMap,_,h=>h|.fn _ l r,_,h=>by obtain⟨u,I,e,E,F⟩:=h;exact⟨u,I,e,VRs.mono q l _ E,VRs.mono q r _ F⟩|.yield _,_,h=>by obtain⟨a,e,k⟩:=h;exact⟨a,e,k.mono q⟩|.nilFunc,_,h=>h|.iface _ x,_,h=>by obtain⟨K,e,k⟩:=h;exact⟨K,e,VR.mono q x _ k⟩|.nilIface,_,h=>h|.agg l,_,h=>by obtain⟨u,e,k⟩:=h;exact⟨u,e,VRs.mono q l _ k⟩|.tuple l,_,h=>by obtain⟨u,e,k⟩:=h;exact⟨u,e,VRs.mono q l _ k⟩
def VRs.mono{μ q:Mu}(u:μ.le q):∀(x:List IV)(v:List Value),VRs μ x v->VRs q x v|[],_,h=>h|x::xs,_,h=>by obtain⟨y,ys,e,k,ks⟩:=h;exact⟨y,ys,e,VR.mono u x _ k,VRs.mono u xs _ ks⟩
end
section
variable {μ:Mu}
def VRs.length:∀{l:List IV}{q:List Value},VRs μ l q->l.length=q.length|[],_,h=>by cases h;rfl|_::_,_,h=>by obtain⟨y,ys,rfl,_,k⟩:=h;simp[VRs.length k]
def VRs.get:∀{l:List IV}{q:List Value}{i:Nat}{x:IV},VRs μ l q->l[i]? =some x->∃y,q[i]? =some y/\VR μ x y|[],_,_,_,_,h=>by simp at h|a::u,_,0,x,h,e=>by obtain⟨y,ys,rfl,k,_⟩:=h;simp at e;subst e;exact⟨y,by simp,k⟩|a::u,_,i+1,x,h,e=>by obtain⟨y,ys,rfl,_,k⟩:=h;obtain⟨z,E,A⟩:=VRs.get k (i:=i) (by simpa using e);exact⟨z,by simpa using E,A⟩
def VRs.append:∀{l:List IV}{q:List Value}{r:List IV}{u:List Value},VRs μ l q->VRs μ r u->VRs μ (l++r) (q++u)|[],_,_,_,h,k=>by cases h;simpa using k|_::_,_,_,_,h,k=>by obtain⟨y,ys,rfl,a,b⟩:=h;exact⟨y,_,rfl,a,b.append k⟩
def VRs.take:∀{l:List IV}{q:List Value}(n:Nat),VRs μ l q->VRs μ (l.take n) (q.take n)|[],_,n,h=>by cases h;simp[VRs]|_::_,_,0,_=>by simp[VRs]|_::_,_,n+1,h=>by obtain⟨y,ys,rfl,a,b⟩:=h;exact⟨y,_,rfl,a,b.take n⟩
def VRs.drop:∀{l:List IV}{q:List Value}(n:Nat),VRs μ l q->VRs μ (l.drop n) (q.drop n)|[],_,n,h=>by cases h;simp[VRs]|_::_,_,0,h=>h|_::_,_,n+1,h=>by obtain⟨y,ys,rfl,a,b⟩:=h;exact b.drop n
def VRs.set:∀{l:List IV}{q:List Value}(i:Nat){x:IV}{y:Value},VRs μ l q->VR μ x y->VRs μ (l.set i x) (q.set i y)|[],_,_,_,_,h,_=>by cases h;simp[VRs]|_::_,_,0,_,y,h,k=>by obtain⟨z,ys,rfl,a,b⟩:=h;exact⟨y,ys,rfl,k,b⟩|_::_,_,i+1,_,_,h,k=>by obtain⟨z,ys,rfl,a,b⟩:=h;exact⟨z,_,rfl,a,b.set i k⟩
def An:∀{l:List IV}{q:List Value},l.length=q.length->(∀(i:Nat)(x:IV)(y:Value),l[i]? =some x->q[i]? =some y->VR μ x y)->VRs μ l q|[],[],_,_=>rfl|[],_::_,h,_=>by simp at h|_::_,[],h,_=>by simp at h|x::xs,y::ys,h,k=>⟨y,ys,rfl,k 0 x y rfl rfl,An (by simpa using h) λi a b u A=>k (i+1) a b (by simpa using u) (by simpa using A)⟩
end
inductive Tr(α:Type)where
 | leaf
 | node (v:Option α) (l r:Tr α)
def Tr.get{α:Type}:Tr α->Nat->Option α|.leaf,_=>none|.node v l r,i=>match i with|0=>v|j+1=>if j%2=0 then l.get (j / 2) else r.get (j / 2)
def Tr.setF{α:Type}:Nat->Tr α->Nat->α->Tr α|0,t,_,_=>t|f+1,t,i,x=>match t,i with|.leaf,0=>.node (some x) .leaf .leaf|.node _ l r,0=>.node (some x) l r|.leaf,j+1=>if j%2=0 then .node none (Tr.setF f .leaf (j / 2) x) .leaf else .node none .leaf (Tr.setF f .leaf (j / 2) x)|.node v l r,j+1=>if j%2=0 then .node v (Tr.setF f l (j / 2) x) r else .node v l (Tr.setF f r (j / 2) x)
def Tr.set{α:Type}(t:Tr α)(i:Nat)(x:α):Tr α:=Tr.setF (i+1) t i x
theorem pN{α:Type}(i:Nat):(Tr.leaf:Tr α).get i=none:=by unfold Tr.get;rfl
def HS{α:Type}:∀(f:Nat)(t:Tr α)(i j:Nat)(x:α),i<f->(Tr.setF f t i x).get j=if i=j then some x else t.get j:=by intro f;induction f with|zero=>intro t i j x h;omega|succ f A=>intro t i j x h;cases t with|leaf=>(cases i with|zero=>cases j<;>simp[Tr.setF,Tr.get]|succ i=>have hi:i / 2<f:=Om;by_cases q:i%2=0;{cases j with|zero=>simp[Tr.setF,q,Tr.get]|succ j=>by_cases u:j%2=0;{simp only[Tr.setF,q,if_true,Tr.get,u,A _ _ _ _ hi];grind};{simp only[Tr.setF,q,if_true,Tr.get,u,if_false];grind}};{cases j with|zero=>simp[Tr.setF,q,Tr.get]|succ j=>by_cases u:j%2=0;{simp only[Tr.setF,q,if_false,Tr.get,u,if_true];grind};{simp only[Tr.setF,q,if_false,Tr.get,u,A _ _ _ _ hi];grind}})|node v l r=>cases i with|zero=>cases j<;>simp[Tr.setF,Tr.get]|succ i=>have hi:i / 2<f:=Om;by_cases q:i%2=0;{cases j with|zero=>simp[Tr.setF,q,Tr.get]|succ j=>by_cases u:j%2=0;{simp only[Tr.setF,q,if_true,Tr.get,u,A _ _ _ _ hi];grind};{simp only[Tr.setF,q,if_true,Tr.get,u,if_false];grind}};{cases j with|zero=>simp[Tr.setF,q,Tr.get]|succ j=>by_cases u:j%2=0;{simp only[Tr.setF,q,if_false,Tr.get,u,if_true];grind};{simp only[Tr.setF,q,if_false,Tr.get,u,A _ _ _ _ hi];grind}}
def rL{α:Type}(t:Tr α)(i j:Nat)(x:α):(t.set i x).get j=if i=j then some x else t.get j:=HS _ _ _ _ _ (Nat.lt_succ_self i)
inductive IA where
 | tmp (t:Nat)
 | val (v:IV)
 | glob (g:Nat)
 deriving Inhabited
inductive Pk where
 | bool | int | str
 deriving DecidableEq,Inhabited
inductive Nk where
 | ptr | sl | map | fn
 deriving DecidableEq,Inhabited
inductive Kd where
 | move
 | pick
 | alloc (e ez:Nat) (zs:List IV)
 | box (e ez:Nat)
 | build (zs:List IV) (offs:List (Nat×Nat))
 | buildSl (e ez n:Nat) (zs:List IV) (offs:List (Nat×Nat))
 | load (n:Option Nat)
 | store (n:Nat)
 | nilCheck
 | bin (op:BinOp)
 | eqBool (neg:Bool)
 | eqFlat (neg:Bool) (ds:List Pk)
 | eqNil (neg:Bool) (k:Nk)
 | un (op:UnOp)
 | conv (k:IntKind)
 | mkfn (f:FuncId) (k:Nat)
 | mkmap
 | mksl (e ez bytes:Nat) (zs:List IV)
 | slc (size:Nat) (lo hi mx:Bool)
 | fieldAddr (off:Nat)
 | field (off:Nat) (n:Option Nat)
 | idxSl (size:Nat)
 | idxArrAddr (len size:Nat)
 | idxArr (len size:Nat) (n:Option Nat)
 | lookup (t:TypeId) (ky:Bool×List Pk) (zero:IV) (ok:Bool)
 | mapUpd (ky:Bool×List Pk)
 | mapEntry (t:TypeId) (ky:Bool×List Pk) (zero:IV)
 | entryStore
 | delete (ky:Bool×List Pk)
 | lenSl
 | lenMap
 | cap
 | append (e size bytes:Nat)
 | copy (size:Nat)
 | min
 | max
 | extract (i:Nat)
 | clear (zs:List IV)
 | rangeM
 | nextM
 | entryM
 | call
 deriving Inhabited
structure IOp where
 dst:Option Nat
 kd:Kd
 args:List IA
 guard:Option (Nat×Bool)
 amb:Bool
 idx:Nat
 mask:Nat
 deriving Inhabited
inductive Sg where
 | seq | free
 deriving DecidableEq,Inhabited
inductive IC where
 | skip
 | ops (l:List (Sg×List IOp))
 | seq (a b:IC)
 | cond (c:IA) (a b:IC)
 | block (id:Nat) (c:IC)
 | scope (c:IC)
 | loop (c:IC)
 | rfn (f:IA) (ps:List Nat) (asg body:IC)
 | exit (id:Nat)
 | ret
 deriving Inhabited
inductive Jmp where
 | exit (id:Nat)
 | ret
inductive IObj where
 | cells (ro:Bool) (e ez:Nat) (cs:List IV)
 | map (es:List (IV×IV×Nat)) (clock:Nat)
 | loop (st:LoopState) (pend:Option Jmp) (tm:List IV) (ps:List Nat) (asg body:IC) (df:Nat)
 | deferred
 | taken
 | iter (m:Option Nat) (since:Nat) (seen:List Nat) (last:Nat)
 | dead
structure Heap where
 n:Nat
 t:Tr IObj
def Heap.get(H:Heap)(b:Nat):Option IObj:=H.t.get b
def Heap.put(H:Heap)(b:Nat)(o:IObj):Heap:=⟨H.n,H.t.set b o⟩
def Heap.new(H:Heap)(o:IObj):Heap:=⟨H.n+1,H.t.set H.n o⟩
def aa(H:Heap)(b b':Nat)(o:IObj):(H.put b o).get b'=if b=b' then some o else H.get b':=rL _ _ _ _
def aj(H:Heap)(b':Nat)(o:IObj):(H.new o).get b'=if H.n=b' then some o else H.get b':=rL _ _ _ _
theorem af(H:Heap)(b:Nat)(o:IObj):(H.put b o).n=H.n:=rfl
theorem ac(H:Heap)(o:IObj):(H.new o).n=H.n+1:=rfl
def IV.cells:IV->List IV|.agg l=>l|v=>[v]
def aw:List IV->Nat->List IV->List IV|[],_,_=>[]|c::cs,0,[]=>c::cs|_::cs,0,v::vs=>v::aw cs 0 vs|c::cs,o+1,vs=>c::aw cs o vs
def Heap.read(H:Heap)(b o n:Nat):Option (List IV):=match H.get b with|some (.cells _ _ _ cs)=>if o+n<=cs.length then some ((cs.drop o).take n) else none|_=>none
def IV.one:IV->Bool|.agg _|.tuple _=>false|_=>true
def Heap.write(H:Heap)(lo b o:Nat)(vs:List IV):Option Heap:=match H.get b with|some (.cells false e ez cs)=>if lo<=b/\o+vs.length<=cs.length/\vs.all IV.one then some (H.put b (.cells false e ez (aw cs o vs))) else none|_=>none
def ak(n:Option Nat)(l:List IV):Option IV:=match n,l with|some _,l=>some (.agg l)|none,[v]=>some v|none,_=>none
def cY:List (Nat×Nat)->List IV->List IV->Option (List IV)|[],[],cs=>some cs|(off,size)::q,v::vs,cs=>if v.cells.length=size/\off+size<=cs.length then cY q vs (aw cs off v.cells) else none|_,_,_=>none
def Il:Pk->IV->IV->Option Bool|.bool,.bool a,.bool b=>some (a==b)|.int,.int k a,.int q b=>if k=q then some (a==b) else none|.str,.str a,.str b=>some (a==b)|_,_,_=>none
def gp:List Pk->List IV->List IV->Option Bool|[],[],[]=>some true|d::ds,x::xs,y::ys=>(match Il d x y,gp ds xs ys with|some a,some b=>some (a&&b)|_,_=>none)|_,_,_=>none
def Uc:Pk->IV->Bool|.bool,.bool _=>true|.int,.int _ _=>true|.str,.str _=>true|_,_=>false
def tp:List Pk->List IV->Bool|[],[]=>true|d::ds,x::xs=>Uc d x&&tp ds xs|_,_=>false
def oj(op:BinOp):IV->IV->Option IV|.int k a,.int q b=>(match op with|.shl=>if b<0 then none else some (.int k (k.wrap (a*2^(Min.min b.toNat k.bits))))|.shr=>if b<0 then none else some (.int k (a.fdiv (2^(Min.min b.toNat k.bits))))|_=>if k=q then match op with|.add=>some (.int k (k.wrap (a+b)))|.sub=>some (.int k (k.wrap (a - b)))|.mul=>some (.int k (k.wrap (a*b)))|.quo=>if b=0 then none else some (.int k (k.wrap (a.tdiv b)))|.rem=>if b=0 then none else some (.int k (a.tmod b))|.and=>some (.int k (k.wrap (BitVec.ofInt k.bits a&&& BitVec.ofInt k.bits b).toNat))|.or=>some (.int k (k.wrap (BitVec.ofInt k.bits a||| BitVec.ofInt k.bits b).toNat))|.xor=>some (.int k (k.wrap (BitVec.ofInt k.bits a^^^BitVec.ofInt k.bits b).toNat))|.andNot=>some (.int k (k.wrap (BitVec.ofInt k.bits a&&& ~~~(BitVec.ofInt k.bits b)).toNat))|.eql=>some (.bool (a==b))|.neq=>some (.bool (a !=b))|.lss=>some (.bool (decide (a<b)))|.leq=>some (.bool (decide (a<=b)))|.gtr=>some (.bool (decide (a>b)))|.geq=>some (.bool (decide (a>=b)))|_=>none else none)|.str a,.str b=>(match op with|.add=>if a.length+b.length<2^40 then some (.str (a++b)) else none|.eql=>some (.bool (a==b))|.neq=>some (.bool !(a==b))|.lss=>some (.bool (Op.bytesLess a b))|.leq=>some (.bool (Op.bytesLess a b||a==b))|.gtr=>some (.bool !(Op.bytesLess a b||a==b))|.geq=>some (.bool !(Op.bytesLess a b))|_=>none)|_,_=>none
def V8(op:UnOp):IV->Option IV|.int k n=>(match op with|.neg=>some (.int k (k.wrap (0 - n)))|.xor=>some (.int k (k.wrap (BitVec.ofInt k.bits (if k.signed then -1 else k.max)^^^BitVec.ofInt k.bits n).toNat))|_=>none)|.bool b=>(match op with|.not=>some (.bool !b)|_=>none)|_=>none
def kR:Nk->IV->Option Bool|.ptr,.nilPtr|.sl,.nilSlice|.map,.nilMap|.fn,.nilFunc=>some true|.ptr,.ptr _ _|.sl,.slice _ _ _ _ _|.map,.map _|.fn,.fn _ _ _=>some false|_,_=>none
def cC(y:Nat):IV->Option Nat|.int _ n=>if 0<=n/\n<=(y:Int) then some n.toNat else none|_=>none
def bW(len q:Nat)(lo hi u:Bool)(l:List IV):Option (Nat×Nat×Option Nat):=match lo,hi,u,l with|false,false,false,[]=>some (0,len,none)|true,false,false,[a]=>(cC len a).map λa=>(a,len,none)|false,true,false,[b]=>(cC q b).map λb=>(0,b,none)|true,true,false,[a,b]=>(cC q b).bind λb=>(cC b a).map λa=>(a,b,none)|false,true,true,[b,c]=>(cC q c).bind λc=>(cC c b).map λb=>(0,b,some c)|true,true,true,[a,b,c]=>(cC q c).bind λc=>(cC c b).bind λb=>(cC b a).map λa=>(a,b,some c)|_,_,_,_=>none
def bh(q:Bool):IV->Bool|.agg _=>q|_=>!q
def cW(ky:Bool×List Pk)(k:IV):Bool:=bh ky.1 k&&tp ky.2 k.cells
def dK(ky:Bool×List Pk)(k q:IV):Option Bool:=if bh ky.1 k&&bh ky.1 q then gp ky.2 k.cells q.cells else none
def aO(ky:Bool×List Pk)(k:IV):List (IV×IV×Nat)->Nat->Option (Option (Nat×IV))|[],_=>some none|(u,v,_)::q,i=>match dK ky k u with|some true=>some (some (i,v))|some false=>aO ky k q (i+1)|none=>none
def fK(H:Heap)(size n:Nat):IV->Option (List IV)|.nilSlice=>if n=0 then some [] else none|.slice b o _ _ _=>if n=0 then some [] else H.read b o (n*size)|.str s=>if n<=s.length/\size=1 then some ((s.take n).map λc=>.int .u8 c.toNat) else none|_=>none
def lJ:IV->Option Nat|.nilSlice=>some 0|.slice _ _ n _ _=>some n|.str s=>some s.length|_=>none
def nR:Nat->List IV->List IV|0,_=>[]|n+1,zs=>zs++nR n zs
def cS(e size bytes:Nat)(s:IV)(xs:List IV)(n lo:Nat)(H:Heap):Option (IV×Heap):=if xs.all IV.one=false then none else match s with|.nilSlice=>if n=0 then some (.nilSlice,H) else if n*(bytes+1)<=2^40 then some (.slice H.n 0 n n false,H.new (.cells false e size xs)) else none|.slice b o len lb ex=>if n=0 then some (.slice b o len lb ex,H) else if len+n<=lb then(H.write lo b (o+len*size) xs).map λH'=>(.slice b o (len+n) lb ex,H') else if (len+n)*(bytes+1)<=2^40 then if ex then(fK H size len s).map λold=>(.slice H.n 0 (len+n) (len+n) false,H.new (.cells false e size (old++xs))) else match H.get b with|some (.cells false q ez cs)=>if q=e/\ez=size/\0<size/\o=0/\lo<=b/\len*size<=cs.length then some (.slice H.n 0 (len+n) (len+n) false,(H.put b .dead).new (.cells false e size (cs.take (len*size)++xs))) else none|_=>none else none|_=>none
def dv{α:Type}:List α->Nat->List α|[],_=>[]|_::l,0=>l|x::l,i+1=>x::dv l i
def ew(key val:IV):List (IV×IV×Nat)->Nat->List (IV×IV×Nat)|[],_=>[]|(_,_,s)::l,0=>(key,val,s)::l|x::l,i+1=>x::ew key val l i
def eC(val:IV)(born:Int):List (IV×IV×Nat)->Option (List (IV×IV×Nat))|[]=>none|(k,v,s)::l=>if (s:Int)=born then some ((k,val,s)::l) else(eC val born l).map ((k,v,s)::·)
def aK(H:Heap)(b:Nat):Option (List (IV×IV×Nat)×Nat):=match H.get b with|some (.map q c)=>some (q,c)|_=>none
def stepM(H:Heap)(r:Nat):Option (IV×Option IObj):=match H.get r with|some (.iter none _ _ _)=>some (.tuple [.bool false],none)|some (.iter (some b) q seen A)=>(match aK H b with|none=>none|some (E,u)=>if seen≠[]/\E≠[]/\(E.all λe=>decide (A<=e.2.2))=true then none else match E.filter λe=>!seen.contains e.2.2 with|[]=>some (.tuple [.bool false],none)|[(k,v,s)]=>if s<q then some (.tuple [.bool true,k,v],some (.iter (some b) q (seen++[s]) u)) else none|_=>none)|_=>none
def zH(H:Heap)(r:Nat):Option IV:=match H.get r with|some (.iter (some b) _ seen u)=>(match seen.getLast? with|none=>none|some s=>match aK H b with|none=>none|some (A,q)=>if q=u then(A.find? λe=>e.2.2==s).map λe=>.tuple [e.1,e.2.1] else none)|_=>none
def tC(H:Heap)(b size:Nat):Bool:=match H.get b with|some (.cells q _ ez _)=>q||ez==size|_=>false
def ny:IV->Option Nat|.nilSlice=>some 0|.slice _ _ n _ _=>some n|_=>none
def ev1(kd:Kd)(xs:List IV)(lo:Nat)(H:Heap):Option (IV×Heap):=match kd with|.move=>(match xs with|[x]=>some (x,H)|_=>none)|.pick=>(match xs with|[.bool c,a,b]=>some (if c then a else b,H)|_=>none)|.alloc e ez zs=>(match xs with|[]=>some (.ptr H.n 0,H.new (.cells false e ez zs))|_=>none)|.box e ez=>(match xs with|[x]=>some (.ptr H.n 0,H.new (.cells false e ez x.cells))|_=>none)|.build zs A=>(match xs with|xs=>(cY A xs zs).map λcs=>(.agg cs,H))|.buildSl e ez n zs A=>(match xs with|xs=>(cY A xs zs).map λcs=>(.slice H.n 0 n n true,H.new (.cells false e ez cs)))|.load n=>(match xs with|[.ptr b o]=>(H.read b o (n.getD 1)).bind λcs=>(ak n cs).map λv=>(v,H)|_=>none)|.store n=>(match xs with|[.ptr b o,x]=>if x.cells.length=n then(H.write lo b o x.cells).map λH'=>(UN,H') else none|_=>none)|.nilCheck=>(match xs with|[x]=>(match x with|.nilPtr|.nilIface|.nilFunc|.yield _=>none|x=>some (x,H))|_=>none)|.bin op=>(match xs with|[x,y]=>(oj op x y).map (·,H)|_=>none)|.eqBool neg=>(match xs with|[.bool a,.bool b]=>some (.bool (neg !=(a==b)),H)|_=>none)|.eqFlat neg ds=>(match xs with|[.agg x,.agg y]=>(gp ds x y).map λr=>(.bool (neg !=r),H)|_=>none)|.eqNil neg O=>(match xs with|[x,y]=>(match kR O x,kR O y with|some true,some r=>some (.bool (neg !=r),H)|some r,some true=>some (.bool (neg !=r),H)|_,_=>none)|_=>none)|.un op=>(match xs with|[x]=>(V8 op x).map (·,H)|_=>none)|.conv k=>(match xs with|[.int _ n]=>some (.int k (k.wrap n),H)|_=>none)|.mkfn f k=>(match xs with|xs=>some (.fn f (xs.take k) (xs.drop k),H))|.mkmap=>(match xs with|[]=>some (.map H.n,H.new (.map [] 0))|[.int _ _]=>some (.map H.n,H.new (.map [] 0))|_=>none)|.rangeM=>(match xs with|[.nilMap]=>some (.ptr H.n 0,H.new (.iter none 0 [] 0))|[.map b]=>(aK H b).map λp=>(.ptr H.n 0,H.new (.iter (some b) p.2 [] p.2))|_=>none)|.entryM=>(match xs with|[.ptr r 0]=>(zH H r).map (·,H)|_=>none)|.nextM=>(match xs with|[.ptr r 0]=>if lo<=r then(stepM H r).map λp=>(p.1,match p.2 with|none=>H|some o=>H.put r o) else none|_=>none)|.mksl e ez bytes zs=>(match xs with|[.int _ l,.int _ c]=>if 0<=l/\l<=c/\c*(bytes+1)<=2^40 then some (.slice H.n 0 l.toNat c.toNat true,H.new (.cells false e ez (nR c.toNat zs))) else none|_=>none)|.slc size lo hi K=>(match xs with|s::l=>(match s with|.nilSlice=>(bW 0 0 lo hi K l).bind λ(a,b,_)=>if a=0/\b=0 then some (.nilSlice,H) else none|.slice b o len lb ex=>if ex||tC H b size then (bW len lb lo hi K l).map λ(a,h,m)=>match m with|some m=>(.slice b (o+a*size) (h - a) (m - a) true,H)|none=>(.slice b (o+a*size) (h - a) (lb - a) ex,H) else none|_=>none)|_=>none)|.fieldAddr off=>(match xs with|[.ptr b o]=>some (.ptr b (o+off),H)|_=>none)|.field off n=>(match xs with|[.agg cs]=>if off+n.getD 1<=cs.length then(ak n ((cs.drop off).take (n.getD 1))).map λv=>(v,H) else none|_=>none)|.idxSl size=>(match xs with|[.slice b o len _ _,.int _ i]=>if 0<=i/\i<(len:Int) then some (.ptr b (o+i.toNat*size),H) else none|_=>none)|.idxArrAddr len size=>(match xs with|[.ptr b o,.int _ i]=>if 0<=i/\i<(len:Int) then some (.ptr b (o+i.toNat*size),H) else none|_=>none)|.idxArr len size n=>(match xs with|[.agg cs,.int _ i]=>if 0<=i/\i<(len:Int)/\i.toNat*size+n.getD 1<=cs.length then(ak n ((cs.drop (i.toNat*size)).take (n.getD 1))).map λv=>(v,H) else none|_=>none)|.lookup _ ky zero ok=>(match xs with|[m,k]=>(match (match m with|.nilMap=>some []|.map b=>(aK H b).map (·.1)|_=>none) with|none=>none|some u=>if cW ky k then match aO ky k u 0 with|none=>none|some r=>let (v,E):IV×Bool:=match r with|some (_,v)=>(v,true)|none=>(zero,false);some (if ok then .tuple [v,.bool E] else v,H) else none)|_=>none)|.mapUpd ky=>(match xs with|[.map b,k,v]=>(match aK H b with|none=>none|some (u,q)=>if lo<=b/\cW ky k then match aO ky k u 0 with|none=>none|some (some (i,_))=>some (UN,H.put b (.map (ew k v u i) q))|some none=>some (UN,H.put b (.map (u++[(k,v,q)]) (q+1))) else none)|_=>none)|.mapEntry _ ky zero=>(match xs with|[.map b,k]=>(match aK H b with|none=>none|some (u,q)=>if lo<=b/\cW ky k then match aO ky k u 0 with|none=>none|some (some (i,v))=>(u[i]?).map λe=>(.tuple [v,.int .i64 e.2.2],H.put b (.map (ew k v u i) q))|some none=>some (.tuple [zero,.int .i64 q],H.put b (.map (u++[(k,zero,q)]) (q+1))) else none)|_=>none)|.entryStore=>(match xs with|[.map b,.int _ s,v]=>(match aK H b with|none=>none|some (u,q)=>if lo<=b then(eC v s u).map λF=>(UN,H.put b (.map F q)) else none)|_=>none)|.delete ky=>(match xs with|[.map b,k]=>(match aK H b with|none=>none|some (u,q)=>if lo<=b/\cW ky k then match aO ky k u 0 with|none=>none|some (some (i,_))=>some (UN,H.put b (.map (dv u i) q))|some none=>some (UN,H) else none)|_=>none)|.lenSl=>(match xs with|[x]=>(match x with|.nilSlice=>some (.int .i64 0,H)|.slice _ _ n _ _=>some (.int .i64 n,H)|_=>none)|_=>none)|.lenMap=>(match xs with|[m]=>(match m with|.nilMap=>some (.int .i64 0,H)|.map b=>(aK H b).map λ(u,_)=>(.int .i64 u.length,H)|_=>none)|_=>none)|.cap=>(match xs with|[x]=>(match x with|.nilSlice=>some (.int .i64 0,H)|.slice _ _ _ c true=>some (.int .i64 c,H)|_=>none)|_=>none)|.append e size bytes=>(match xs with|[s,x]=>(lJ x).bind λn=>(fK H size n x).bind λxs=>cS e size bytes s xs n lo H|_=>none)|.copy size=>(match xs with|[d,s]=>(match ny d,lJ s with|some n,some m=>(let k:=Min.min m n;if k=0 then some (.int .i64 0,H) else(fK H size k s).bind λxs=>match d with|.slice b o _ _ _=>(H.write lo b o xs).map λH'=>(.int .i64 k,H')|_=>none)|_,_=>none)|_=>none)|.min=>(match xs with|[.int k a,.int I b]=>if k=I then some (.int k (if b<a then b else a),H) else none|_=>none)|.max=>(match xs with|[.int k a,.int I b]=>if k=I then some (.int k (if b>a then b else a),H) else none|_=>none)|.clear zs=>(match xs with|[x]=>(match x with|.nilSlice=>some (.tuple [],H)|.slice b o n _ _=>if n=0 then some (.tuple [],H) else(H.write lo b o (nR n zs)).map λH'=>(.tuple [],H')|_=>none)|_=>none)|.extract i=>(match xs with|[.tuple l]=>(l[i]?).map (·,H)|_=>none)|.call=>none
structure IFn where
 ntmps:Nat
 results:List (Nat×Option (Option Nat))
 body:IC
structure Fr where
 tm:List IV
 marks:List Nat
inductive Ex where
 | normal
 | jmp (j:Jmp)
inductive Fp where
 | none
 | rd (b o n:Nat)
 | wr (b o n:Nat)
 | wb (b:Nat)
 | lk (t:TypeId) (ky:Bool×List Pk) (b:Nat) (k:IV)
 | me (t:TypeId) (ky:Bool×List Pk) (b:Nat) (k:IV)
abbrev dm:=List (Nat×Fp)
inductive Task where
 | code (c:IC) (rd:Option Nat) (fr:Fr)
 | segs (l:List (Sg×List IOp)) (rd:Option Nat) (fr:Fr)
 | ops (free:Option dm) (l:List IOp) (rd:Option Nat) (fr:Fr)
 | call (f:FuncId) (args:List IV)
 | apply (f:IV) (args:List IV)
inductive Out where
 | ex (e:Ex) (fr:Fr)
 | val (v:IV)
structure Env where
 fns:FuncId→Option IFn
 sums:FuncId→Option (List IV→Nat→Heap→Option (IV×Heap))
 g0:Nat
def IA.eval(g0:Nat)(tm:List IV):IA->Option IV|.tmp t=>some (tm.getD t UN)|.val v=>some v|.glob g=>if g<g0 then some (.ptr g 0) else none
def bJ(g0:Nat)(tm:List IV):List IA->Option (List IV)|[]=>some []|x::xs=>match x.eval g0 tm with|none=>none|some v=>match bJ g0 tm xs with|none=>none|some vs=>some (v::vs)
def Fr.put(fr:Fr)(dst:Option Nat)(v:IV):Fr:=match dst with|none=>fr|some d=>{fr with tm:=fr.tm.set d v}
def cy(tm:List IV):Option (Nat×Bool)->Bool|none=>true|some (t,q)=>match tm.getD t UN with|.bool b=>b==q|_=>false
def gG(H:Heap)(tm:List IV):Nat×Option (Option Nat)->Option IV|(t,none)=>some (tm.getD t UN)|(t,some n)=>match tm.getD t UN with|.ptr b o=>(H.read b o (n.getD 1)).bind (ak n)|_=>none
def aG(H:Heap)(tm:List IV):List (Nat×Option (Option Nat))->Option (List IV)|[]=>some []|r::rs=>match gG H tm r,aG H tm rs with|some v,some vs=>some (v::vs)|_,_=>none
def fk:List IV->IV|[v]=>v|l=>.tuple l
def cu(lo:Nat):List Nat->Heap->Option Heap|[],H=>some H|r::rs,H=>match H.get r with|some .deferred=>if lo<=r then cu lo rs (H.put r .taken) else none|_=>none
def eM:List IV->List Nat->List IV->List IV|tm,p::q,v::vs=>eM (tm.set p v) q vs|tm,_,_=>tm
def dh:Nat->List IV|0=>[]|n+1=>UN::dh n
def Kd.pure:Kd->Bool|.move|.pick|.build _ _|.nilCheck|.bin _|.eqBool _|.eqFlat _ _|.eqNil _ _|.un _|.conv _|.mkfn _ _|.fieldAddr _|.field _ _|.idxSl _|.idxArrAddr _ _|.idxArr _ _ _|.lenSl|.cap|.min|.max|.extract _=>true|_=>false
def Kd.isStore:Kd->Bool|.store _=>true|_=>false
def iD(b o n b' o' q:Nat):Bool:=b≠b'||o+n<=o'||o'+q<=o
def bH:Fp->Fp->Bool|.rd b o n,.wr b' o' q|.wr b o n,.rd b' o' q|.wr b o n,.wr b' o' q=>iD b o n b' o' q|.wb b,.rd b' _ _|.rd b' _ _,.wb b|.wb b,.wr b' _ _|.wr b' _ _,.wb b|.wb b,.wb b'|.wb b,.lk _ _ b' _|.lk _ _ b' _,.wb b|.wb b,.me _ _ b' _|.me _ _ b' _,.wb b=>b≠b'|.lk _ _ b _,.wr b' _ _|.wr b' _ _,.lk _ _ b _|.rd b _ _,.me _ _ b' _|.me _ _ b' _,.rd b _ _|.wr b _ _,.me _ _ b' _|.me _ _ b' _,.wr b _ _|.me _ _ b' _,.me _ _ b _=>b≠b'|.lk t ky b k,.me A _ b' u|.me A _ b' u,.lk t ky b k=>b≠b'||(t==A&&(match dK ky k u with|some true=>true|_=>false))|_,_=>true
def aaP:IV->Fp|.slice b _ _ _ false=>.rd b 0 0|_=>.none
def fe(o:IOp)(xs:List IV):Option Fp:=match o.kd,xs with|.slc _ _ _ _,s::_=>some (aaP s)|.store n,[.ptr b a,_]=>some (.wr b a n)|.store _,_=>none|.load n,[.ptr b a]=>some (.rd b a (n.getD 1))|.load _,_=>none|.lookup t ky _ false,[.map b,k]=>some (.lk t ky b k)|.lookup _ _ _ false,[.nilMap,_]=>some .none|.lookup _ _ _ false,_=>none|.append _ _ _,.slice b _ _ _ _::_=>some (if o.amb then .wb b else .none)|.mapEntry t ky _,[.map b,k]=>some (if o.amb then .me t ky b k else .none)|_,_=>some .none
def mj(q:dm)(o:IOp)(xs:List IV):Option dm:=match fe o xs with|none=>none|some f=>if q.all λp=>o.mask.testBit p.1||bH p.2 f then some ((o.idx,f)::q) else none
def dY(free:Option dm)(o:IOp)(lo:Nat)(H:Heap):Nat:=match free with|none=>lo|some _=>if o.amb then lo else H.n
def bu(free:Option dm)(o:IOp)(xs:List IV):Option (Option dm):=match free with|none=>some none|some q=>(mj q o xs).map some
def gQ(rd:Option Nat)(H:Heap):Option (Nat×List Nat×Heap):=match rd with|none=>some (H.n,[H.n],H.new .deferred)|some l=>match H.get l with|some (.loop _ _ _ _ _ _ q)=>some (q,[],H)|_=>none
def iC(l:Nat)(H:Heap):Option Heap:=match H.get l with|some (.loop .ready pend tm A q body u)=>some (H.put l (.loop .busy pend tm A q body u))|_=>none
def AL(l:Nat)(e:Ex)(H:Heap):Option (Out×Heap):=match H.get l with|some (.loop _ _ tm A q body u)=>(match e with|.normal=>some (.val (.bool true),H.put l (.loop .ready none tm A q body u))|.jmp j=>some (.val (.bool false),H.put l (.loop .done (some j) tm A q body u)))|_=>none
def run(E:Env):Nat->Task->Nat->Heap->Option (Out×Heap)|0,_,_,_=>none|n+1,t,lo,H=>match t with|.code c rd fr=>(match c with|.skip=>some (.ex .normal fr,H)|.exit id=>some (.ex (.jmp (.exit id)) fr,H)|.ret=>some (.ex (.jmp .ret) fr,H)|.ops l=>run E n (.segs l rd fr) lo H|.seq a b=>(match run E n (.code a rd fr) lo H with|some (.ex .normal q,H')=>run E n (.code b rd q) lo H'|r=>r)|.cond c a b=>(match c.eval E.g0 fr.tm with|some (.bool true)=>run E n (.code a rd fr) lo H|some (.bool false)=>run E n (.code b rd fr) lo H|_=>none)|.block id c=>(match run E n (.code c rd fr) lo H with|some (.ex (.jmp (.exit O)) q,H')=>some (.ex (if O=id then .normal else .jmp (.exit O)) q,H')|r=>r)|.loop c=>(match run E n (.code c rd fr) lo H with|some (.ex .normal q,H')=>run E n (.code (.loop c) rd q) lo H'|r=>r)|.scope c=>run E n (.code c rd fr) lo H|.rfn f I u body=>match f.eval E.g0 fr.tm,gQ rd H with|some g,some (U,marks,H1)=>(match run E n (.apply g [.yield H1.n]) lo (H1.new (.loop .ready none fr.tm I u body U)) with|some (.val _,Q)=>(match Q.get H1.n with|some (.loop st pend tm I u body U)=>(if st=.busy\/H1.n<lo then none else let T:=Q.put H1.n (.loop .exhausted pend tm I u body U);let q:Fr:={fr with marks:=marks++fr.marks};match pend with|none=>some (.ex .normal q,T)|some j=>some (.ex (.jmp j) q,T))|_=>none)|_=>none)|_,_=>none)|.segs l rd fr=>(match l with|[]=>some (.ex .normal fr,H)|(k,os)::l=>match run E n (.ops (match k with|.seq=>none|.free=>some []) os rd fr) lo H with|some (.ex .normal q,H')=>run E n (.segs l rd q) lo H'|_=>none)|.ops free l rd fr=>(match l with|[]=>some (.ex .normal fr,H)|o::l=>if cy fr.tm o.guard then match bJ E.g0 fr.tm o.args with|none=>none|some xs=>match bu free o xs with|none=>none|some A=>match o.kd with|.call=>(match xs with|f::xs=>(match run E n (.apply f xs) (dY free o lo H) H with|some (.val v,H')=>run E n (.ops A l rd (fr.put o.dst v)) lo H'|_=>none)|[]=>none)|kd=>match ev1 kd xs (dY free o lo H) H with|some (v,H')=>run E n (.ops A l rd (fr.put o.dst v)) lo H'|none=>none else run E n (.ops free l rd (fr.put o.dst UN)) lo H)|.apply f args=>(match f with|.fn f F cap=>run E n (.call f (F++args++cap)) lo H|.yield l=>(match H.get l with|some (.loop _ _ tm I u body _)=>if args.length=I.length/\lo<=l then match run E n (.code u (some l) ⟨eM tm I args,[]⟩) lo H with|some (.ex .normal fr,H1)=>(match iC l H1 with|some Q=>(match run E n (.code body (some l) fr) lo Q with|some (.ex e _,T)=>AL l e T|_=>none)|none=>none)|_=>none else none|_=>none)|_=>none)|.call f args=>match E.sums f with|some s=>(s args lo H).map λ(v,H')=>(.val v,H')|none=>match E.fns f with|none=>none|some fn=>match run E n (.code fn.body none ⟨args++dh (fn.ntmps - args.length),[]⟩) lo H with|some (.ex e fr,H')=>(match e with|.jmp (.exit _)=>none|_=>match cu lo fr.marks H' with|none=>none|some K=>(aG K fr.tm fn.results).map λvs=>(.val (fk vs),K))|_=>none
def qO:Nat->Value->Option IV|0,_=>none|n+1,v=>match v with|.bool b=>some (.bool b)|.int k n=>some (.int k n)|.string s=>some (.str s.data.toList)|.pointer none=>some .nilPtr|.slice none 0 0=>some .nilSlice|.map none=>some .nilMap|.nilFunc=>some .nilFunc|.nilIface=>some .nilIface|.agg cs=>(cs.toList.mapM (qO n)).map .agg|_=>none
def nZ:Operand->Option IA|.tmp t=>some (.tmp t)|.const v=>(qO 3 v).map .val|.global g=>some (.glob g)|.func f=>some (.val (.fn f [] []))
section
variable (P:Program)
def ba(t:TypeId):Option Nat:=(P.info? t).map (·.size)
def lO(t:TypeId):Option Nat:=(P.info? t).map (·.bytes)
def rJ(t:TypeId):Option (Option Nat):=match P.underlying t,ba P t with|some (.struct _),some n=>some (some n)|some (.array _ _),some n=>some (some n)|some (.struct _),none=>none|some (.array _ _),none=>none|some _,some _=>some none|_,_=>none
def gv(t:TypeId):Option IV:=((P.info? t).bind (·.zero)).bind (qO 3)
def nm(aA:TypeId->Option (List Pk)):List Field->Nat->Option (List Pk)|[],_=>some []|f::fs,off=>match aA f.type with|some l=>if f.name≠"_"/\f.offset=off/\ba P f.type=some l.length then(nm aA fs (off+l.length)).map (l++·) else none|none=>none
def cO:Nat->TypeId->Option (List Pk)|0,_=>none|d+1,t=>match P.underlying t with|some .bool=>some [.bool]|some (.int _)=>some [.int]|some .string=>some [.str]|some (.struct fs)=>if P.stoodInHeld t then none else nm P (cO d) fs.toList 0|some (.array n e)=>(match cO d e with|some l=>if ba P e=some l.length then some (List.replicate n l).flatten else none|none=>none)|_=>none
def mf(k:TypeId):Option (Bool×List Pk):=(cO P 8 k).map λds=>(match P.underlying k with|some (.struct _)|some (.array _ _)=>true|_=>false,ds)
def nH(l:List Operand):Option (List IA):=l.mapM nZ
def lr(t:TypeId)(i:Nat):Option Field:=match P.underlying t with|some (.struct fs)=>fs[i]?|_=>none
def jl(e:TypeId):Option (Nat×List IV):=match ba P e,gv P e with|some n,some z=>if z.cells.length=n then some (n,z.cells) else none|_,_=>none
def aU(b:Builtin)(ts:List TypeId):Option Kd:=match b,ts with|.len,[t]=>(match P.underlying t with|some (.slice _)=>some .lenSl|some (.map _ _)=>some .lenMap|_=>none)|.cap,[t]=>(match P.underlying t with|some (.slice _)=>some .cap|_=>none)|.append,[t,u]=>(match P.underlying t,P.underlying u with|some (.slice e),some (.slice _)=>(jl P e).bind λz=>(lO P e).map λb=>.append e z.1 b|some (.slice e),some .string=>(jl P e).bind λz=>(lO P e).map λb=>.append e z.1 b|_,_=>none)|.copy,t::_=>(match P.underlying t with|some (.slice e)=>(ba P e).map .copy|_=>none)|.delete,t::_=>(match P.underlying t with|some (.map k _)=>(mf P k).map .delete|_=>none)|.clear,t::_=>(match P.underlying t with|some (.slice e)=>(jl P e).map λz=>.clear z.2|_=>none)|.min,_=>some .min|.max,_=>some .max|_,_=>none
def GB(op:BinOp)(t:TypeId):Option Kd:=match op with|.eql|.neq=>(let neg:=op matches .neq;match P.underlying t with|some .bool=>some (.eqBool neg)|some (.int _)|some .string=>some (.bin op)|some (.struct _)|some (.array _ _)=>if P.eqGuardType P.depth t then none else(cO P 8 t).map (.eqFlat neg)|some (.pointer _)=>some (.eqNil neg .ptr)|some (.slice _)=>some (.eqNil neg .sl)|some (.map _ _)=>some (.eqNil neg .map)|some (.func _ _ _)=>some (.eqNil neg .fn)|_=>none)|_=>some (.bin op)
def rv(place:Nat->Option (Nat×Nat))(q:Array (Nat×Operand)):Option (List (Nat×Nat)):=q.toList.mapM λp=>place p.1
def cK(op:Op):Option Kd:=match op with|.move _|.assign _=>some .move|.pick _ _ _=>some .pick|.alloc e=>(ba P e).bind λn=>(gv P e).map λz=>.alloc e n z.cells|.box e _=>(ba P e).map λn=>.box e n|.build t A=>(match P.underlying t with|some (.struct fs)=>if fs.all λf=>(ba P f.type).isSome then (rv (λi=>(fs[i]?).bind λf=>(ba P f.type).map λn=>(f.offset,n)) A).bind λq=>(gv P t).map λz=>.build z.cells q else none|some (.array _ e)=>(ba P e).bind λn=>(rv (λi=>some (i*n,n)) A).bind λq=>(gv P t).map λz=>.build z.cells q|_=>none)|.buildSlice t len A=>(match P.underlying t with|some (.slice e)=>(jl P e).bind λz=>(rv (λi=>some (i*z.1,z.1)) A).bind λq=>if len*z.1<=2^24/\len<2^40 then some (.buildSl e z.1 len (nR len z.2) q) else none|_=>none)|.load t _=>(rJ P t).map .load|.store t _ _=>(ba P t).map .store|.nilCheck _=>some .nilCheck|.binOp op t _ _ _=>GB P op t|.unOp op _ _=>some (.un op)|.convert F dst _=>(match P.underlying F,P.underlying dst with|some (.int _),some (.int k)=>some (.conv k)|_,_=>none)|.makeFunc (.func f) u _=>some (.mkfn f u.size)|.makeMap t _=>(match P.underlying t with|some (.map _ _)=>some .mkmap|_=>none)|.makeSlice t _ _=>(match P.underlying t with|some (.slice e)=>(jl P e).bind λz=>(lO P e).map λb=>.mksl e z.1 b z.2|_=>none)|.slice t _ lo hi I=>(match P.underlying t with|some (.slice e)=>(ba P e).map λn=>.slc n lo.isSome hi.isSome I.isSome|_=>none)|.fieldAddr t _ i=>(lr P t i).bind λf=>(ba P f.type).bind λn=>if n=0 then none else some (.fieldAddr f.offset)|.field t _ i=>(lr P t i).bind λf=>(rJ P f.type).map λn=>.field f.offset n|.indexAddr t _ _=>(match P.underlying t with|some (.slice e)=>(ba P e).map .idxSl|some (.array n e)=>(ba P e).map λk=>.idxArrAddr n k|_=>none)|.index t _ _=>(match P.underlying t with|some (.array n e)=>(ba P e).bind λk=>(rJ P e).map λa=>.idxArr n k a|_=>none)|.lookup t _ _ ok=>(match P.underlying t with|some (.map k e)=>(mf P k).bind λky=>(gv P e).map λz=>.lookup t ky z ok|_=>none)|.mapUpdate t _ _ _|.insert t _ _ _=>(match P.underlying t with|some (.map E _)=>(mf P E).map .mapUpd|_=>none)|.mapEntry t _ _=>(match P.underlying t with|some (.map E e)=>(mf P E).bind λky=>(gv P e).map λz=>.mapEntry t ky z|_=>none)|.entryStore _ _ _ _=>some .entryStore|.range t _=>(match P.underlying t with|some (.map _ _)=>some .rangeM|_=>none)|.next _ false=>some .nextM|.entry _=>some .entryM|.extract _ i=>some (.extract i)|.call c=>(match c.callee with|.value _=>some .call|.builtin b=>aU P b c.argTypes.toList|_=>none)|_=>none
def Rn(o:Oper):Option (Kd×List IA):=do
 let kd←cK P o.op
 let as←nH o.op.operands.toList
 pure (kd,as)
def Ld:List Oper->Nat->Bool|[],_=>true|o::os,i=>(o.after.all λe=>!Region.binds .any e||decide (e.on<i))&&Ld os (i+1)
def mask(q:List Nat)(o:Oper):Nat:=o.after.toList.foldl (λs e=>if Region.binds .any e then s||| 2^e.on||| q.getD e.on 0 else s) 0
def kc:List Oper->List Nat->List Nat|[],q=>q|o::os,q=>kc os (q++[mask q o])
def fI(ms:List Nat)(i j:Nat):Bool:=(ms.getD (Max.max i j) 0).testBit (Min.min i j)
def wW:IA->Option Nat|.tmp t=>some t|_=>none
def IOp.names(o:IOp):List Nat:=o.dst.toList++o.args.filterMap wW++(o.guard.map (·.1)).toList
def qQ(a b:IOp):Bool:=(match a.dst with|some d=>!b.names.contains d|none=>true)&& (match b.dst with|some d=>!a.names.contains d|none=>true)
def mz(ms:List Nat)(i:Nat)(a:IOp):List IOp->Nat->Bool|[],_=>true|b::l,j=>(fI ms i j||qQ a b)&&mz ms i a l (j+1)
def ub(ms:List Nat):List IOp->Nat->Bool|[],_=>true|a::l,i=>mz ms i a l (i+1)&&ub ms l (i+1)
def my(ops:Array Oper)(o:Oper):Option IOp:=do
 let (kd,args)←Rn P o
 let guard←match o.guard with
  | none=>pure none
  | some (j,want)=>do pure (some (←(ops[j]?).bind (·.dst),want))
 pure {dst:=o.dst,kd,args,guard,amb:=true,idx:=0,mask:=0}
def BY(ms:List Nat)(i:Nat):Bool:=(ms.drop i).all λm=>m%2^i=2^i - 1
def mZ(l:List IOp):Sg:=if l.length<=1 then .seq else .free
def Kd.isLoad:Kd->Bool|.load _|.slc _ _ _ _=>true|_=>false
def Kd.isLook:Kd->Bool|.lookup _ _ _ false=>true|_=>false
def Kd.light(k:Kd):Bool:=k.pure||k.isLoad||k.isLook
def Kd.isWr:Kd->Bool|.append _ _ _|.mapEntry _ _ _=>true|_=>false
def jT(ms:List Nat)(i:Nat)(ok:Kd->Bool):List IOp->Nat->Bool|[],_=>true|b::l,j=>(i==j||fI ms i j||ok b.kd)&&jT ms i ok l (j+1)
def HO(ms:List Nat)(l:List IOp)(i:Nat)(k:Kd):Bool:=k.isStore||jT ms i Kd.pure l 0||(k.isWr&&jT ms i Kd.light l 0)
def lC(ms:List Nat)(all:List IOp):List IOp->Nat->List IOp|[],_=>[]|o::l,i=>{o with amb:=HO ms all i o.kd,idx:=i,mask:=ms.getD i 0}::lC ms all l (i+1)
def kz(a b:IOp):Bool:=a.kd.light||b.kd.light||(a.kd.isStore&&b.kd.isStore)||(!a.amb&&!b.amb)
def jX(ms:List Nat)(i:Nat)(a:IOp):List IOp->Nat->Bool|[],_=>true|b::l,j=>(fI ms i j||kz a b)&&jX ms i a l (j+1)
def pW(ms:List Nat):List IOp->Nat->Bool|[],_=>true|a::l,i=>jX ms i a l (i+1)&&pW ms l (i+1)
def parts(ms:List Nat):List IOp->Nat->List IOp->List (Sg×List IOp)|[],_,[]=>[]|[],_,q=>[(mZ q.reverse,q.reverse)]|o::l,i,q=>if BY ms (i+1) then(mZ (o::q).reverse,(o::q).reverse)::parts ms l (i+1) [] else parts ms l (i+1) (o::q)
def CY(md:Region.Mode)(ops:Array Oper):List Nat->List Nat->Bool|[],seen=>(List.range ops.size).all seen.contains|i::l,seen=>(match ops[i]? with|some o=>o.after.all (λe=>!Region.binds md e||seen.contains e.on)|none=>false)&&CY md ops l (i::seen)
def xv(ops:Array Oper):Bool:=CY .any ops (List.range ops.size) []&& (!Region.departs ops||(CY .text ops (List.range ops.size) []&&CY .gc ops (Region.linearise .gc ops 0) []))
def dQ(ops:Array Oper)(draw:Bool):Option (List (Sg×List IOp)):=do
 let l←ops.toList.mapM (my P ops)
 if draw then
  let ms:=kc ops.toList []
  let l:=lC ms l l 0
  if xv ops&&Ld ops.toList 0&&ub ms l 0&&pW ms l 0 then pure (parts ms l 0 []) else none
 else pure [(.seq,l)]
def aY:Code→Option IC
 | .skip=>some .skip
 | .region _ ops draw=>(dQ P ops draw).map .ops
 | .seq a b=>do pure (.seq (←aY a) (←aY b))
 | .cond c a b=>do pure (.cond (←nZ c) (←aY a) (←aY b))
 | .block id c=>do pure (.block id (←aY c))
 | .scope c=>do pure (.scope (←aY c))
 | .label _=>some .skip
 | .loop c=>do pure (.loop (←aY c))
 | .rangeFunc f ps asg body=>do pure (.rfn (←nZ f) ps.toList (←aY asg) (←aY body))
 | .exit id=>some (.exit id)
 | .ret=>some .ret
 | _=>none
def vY:ResultVar->Option (Nat×Option (Option Nat))|.tmp t=>some (t,none)|.cell a t=>(rJ P t).map λn=>(a,some n)
def iX(f:FuncId):Option IFn:=
 match P.funcs[f]? with
 | none=>none
 | some fn=>
   if fn.name=="runtime.NumGoroutine" then none else
   match fn.body with
   | none=>none
   | some c=>do pure ⟨fn.ntmps,←fn.results.toList.mapM (vY P),←aY P c⟩
end
def IObj.owned:IObj->Bool|.cells true _ _ _=>false|.dead=>false|_=>true
def jH:Jmp->Code|.exit id=>.exit id|.ret=>.ret
def EsR(μ:Mu):List (IV×IV×Nat)->List MapEntry->Prop|[],l=>l=[]|(k,v,s)::u,l=>∃(e:MapEntry) (q:List MapEntry),l=e::q/\VR μ k e.key/\VR μ v e.val/\e.born=s/\EsR μ u q
def EsR.mono{μ q:Mu}(u:μ.le q):∀{A:List (IV×IV×Nat)}{l:List MapEntry},EsR μ A l->EsR q A l|[],_,h=>h|(k,v,_)::_,_,h=>by obtain⟨e,E,a,b,c,d,f⟩:=h;exact⟨e,E,a,VR.mono u k _ b,VR.mono u v _ c,d,EsR.mono u f⟩
def ObjR(P:Program)(μ:Mu)(o:IObj)(p ez z:Nat)(h:Option Obj):Prop:=match o with|.cells true _ _ cs=>ez=0/\∃(q:Array Value) (e:TypeId) (U:Nat×Nat),h=some (.cells q e U)/\p+cs.length<=q.size/\VRs μ cs ((q.toList.drop p).take cs.length)|.cells false e K cs=>p=0/\ez=K/\∃q:Array Value,h=some (.cells q e (0,0))/\q.size=z/\cs.length<=z/\VRs μ cs (q.toList.take cs.length)|.map T u=>p=0/\∃E:Array MapEntry,h=some (.map E u)/\EsR μ T E.toList|.loop st pend tm V I body Q=>p=0/\∃L:Loop,h=some (.loop L)/\L.state=st/\L.pending=pend.map jH/\VRs μ tm L.tmps.toList/\L.params.toList=V/\ aY P L.assign=some I/\aY P L.body=some body/\LocR μ Q 0 ⟨L.defers,0,none⟩|.deferred=>p=0/\h=some (.deferred (some []))|.taken=>p=0/\h=some (.deferred none)|.iter m A seen F=>p=0/\∃O:Option Nat,h=some (.mapIter O A seen.toArray F)/\VR μ (match m with|none=>.nilMap|some b=>.map b) (.map O)|.dead=>False
def ObjR.mono{P:Program}{μ A:Mu}{o:IObj}{p ez z:Nat}{h:Option Obj}(u:μ.le A)(k:ObjR P μ o p ez z h):ObjR P A o p ez z h:=by cases o with|cells Y e T cs=>cases Y;{obtain⟨a,b,q,c,d,F,f⟩:=k;exact⟨a,b,q,c,d,F,VRs.mono u _ _ f⟩};{obtain⟨a,q,F,U,b,c,f⟩:=k;exact⟨a,q,F,U,b,c,VRs.mono u _ _ f⟩}|map es E=>obtain⟨a,I,b,c⟩:=k;exact⟨a,I,b,EsR.mono u c⟩|loop st pend tm ps Q body Z=>obtain⟨a,L,b,c,d,e,f,g,i,j⟩:=k;exact⟨a,L,b,c,d,VRs.mono u _ _ e,f,g,i,j.mono u⟩|deferred=>exact k|taken=>exact k|iter m K seen O=>obtain⟨a,V,b,c⟩:=k;exact⟨a,V,b,VR.mono u _ _ c⟩|dead=>exact k
def ObjR.some_{P:Program}{μ:Mu}{o:IObj}{p ez z:Nat}{h:Option Obj}(k:ObjR P μ o p ez z h):∃x,h=some x:=by cases o with|cells O e K cs=>cases O;{obtain⟨_,_,u,c,_⟩:=k;exact⟨_,c⟩};{obtain⟨_,u,T,V,b,_⟩:=k;exact⟨_,b⟩}|map U q=>obtain⟨_,I,b,_⟩:=k;exact⟨_,b⟩|loop st pend tm Z F body Q=>obtain⟨_,L,b,_⟩:=k;exact⟨_,b⟩|deferred=>exact⟨_,k.2⟩|taken=>exact⟨_,k.2⟩|iter m A seen E=>obtain⟨_,Y,b,_⟩:=k;exact⟨_,b⟩|dead=>exact k.elim
abbrev Gt:=Nat->Option IObj
def bj(g:Gt)(b:Nat):Prop:=∃o,g b=some o/\o.owned=true
structure Rel(P:Program)(g0:Nat)(μ:Mu)(g:Gt)(n:Nat)(w:World):Prop where
 lt:∀b,μ b≠.no→b < n
 inj:∀b b' c p ez z p' ez' z',μ b=.at c p ez z→μ b'=.at c p' ez' z'→bj g b→b=b'
 obj:∀b c p ez z,μ b=.at c p ez z→∃o,g b=some o∧ObjR P μ o p ez z w.heap[c]?
 glob:∀i,i < g0→μ i=.at i 0 0 0
 ded:∀b,μ b=.dead→g b=some .dead
structure Post(lo:Nat)(μ:Mu)(g:Gt)(n:Nat)(w:World)(μ':Mu)(g':Gt)(n':Nat)(w':World):Prop where
 le:μ.le μ'
 hn:n≤n'
 old:∀b,b < n→μ b=.no→μ' b=.no
 low:∀b,b < lo→b < n→μ' b=μ b∧g' b=g b
 own:∀b,b < n→bj g' b→bj g b
 new:∀b c p ez z,n≤b→μ' b=.at c p ez z→w.heap.size≤c∨∃b0 p0 ez0 z0,lo≤b0∧b0 < n∧bj g b0∧μ b0=.at c p0 ez0 z0
 full:∀b,n≤b→b < n'→μ' b≠.no
 size:w.heap.size≤w'.heap.size
 frame:∀c,c < w.heap.size→(∀b p ez z,lo≤b→b < n→bj g b→μ b≠.at c p ez z)→w'.heap[c]? =w.heap[c]?
 os:w'.os=w.os
 tape:w'.tape=w.tape
 output:w'.output=w.output
 drawn:w.drawn≤w'.drawn
section
variable {P:Program}{g0 lo n:Nat}{μ:Mu}{g:Gt}{w:World}
def Rel.clt(h:Rel P g0 μ g n w){b c p ez z:Nat}(q:μ b=.at c p ez z):c<w.heap.size:=by obtain⟨o,_,u⟩:=h.obj b c p ez z q;obtain⟨x,hx⟩:=u.some_;grind
def Rel.heap_eq{w':World}(h:Rel P g0 μ g n w)(e:w'.heap=w.heap):Rel P g0 μ g n w':=⟨h.lt,h.inj,λb c p ez z q=>by rw[e];exact h.obj b c p ez z q,h.glob,h.ded⟩
def Rel.congr{E:Gt}(h:Rel P g0 μ g n w)(e:∀b,μ b≠.no->E b=g b):Rel P g0 μ E n w where lt:=h.lt;inj:=λb b' c p ez z K u O q A I=>h.inj b b' c p ez z K u O q A (by obtain⟨o,Q,F⟩:=I;exact⟨o,by grind,F⟩);obj:=λb c p ez z q=>by{rw[e b (by grind)];exact h.obj b c p ez z q};glob:=h.glob;ded:=λb q=>by rw[e b (by grind)];exact h.ded b q
def Rel.more{q:Nat}(h:Rel P g0 μ g n w)(hn:n<=q):Rel P g0 μ g q w:=⟨λb u=>cj (h.lt b u) hn,h.inj,h.obj,h.glob,h.ded⟩
theorem Post.refl(h:Rel P g0 μ g n w):Post lo μ g n w μ g n w where le:=μ.le_refl;hn:=aq _;old:=λ_ _ h=>h;low:=λ_ _ _=>⟨rfl,rfl⟩;own:=λ_ _ h=>h;new:=λb c p ez z A e=>absurd (h.lt b (by grind)) Om;full:=λb q u=>Om;size:=aq _;frame:=λ_ _ _=>rfl;os:=rfl;tape:=rfl;output:=rfl;drawn:=aq _
def Post.trans{n1 n2:Nat}{I V:Mu}{g1 g2:Gt}{w1 w2:World}(h:Post lo μ g n w I g1 n1 w1)(k:Post lo I g1 n1 w1 V g2 n2 w2):Post lo μ g n w V g2 n2 w2 where le:=Mu.le_trans h.le k.le;hn:=dq h.hn k.hn;old:=λb E e=>k.old b (cj E h.hn) (h.old b E e);low:=λb hl E=>by{obtain⟨a1,a2⟩:=h.low b hl E;obtain⟨b1,b2⟩:=k.low b hl (cj E h.hn);grind};own:=λb E o=>h.own b E (k.own b (cj E h.hn) o);new:=λb c p ez z E e=>by{have key:∀b0 K u z0,lo<=b0->b0<n1->bj g1 b0->I b0=.at c K u z0->w.heap.size<=c\/∃b0 K u z0,lo<=b0/\b0<n/\bj g b0/\μ b0=.at c K u z0:=by{intro b0 K u z0 O ad ho Q;by_cases q:b0<n;{have A:μ b0≠.no:=λT=>by{rw[h.old b0 q T] at Q;cases Q};rcases h.le b0 A with F|F;{exact .inr ⟨b0,K,u,z0,O,q,h.own b0 q ho,by rw[<-F];exact Q⟩};{rw[F] at Q;cases Q}};{exact h.new b0 c K u z0 Om Q}};by_cases q:b<n1;{have A:I b≠.no:=λT=>by{rw[k.old b q T] at e;cases e};rcases k.le b A with F|F;{exact h.new b c p ez z E (by rw[<-F];exact e)};{rw[F] at e;cases e}};{rcases k.new b c p ez z Om e with Y|⟨b0,K,u,z0,Z,h2,h3,h4⟩;{exact .inl (dq h.size Y)};grind}};full:=λb Z h2=>by{by_cases E:b<n1;{have A:=h.full b Z E;rcases k.le b A with e|e<;>grind};{exact k.full b Om h2}};size:=dq h.size k.size;frame:=λc Y U=>by{refine(k.frame c (cj Y h.size) λb p ez z O ad ho e=>?_).trans (h.frame c Y U);by_cases q:b<n;{have A:μ b≠.no:=λT=>by{rw[h.old b q T] at e;cases e};rcases h.le b A with F|F;{exact U b p ez z O q (h.own b q ho) (by rw[<-F];exact e)};{rw[F] at e;cases e}};{rcases h.new b c p ez z Om e with ag|⟨b0,K,u,z0,Z,h2,h3,h4⟩<;>grind}};os:=k.os.trans h.os;tape:=k.tape.trans h.tape;output:=k.output.trans h.output;drawn:=dq h.drawn k.drawn
def Post.lower{q n1:Nat}{u:Mu}{g1:Gt}{F:World}(Y:lo<=q)(h:Post q μ g n w u g1 n1 F):Post lo μ g n w u g1 n1 F where le:=h.le;hn:=h.hn;old:=h.old;low:=λb a c=>h.low b Om c;own:=h.own;new:=λb c p ez z K e=>by{rcases h.new b c p ez z K e with E|⟨b0,Z,I,z0,Q,T,U,V⟩<;>grind};full:=h.full;size:=h.size;frame:=λc E A=>h.frame c E λb p ez z O=>A b p ez z Om;os:=h.os;tape:=h.tape;output:=h.output;drawn:=h.drawn
def Post.same{w':World}(h:Rel P g0 μ g n w)(e:w'.heap=w.heap)(q:w'.os=w.os)(u:w'.tape=w.tape)(A:w'.output=w.output)(E:w.drawn<=w'.drawn:=by first|exact aq _|exact qX _|assumption|(simp;done)|omega):Post lo μ g n w μ g n w' where le:=μ.le_refl;hn:=aq _;old:=λ_ _ h=>h;low:=λ_ _ _=>⟨rfl,rfl⟩;own:=λ_ _ h=>h;new:=λb c p ez z K e=>absurd (h.lt b (by grind)) Om;full:=λb F I=>Om;size:=by{rw[e];exact aq _};frame:=λ_ _ _=>by{rw[e]};os:=q;tape:=u;output:=A;drawn:=E
def Mu.upd(μ:Mu)(b:Nat)(l:Loc):Mu:=λx=>if x=b then l else μ x
theorem aH(μ:Mu)(b:Nat)(l:Loc):μ.upd b l b=l:=by simp[Mu.upd]
theorem aI(μ:Mu){b x:Nat}(l:Loc)(h:x≠b):μ.upd b l x=μ x:=by simp[Mu.upd,h]
def Mu.le_upd(μ:Mu){b:Nat}(l:Loc)(h:μ b=.no):μ.le (μ.upd b l):=λx hx=>by left;refine aI _ _ λe=>hx (by rw[e];exact h)
def Mu.le_kill(μ:Mu)(b:Nat):μ.le (μ.upd b .dead):=λx hx=>by grind[aH,aI]
def Rel.fresh(h:Rel P g0 μ g n w):μ n=.no:=by cases e:μ n with|no=>rfl|dead=>exact absurd (h.lt n (by grind)) Om|«at» c p ez z=>exact absurd (h.lt n (by grind)) Om
theorem TH(h:Array Obj)(ob:Obj):(h.push ob)[h.size]? =some ob:=by simp
def FV(h:Array Obj)(ob:Obj){c:Nat}(q:c<h.size):(h.push ob)[c]? =h[c]?:=by grind
def Rel.alloc{H:Heap}(h:Rel P g0 μ H.get H.n w){w':World}{ob:Obj}{o:IObj}{ez z:Nat}(U:w'.heap=w.heap.push ob)(T:ObjR P (μ.upd H.n (.at w.heap.size 0 ez z)) o 0 ez z (some ob))(V:w'.os=w.os)(Y:w'.tape=w.tape)(Z:w'.output=w.output)(e4:w.drawn<=w'.drawn:=by first|exact aq _|exact qX _|assumption|(simp;done)|omega):Rel P g0 (μ.upd H.n (.at w.heap.size 0 ez z)) (H.new o).get (H.new o).n w'/\ Post lo μ H.get H.n w (μ.upd H.n (.at w.heap.size 0 ez z)) (H.new o).get (H.new o).n w':=by have I:=h.fresh;have F:=μ.le_upd (.at w.heap.size 0 ez z) I;have old:∀b,b≠H.n->(H.new o).get b=H.get b:=λb q=>by{rw[aj,if_neg (Ne.symm q)]};have ad:(H.new o).get H.n=some o:=by{rw[aj,if_pos rfl]};refine⟨⟨λb q=>?_,?_,?_,λi hi=>?_,λb q=>?_⟩,⟨F,by rw[ac];omega,λb q e=>?_,λb _ q=>?_,λb q T=>?_,λb c p ez z q e=>?_,λb h1 h2=>?_,?_,λc hc _=>?_,V,Y,Z,e4⟩⟩;{rw[ac];by_cases e:b=H.n;{omega};{rw[aI _ _ e] at q;have:=h.lt b q;omega}};{intro b b' c p ez z p' A Q q u K;by_cases e:b=H.n;{subst e;rw[aH] at q;by_cases E:b'=H.n;{exact E.symm};{rw[aI _ _ E] at u;have:=h.clt u;grind}};{rw[aI _ _ e] at q;by_cases E:b'=H.n;{subst E;rw[aH] at u;have:=h.clt q;grind};{rw[aI _ _ E] at u;refine h.inj b b' c p ez z p' A Q q u ?_;obtain⟨x,hx,O⟩:=K;exact⟨x,by rw[<-old b e];exact hx,O⟩}}};{intro b c p A Q q;by_cases e:b=H.n;{grind[aH,TH]};{rw[aI _ _ e] at q;obtain⟨x,hx,hr⟩:=h.obj b c p A Q q;refine⟨x,by rw[old b e];exact hx,?_⟩;rw[U,FV _ _ (h.clt q)];exact hr.mono F}};{have hn:μ i≠.no:=by{rw[h.glob i hi];exactλx=>by cases x};rw[aI _ _ (Oh (h.lt i hn))];exact h.glob i hi};{by_cases e:b=H.n;{grind[aH]};{rw[aI _ _ e] at q;rw[old b e];exact h.ded b q}};{grind[aI]};{grind[aI]};{obtain⟨x,hx,O⟩:=T;exact⟨x,by grind,O⟩};{by_cases eb:b=H.n;{grind[aH]};{rw[aI _ _ eb] at e;exact absurd (h.lt b (by grind)) Om}};{grind[ac,aH]};{grind};{rw[U,FV _ _ hc]}
def Rel.update{H:Heap}(h:Rel P g0 μ H.get H.n w){w':World}{b c p ez z:Nat}{o:IObj}(K:μ b=.at c p ez z)(an:lo<=b)(E:bj H.get b)(aE:w'.heap.size=w.heap.size)(u:∀c',c'≠c->w'.heap[c']? =w.heap[c']?)(ho:ObjR P μ o p ez z w'.heap[c]?)(e1:w'.os=w.os)(e2:w'.tape=w.tape)(e3:w'.output=w.output)(e4:w.drawn<=w'.drawn:=by first|exact aq _|exact qX _|assumption|(simp;done)|omega):Rel P g0 μ (H.put b o).get (H.put b o).n w'/\Post lo μ H.get H.n w μ (H.put b o).get (H.put b o).n w':=by have old:∀x,x≠b->(H.put b o).get x=H.get x:=λx hx=>by{rw[aa,if_neg (Ne.symm hx)]};have V:(H.put b o).get b=some o:=by{rw[aa,if_pos rfl]};have ad:b<H.n:=h.lt b (by rw[K];exactλx=>by cases x);have A:∀x,bj (H.put b o).get x->bj H.get x:=λx hx=>by{by_cases e:x=b;{subst e;exact E};{obtain⟨y,U,hz⟩:=hx;exact⟨y,by rw[<-old x e];exact U,hz⟩}};refine⟨⟨h.lt,λx x' c1 F q I p2 O z2 hx T Q=>h.inj x x' c1 F q I p2 O z2 hx T (A x Q),λx c1 F q I hx=>?_,h.glob,λx hx=>by rw[old x (λe=>by subst e;rw[K] at hx;cases hx)];exact h.ded x hx⟩,⟨μ.le_refl,aq _,λ_ _ e=>e,λx aS _=>⟨rfl,old x Om⟩,λx _ hx=>A x hx,λx c1 F q I hx e=>absurd (h.lt x (by rw[e];exactλy=>by cases y)) Om,λx h1 h2=>by rw[af] at h2;omega,Om,λc1 ag ay=>u c1 λe=>?_,e1,e2,e3,e4⟩⟩;{by_cases e:x=b;{subst e;rw[K] at hx;injection hx with Y Z a3 a4;subst Y Z a3 a4;exact⟨o,V,ho⟩};{obtain⟨y,U,hr⟩:=h.obj x c1 F q I hx;refine⟨y,by rw[old x e];exact U,?_⟩;rw[u c1 λec=>e ?_];{exact hr};{subst ec;exact(h.inj b x c1 p ez z F q I K hx E).symm}}};grind
def Rel.kill{H:Heap}(h:Rel P g0 μ H.get H.n w){b:Nat}(V:lo<=b)(hg:g0<=b)(U:μ b≠.no):Rel P g0 (μ.upd b .dead) (H.put b .dead).get (H.put b .dead).n w/\Post lo μ H.get H.n w (μ.upd b .dead) (H.put b .dead).get (H.put b .dead).n w:=by have old:∀x,x≠b->(H.put b .dead).get x=H.get x:=λx hx=>by{rw[aa,if_neg (Ne.symm hx)]};have F:(H.put b .dead).get b=some .dead:=by{rw[aa,if_pos rfl]};have K:b<H.n:=h.lt b U;have E:=μ.le_kill b;have q:∀x c p ez z,μ.upd b .dead x=.at c p ez z->x≠b/\μ x=.at c p ez z:=λx c p ez z hx=>by{by_cases e:x=b;{subst e;rw[aH] at hx;cases hx};{rw[aI _ _ e] at hx;exact⟨e,hx⟩}};have u:∀x,bj (H.put b .dead).get x->bj H.get x:=λx hx=>by{by_cases e:x=b;{subst e;obtain⟨y,A,Q⟩:=hx;rw[F] at A;injection A with A;subst A;cases Q};{obtain⟨y,A,Q⟩:=hx;exact⟨y,by rw[<-old x e];exact A,Q⟩}};refine⟨⟨λx hx=>?_,λx x' c p ez z p' I z' hx O Y=>h.inj x x' c p ez z p' I z' (q _ _ _ _ _ hx).2 (q _ _ _ _ _ O).2 (u x Y),λx c p ez z hx=>?_,λi hi=>?_,λx hx=>?_⟩,⟨E,aq _,λx hx e=>?_,λx ad hx=>⟨aI _ _ Om,old x Om⟩,λx _ hx=>u x hx,λx c p ez z hx e=>absurd (h.lt x (by rw[(q _ _ _ _ _ e).2];exactλy=>by cases y)) Om,λx h1 T=>by rw[af] at T;omega,aq _,λ_ _ _=>rfl,rfl,rfl,rfl,aq _⟩⟩;{by_cases e:x=b;{subst e;exact K};{rw[aI _ _ e] at hx;exact h.lt x hx}};{obtain⟨e,hx⟩:=q _ _ _ _ _ hx;obtain⟨y,A,Z⟩:=h.obj x c p ez z hx;exact⟨y,by rw[old x e];exact A,Z.mono E⟩};{rw[aI _ _ Om];exact h.glob i hi};{by_cases e:x=b;{subst e;exact F};{rw[aI _ _ e] at hx;rw[old x e];exact h.ded x hx}};grind[absurd,aI]
def Rel.regrow{H:Heap}(h:Rel P g0 μ H.get H.n w){w':World}{b c ez z:Nat}{o:IObj}(V:μ b=.at c 0 ez z)(aE:lo<=b)(hg:g0<=b)(I:bj H.get b)(a8:w'.heap.size=w.heap.size)(O:∀c',c'≠c->w'.heap[c']? =w.heap[c']?)(ho:ObjR P ((μ.upd b .dead).upd H.n (.at c 0 ez z)) o 0 ez z w'.heap[c]?)(e1:w'.os=w.os)(e2:w'.tape=w.tape)(e3:w'.output=w.output)(e4:w.drawn<=w'.drawn:=by first|exact aq _|exact qX _|assumption|(simp;done)|omega):Rel P g0 ((μ.upd b .dead).upd H.n (.at c 0 ez z)) ((H.put b .dead).new o).get ((H.put b .dead).new o).n w'/\ Post lo μ H.get H.n w ((μ.upd b .dead).upd H.n (.at c 0 ez z)) ((H.put b .dead).new o).get ((H.put b .dead).new o).n w':=by have ay:b<H.n:=h.lt b (by rw[V];exactλx=>by cases x);have old:∀x,x≠b->x≠H.n->((H.put b .dead).new o).get x=H.get x:=λx hx F=>by{rw[aj,if_neg (by rw[af];exact Ne.symm F),aa,if_neg (Ne.symm hx)]};have a5:((H.put b .dead).new o).get H.n=some o:=by{rw[aj,af,if_pos rfl]};have an:((H.put b .dead).new o).get b=some .dead:=by{rw[aj,af,iN,aa,if_pos rfl]};have mb:(μ.upd b .dead).upd H.n (.at c 0 ez z) b=.dead:=by{rw[aI _ _ Om,aH]};have mn:(μ.upd b .dead).upd H.n (.at c 0 ez z) H.n=.at c 0 ez z:=aH _ _ _;have U:∀x,x≠b->x≠H.n->(μ.upd b .dead).upd H.n (.at c 0 ez z) x=μ x:=λx hx F=>by{rw[aI _ _ F,aI _ _ hx]};have ag:μ.le ((μ.upd b .dead).upd H.n (.at c 0 ez z)):=λx hx=>by{by_cases e:x=b;{subst e;exact .inr mb};{exact .inl (U x e λA=>by subst A;exact hx h.fresh)}};have q:∀x c' p' K z',(μ.upd b .dead).upd H.n (.at c 0 ez z) x=.at c' p' K z'->(x=H.n/\c'=c/\p'=0/\K=ez/\z'=z)\/(x≠b/\x≠H.n/\μ x=.at c' p' K z'):=by{intro x c' p' K z' hx;by_cases e:x=H.n;{subst e;rw[mn] at hx;injection hx with u a2 a3 a4;exact .inl ⟨rfl,u.symm,a2.symm,a3.symm,a4.symm⟩};{by_cases A:x=b;{subst A;rw[mb] at hx;cases hx};{rw[U x A e] at hx;exact .inr ⟨A,e,hx⟩}}};have Q:∀x,x<H.n->bj ((H.put b .dead).new o).get x->bj H.get x:=λx hx T=>by{obtain⟨y,hy,hz⟩:=T;by_cases e:x=b;{subst e;exact I};{exact⟨y,by rw[<-old x e Om];exact hy,hz⟩}};refine⟨⟨λx hx=>?_,λx x' c1 Y E Z p2 ad z2 hx F a0=>?_,λx c1 Y E Z hx=>?_,λi hi=>?_,λx hx=>?_⟩,⟨ag,by rw[ac,af];omega,λx hx e=>?_,λx a9 hx=>⟨U x Om Om,old x Om Om⟩,λx hx T=>Q x hx T,λx c1 Y E Z hx e=>?_,λx h1 h2=>?_,Om,λc1 a6 a7=>O c1 λe=>?_,e1,e2,e3,e4⟩⟩;{rw[ac,af];by_cases e:x=H.n;{omega};{by_cases A:x=b;{omega};{rw[U x A e] at hx;have:=h.lt x hx;omega}}};{rcases q _ _ _ _ _ hx with⟨a,u,-⟩|⟨a,a',u⟩;{rcases q _ _ _ _ _ F with⟨d,-⟩|⟨d,d',d1⟩;{rw[a,d]};{subst u;exact absurd (h.inj b x' c1 0 ez z p2 ad z2 V d1 I).symm d}};{have aS:=h.lt x (by rw[u];exactλx=>by cases x);rcases q _ _ _ _ _ F with⟨d,d1,-⟩|⟨d,d',d1⟩;{subst d1;exact absurd (h.inj b x c1 0 ez z Y E Z V u I).symm a};{exact h.inj x x' c1 Y E Z p2 ad z2 u d1 (Q x aS a0)}}};{rcases q _ _ _ _ _ hx with⟨a,u,a2,a3,a4⟩|⟨a,a',u⟩;{subst a u a2 a3 a4;exact⟨o,a5,ho⟩};{obtain⟨y,hy,hr⟩:=h.obj x c1 Y E Z u;refine⟨y,by rw[old x a a'];exact hy,?_⟩;rw[O c1 λec=>a ?_];{exact hr.mono ag};{subst ec;exact(h.inj b x c1 0 ez z Y E Z V u I).symm}}};{have hn:μ i≠.no:=by{rw[h.glob i hi];exactλx=>by cases x};rw[U i Om (Oh (h.lt i hn))];exact h.glob i hi};{by_cases e:x=b;{subst e;exact an};{by_cases A:x=H.n;{subst A;rw[mn] at hx;cases hx};{rw[U x e A] at hx;rw[old x e A];exact h.ded x hx}}};{by_cases A:x=b;{subst A;rw[V] at e;cases e};{rw[U x A Om];exact e}};{rcases q _ _ _ _ _ e with⟨a,u,-⟩|⟨a,a',u⟩;{subst u;exact .inr ⟨b,0,ez,z,aE,ay,I,V⟩};{exact absurd (h.lt x (by rw[u];exactλy=>by cases y)) Om}};{have e:x=H.n:=by{rw[ac,af] at h2;omega};subst e;rw[mn];exactλx=>by cases x};grind
end
section
variable {P:Program}{g0 lo:Nat}{μ:Mu}{H:Heap}{w:World}
def Gives(P:Program)(g0 lo:Nat)(μ:Mu)(H:Heap)(w:World)(s:Sem Next)(v:IV)(H':Heap):Prop:=∃(nx:Next) (v':Value) (w':World) (q:Mu),s.run P w=.ok nx w'/\(nx=.value v'\/(nx=.skip/\v'=undef))/\ Rel P g0 q H'.get H'.n w'/\Post lo μ H.get H.n w q H'.get H'.n w'/\VR q v v'
def Gives.pure(h:Rel P g0 μ H.get H.n w){s:Sem Next}{v:IV}{v':Value}(q:s.run P w=.ok (.value v') w)(u:VR μ v v'):Gives P g0 lo μ H w s v H:=⟨_,v',w,μ,q,.inl rfl,h,Post.refl h,u⟩
def bR{x:IV}{l:List Value}(h:VRs μ [x] l):∃a,l=[a]/\VR μ x a:=by obtain⟨a,l1,rfl,q,u⟩:=h;cases u;exact⟨a,rfl,q⟩
def bX{x y:IV}{l:List Value}(h:VRs μ [x,y] l):∃a b,l=[a,b]/\VR μ x a/\VR μ y b:=by obtain⟨a,l1,rfl,q,u⟩:=h;obtain⟨b,rfl,A⟩:=bR u;exact⟨a,b,rfl,q,A⟩
def nL{x y z:IV}{l:List Value}(h:VRs μ [x,y,z] l):∃a b c,l=[a,b,c]/\VR μ x a/\VR μ y b/\VR μ z c:=by obtain⟨a,l1,rfl,u,q⟩:=h;obtain⟨b,c,rfl,A,E⟩:=bX q;grind
def gW{k:IntKind}{n:Int}{v:Value}(h:VR μ (.int k n) v):v=.int k n:=h
def kK{b:Bool}{v:Value}(h:VR μ (.bool b) v):v=.bool b:=h
def Lz{s:List UInt8}{v:Value}(h:VR μ (.str s) v):v=.string ⟨⟨s⟩⟩:=h
def bz{t:TypeId}{n:Nat}(h:ba P t=some n)(w:World):(sizeOf t).run P w=.ok n w:=by unfold ba at h;cases hi:P.info? t<;>simp_all[sizeOf,typeInfo]
def xH{t:TypeId}{n:Nat}(h:ba P t=some n):∃i,P.info? t=some i/\i.size=n:=by unfold ba at h;cases hi:P.info? t with|none=>rw[hi] at h;cases h|some i=>rw[hi] at h;injection h with h;exact⟨i,rfl,h⟩
def we{t:TypeId}{n:Nat}(h:lO P t=some n):∃i,P.info? t=some i/\i.bytes=n:=by unfold lO at h;cases hi:P.info? t with|none=>rw[hi] at h;cases h|some i=>rw[hi] at h;injection h with h;exact⟨i,rfl,h⟩
def vX:∀(n:Nat)(v:Value)(x:IV),qO n v=some x->∀μ:Mu,VR μ x v:=by intro n;induction n with|zero=>intro v x h;cases h|succ n F=>intro v x h μ;unfold qO at h;split at h;{injection h with h;subst h;rfl};{injection h with h;subst h;rfl};{injection h with h;subst h;rfl};{injection h with h;subst h;rfl};{injection h with h;subst h;rfl};{injection h with h;subst h;rfl};{injection h with h;subst h;rfl};{injection h with h;subst h;rfl};{rename_i cs;cases hm:List.mapM (qO n) cs.toList with|none=>rw[hm] at h;cases h|some l=>rw[hm] at h;injection h with h;subst h;refine⟨cs,rfl,?_⟩;have key:∀(vs:List Value)(l:List IV),vs.mapM (qO n)=some l->VRs μ l vs:=by{intro vs;induction vs with|nil=>intro l q;simp at q;subst q;rfl|cons a vs E=>intro l q;simp only[q9] at q;cases u:qO n a with|none=>rw[u] at q;cases q|some x=>rw[u] at q;cases A:vs.mapM (qO n) with|none=>rw[A] at q;cases q|some xs=>rw[A] at q;injection q with q;subst q;exact⟨a,vs,rfl,F a x u μ,E xs A⟩};exact key _ _ hm};{cases h}
def ip{t:TypeId}{z:IV}(h:gv P t=some z):∃i q,P.info? t=some i/\i.zero=some q/\∀μ:Mu,VR μ z q:=by unfold gv at h;cases hi:P.info? t with|none=>rw[hi] at h;cases h|some i=>rw[hi] at h;cases u:i.zero with|none=>simp[u] at h|some q=>simp[u] at h;exact⟨i,q,rfl,u,vX 3 q z h⟩
def VR.cells_{x:IV}{v:Value}(h:VR μ x v):VRs μ x.cells v.cells.toList:=by cases x with|agg l=>obtain⟨A,rfl,u⟩:=h;exact u|ptr b o=>obtain⟨a,rfl,q⟩:=h;exact⟨_,_,rfl,⟨a,rfl,q⟩,rfl⟩|slice b o n lb ex=>obtain⟨a,c,rfl,q⟩:=h;exact⟨_,_,rfl,⟨a,c,rfl,q⟩,rfl⟩|map b=>obtain⟨a,rfl,q⟩:=h;exact⟨_,_,rfl,⟨a,rfl,q⟩,rfl⟩|fn f a b=>obtain⟨l,r,rfl,q⟩:=h;exact⟨_,_,rfl,⟨l,r,rfl,q⟩,rfl⟩|yield b=>obtain⟨a,rfl,q⟩:=h;exact⟨_,_,rfl,⟨a,rfl,q⟩,rfl⟩|iface t x=>obtain⟨a,rfl,q⟩:=h;exact⟨_,_,rfl,⟨a,rfl,q⟩,rfl⟩|tuple l=>obtain⟨A,rfl,u⟩:=h;exact⟨_,_,rfl,⟨A,rfl,u⟩,rfl⟩|bool b=>cases h;exact⟨_,_,Rr⟩|int k n=>cases h;exact⟨_,_,Rr⟩|str s=>cases h;exact⟨_,_,Rr⟩|nilPtr=>cases h;exact⟨_,_,Rr⟩|nilSlice=>cases h;exact⟨_,_,Rr⟩|nilMap=>cases h;exact⟨_,_,Rr⟩|nilFunc=>cases h;exact⟨_,_,Rr⟩|nilIface=>cases h;exact⟨_,_,Rr⟩
def VR.one_cell{x:IV}{v:Value}(h:VR μ x v)(u:x.one=true):v.oneCell'=true:=by cases x with|agg l=>cases u|tuple l=>cases u|ptr b o=>obtain⟨a,rfl,q⟩:=h;rfl|slice b o n lb ex=>obtain⟨a,c,rfl,q⟩:=h;rfl|map b=>obtain⟨a,rfl,q⟩:=h;rfl|fn f a b=>obtain⟨l,r,rfl,q⟩:=h;rfl|yield b=>obtain⟨a,rfl,q⟩:=h;rfl|iface t x=>obtain⟨a,rfl,q⟩:=h;rfl|_=>cases h;rfl
def VRs.one_cells:∀{l:List IV}{A:List Value},VRs μ l A->l.all IV.one=true->∀v∈A,v.oneCell'=true|[],_,h,_,v,q=>by cases h;cases q|x::xs,_,h,u,v,q=>by obtain⟨y,ys,rfl,E,F⟩:=h;simp only[lU,bP] at u;cases q with|head=>exact E.one_cell u.1|tail _ q=>exact VRs.one_cells F u.2 v q
end
section
variable {P:Program}{g0 lo:Nat}{μ:Mu}{H:Heap}{w:World}{ρ:Operand->Value}{type:TypeId}{pos:String}{dst:Option Tmp}{after:Array Edge}{guard:Option (Nat×Bool)}{xs:List IV}{v:IV}{H':Heap}
def Pq(h:Rel P g0 μ H.get H.n w){x:Operand}(q:ev1 .move xs lo H=some (v,H'))(hx:VRs μ xs [ρ x]):Gives P g0 lo μ H w (execOp ρ ⟨dst,.move x,type,pos,after,guard⟩) v H'/\Gives P g0 lo μ H w (execOp ρ ⟨dst,.assign x,type,pos,after,guard⟩) v H':=by simp only[ev1] at q;split at q;{injection q with q;injection q with u A;subst u A;obtain⟨y,F,E⟩:=bR hx;simp_all[Gives.pure,execOp]};{cases q}
def Wu(h:Rel P g0 μ H.get H.n w){c a b:Operand}(q:ev1 .pick xs lo H=some (v,H'))(hx:VRs μ xs [ρ c,ρ a,ρ b]):Gives P g0 lo μ H w (execOp ρ ⟨dst,.pick c a b,type,pos,after,guard⟩) v H':=by simp only[ev1] at q;split at q;{rename_i c1 O b1;injection q with q;injection q with E F;subst E F;obtain⟨Q,T,U,A,u,I,K⟩:=nL hx;simp only[fW,and_true] at A;obtain⟨rfl,rfl,rfl⟩:=A;cases c1;{exact Gives.pure h (v':=ρ b) (by simp[execOp,kK u,asBool]) (by simpa using K)};{exact Gives.pure h (v':=ρ a) (by simp[execOp,kK u,asBool]) (by simpa using I)}};{cases q}
def IN(h:Rel P g0 μ H.get H.n w){x:Operand}(E:ev1 .nilCheck xs lo H=some (v,H'))(hx:VRs μ xs [ρ x]):Gives P g0 lo μ H w (execOp ρ ⟨dst,.nilCheck x,type,pos,after,guard⟩) v H':=by simp only[ev1] at E;split at E;{rename_i a;obtain⟨y,F,A⟩:=bR hx;injection F with F;subst F;cases a<;>simp only[reduceCtorEq] at E<;>(injection E with E;injection E with I K;subst I K);(case fn f l r=>obtain⟨O,Q,e,q⟩:=A;exact Gives.pure h (v':=ρ x) (by simp[execOp,e]) ⟨O,Q,e,q⟩);(case ptr b o=>obtain⟨a,e,q⟩:=A;exact Gives.pure h (v':=ρ x) (by simp[execOp,e]) ⟨a,e,q⟩);(case slice b o n lb ex=>obtain⟨a,c,e,q⟩:=A;exact Gives.pure h (v':=ρ x) (by simp[execOp,e]) ⟨a,c,e,q⟩);(case map b=>obtain⟨a,e,q⟩:=A;exact Gives.pure h (v':=ρ x) (by simp[execOp,e]) ⟨a,e,q⟩);(case iface t u=>obtain⟨a,e,q⟩:=A;exact Gives.pure h (v':=ρ x) (by simp[execOp,e]) ⟨a,e,q⟩);(case agg l=>obtain⟨a,e,q⟩:=A;exact Gives.pure h (v':=ρ x) (by simp[execOp,e]) ⟨a,e,q⟩);(case tuple l=>obtain⟨a,e,q⟩:=A;exact Gives.pure h (v':=ρ x) (by simp[execOp,e]) ⟨a,e,q⟩);all_goals have e:ρ x=_:=A;exact Gives.pure h (v':=ρ x) (by simp[execOp,e]) e};{cases E}
def RE{op:BinOp}{k A:IntKind}{a b:Int}{r:IV}(q:oj op (.int k a) (.int A b)=some r)(t:TypeId):∃E:Value,(binOp op t (.int k a) (.int A b)).run P w=.ok E w/\∀μ:Mu,VR μ r E:=by cases op<;>simp only[oj] at q;(case shl=>by_cases u:b<0;{grind};{rw[if_neg u] at q;injection q with q;subst q;exact⟨_,by simp[binOp,Op.shift,u],λ_=>rfl⟩});(case shr=>by_cases u:b<0;{grind};{rw[if_neg u] at q;injection q with q;subst q;exact⟨_,by simp[binOp,Op.shift,u],λ_=>rfl⟩});all_goals by_cases F:k=A;{subst F;simp only[if_true] at q;first|(injection q with q;subst q;exact⟨_,by simp[binOp,Op.intArith,Op.intBits,Op.intCmp]<;>rfl,λ_=>rfl⟩)|(by_cases u:b=0;{grind};{rw[if_neg u] at q;injection q with q;subst q;exact⟨_,by simp[binOp,Op.intDiv,u]<;>rfl,λ_=>rfl⟩})};{grind}
def Hv{s:ByteArray}{l:List UInt8}(h:s.data.toList=l):s=⟨⟨l⟩⟩:=by subst h;rfl
def LT(l:List UInt8):(ByteArray.mk (Array.mk l)).toList=l:=by rw[ByteArray.toList_eq]
def RD{op:BinOp}{a b:List UInt8}{r:IV}(q:oj op (.str a) (.str b)=some r)(t:TypeId):∃u:Value,(binOp op t (.string ⟨⟨a⟩⟩) (.string ⟨⟨b⟩⟩)).run P w=.ok u w/\∀μ:Mu,VR μ r u:=by cases op<;>simp only[oj,reduceCtorEq] at q;(case add=>split at q;{rename_i K;injection q with q;subst q;refine⟨.string (⟨⟨a⟩⟩++⟨⟨b⟩⟩),?_,λ_=>?_⟩;{have I:¬((((ByteArray.mk ⟨a⟩).size+(ByteArray.mk ⟨b⟩).size:Nat):Int)>IntKind.i64.max):=by{have A:(ByteArray.mk ⟨a⟩).size=a.length:=rfl;have E:(ByteArray.mk ⟨b⟩).size=b.length:=rfl;have F:IntKind.i64.max=9223372036854775807:=rfl;rw[A,E,F];omega};simp_all[binOp,Op.stringOp,if_neg]};{show Value.string _=Value.string _;exact congrArg Value.string (Hv (by simp))}};{cases q});all_goals injection q with q;subst q;exact⟨_,by simp[binOp,Op.stringOp,LT]<;>rfl,λ_=>rfl⟩
def iz{op:BinOp}{t:TypeId}{x y:Operand}{a b:Value}(q:∀cs,a≠.agg cs)(u:a≠.nilIface):(eqGuard op t x y a b).run P w=.ok () w:=by simp_all[eqGuard]
def PC(h:Rel P g0 μ H.get H.n w){op:BinOp}{t U:TypeId}{x y:Operand}(u:ev1 (.bin op) xs lo H=some (v,H'))(hx:VRs μ xs [ρ x,ρ y]):Gives P g0 lo μ H w (execOp ρ ⟨dst,.binOp op t x y U,type,pos,after,guard⟩) v H':=by simp only[ev1] at u;split at u;{rename_i a b;obtain⟨Z,y2,O,I,K⟩:=bX hx;simp only[fW,and_true] at O;obtain⟨rfl,rfl⟩:=O;cases A:oj op a b with|none=>rw[A] at u;cases u|some r=>rw[A] at u;injection u with u;injection u with Q T;subst Q T;cases a with|int k n=>(cases b with|int V m=>obtain⟨F,q,E⟩:=RE (P:=P) (w:=w) A t;refine Gives.pure h (v':=F) ?_ (E μ);simp only[execOp,gW I,gW K];simp[iz,q]|_=>cases op<;>simp[oj] at A)|str s=>(cases b with|str Y=>obtain⟨F,q,E⟩:=RD (P:=P) (w:=w) A t;refine Gives.pure h (v':=F) ?_ (E μ);simp only[execOp,Lz I,Lz K];simp[iz,q]|_=>cases op<;>simp[oj] at A)|_=>cases op<;>simp[oj] at A};{cases u}
def Px(h:Rel P g0 μ H.get H.n w){op:BinOp}{neg:Bool}{t U:TypeId}{x y:Operand}(T:P.underlying t=some .bool)(E:op=.eql/\neg=false\/op=.neq/\neg=true)(u:ev1 (.eqBool neg) xs lo H=some (v,H'))(hx:VRs μ xs [ρ x,ρ y]):Gives P g0 lo μ H w (execOp ρ ⟨dst,.binOp op t x y U,type,pos,after,guard⟩) v H':=by simp only[ev1] at u;split at u;{rename_i a b;injection u with u;injection u with O Q;subst O Q;obtain⟨V,Y,K,F,I⟩:=bX hx;simp only[fW,and_true] at K;obtain⟨rfl,rfl⟩:=K;have A:∀d:Nat,(Op.equalIn (d+1) t (.bool a) (.bool b)).run P w=.ok (a==b) w:=λd=>by{simp[Op.equalIn,run_underlying T]};have q:(Op.equal t (.bool a) (.bool b)).run P w=.ok (a==b) w:=A 9999;rcases E with⟨rfl,rfl⟩|⟨rfl,rfl⟩;{refine Gives.pure h (v':=.bool (a==b)) ?_ (by simp[VR]);simp only[execOp,kK F,kK I];simp[iz,binOp,q]};{refine Gives.pure h (v':=.bool (!(a==b))) ?_ (by simp[VR]);simp only[execOp,kK F,kK I];simp[iz,binOp,q]}};{cases u}
def acC(h:Rel P g0 μ H.get H.n w){op:UnOp}{t:TypeId}{x:Operand}(q:ev1 (.un op) xs lo H=some (v,H'))(hx:VRs μ xs [ρ x]):Gives P g0 lo μ H w (execOp ρ ⟨dst,.unOp op t x,type,pos,after,guard⟩) v H':=by simp only[ev1] at q;split at q;{rename_i a;obtain⟨y,A,E⟩:=bR hx;injection A with A;subst A;cases u:V8 op a with|none=>rw[u] at q;cases q|some r=>rw[u] at q;injection q with q;injection q with F I;subst F I;cases a with|int k n=>have e:=gW E;cases op<;>simp[V8] at u<;>subst u;{exact Gives.pure h (by simp[execOp,e,Op.unary,Op.intArith]<;>rfl) rfl};{exact Gives.pure h (by simp[execOp,e,Op.unary,Op.intBits]<;>rfl) rfl}|bool b=>have e:=kK E;cases op<;>simp[V8] at u;subst u;exact Gives.pure h (by simp[execOp,e,Op.unary]<;>rfl) rfl|_=>simp[V8] at u};{cases q}
def Wz(h:Rel P g0 μ H.get H.n w){k k0:IntKind}{s d:TypeId}{x:Operand}(hs:P.underlying s=some (.int k0))(hd:P.underlying d=some (.int k))(q:ev1 (.conv k) xs lo H=some (v,H'))(hx:VRs μ xs [ρ x]):Gives P g0 lo μ H w (execOp ρ ⟨dst,.convert s d x,type,pos,after,guard⟩) v H':=by simp only[ev1] at q;split at q;{rename_i I n;injection q with q;injection q with A E;subst A E;obtain⟨y,u,F⟩:=bR hx;injection u with u;subst u;exact Gives.pure h (by simp[execOp,gW F,convert,run_underlying hs,run_underlying hd,Conv.intToInt]<;>rfl) rfl};{cases q}
def Ww(h:Rel P g0 μ H.get H.n w){f:FuncId}{q cap:Array Operand}(u:ev1 (.mkfn f q.size) xs lo H=some (v,H'))(hx:VRs μ xs ((q++cap).toList.map ρ)):Gives P g0 lo μ H w (execOp ρ ⟨dst,.makeFunc (.func f) q cap,type,pos,after,guard⟩) v H':=by simp only[ev1] at u;injection u with u;injection u with A E;subst A E;refine Gives.pure h (v':=.func (.func f) (q.map ρ) (cap.map ρ)) (by simp[execOp,Instr.makeFunc]) ⟨_,_,rfl,?_,?_⟩;{have:=hx.take q.size;simp_all[List.take,yp,List.take_append]};{have:=hx.drop q.size;simp_all[List.drop,List.drop_append]}
def Mk(h:Rel P g0 μ H.get H.n w){i:Nat}{x:Operand}(q:ev1 (.extract i) xs lo H=some (v,H'))(hx:VRs μ xs [ρ x]):Gives P g0 lo μ H w (execOp ρ ⟨dst,.extract x i,type,pos,after,guard⟩) v H':=by simp only[ev1] at q;split at q;{rename_i l;cases A:l[i]? with|none=>rw[A] at q;cases q|some r=>rw[A] at q;injection q with q;injection q with K O;subst K O;obtain⟨y,I,U⟩:=bR hx;injection I with I;subst I;obtain⟨V,e,Q⟩:=U;obtain⟨u,T,F⟩:=Q.get A;have E:V[i]? =some u:=by{simpa using T};exact Gives.pure h (v':=u) (by simp[execOp,e,Instr.extract,E]) F};{cases q}
end
section
variable {P:Program}{g0 lo:Nat}{μ:Mu}{H:Heap}{w:World}{ρ:Operand->Value}{type:TypeId}{pos:String}{dst:Option Tmp}{after:Array Edge}{guard:Option (Nat×Bool)}{xs:List IV}{v:IV}{H':Heap}
def vn{t:TypeId}{n:Option Nat}(h:rJ P t=some n):(n=none/\(∀w:World,(isAgg t).run P w=.ok false w))\/(∃k,n=some k/\ba P t=some k/\(∀w:World,(isAgg t).run P w=.ok true w)):=by unfold rJ at h;cases q:P.underlying t with|none=>simp[q] at h|some d=>cases hs:ba P t with|none=>cases d<;>simp[q,hs] at h|some k=>cases d<;>simp[q,hs] at h<;>subst h<;> first|exact .inl ⟨rfl,λw=>by simp[isAgg,run_underlying q]⟩|exact .inr ⟨k,rfl,rfl,λw=>by simp[isAgg,run_underlying q]⟩
def yJ{t:TypeId}{n:Option Nat}(O:rJ P t=some n){cs:List IV}{A:Array Value}(I:VRs μ cs A.toList){off:Nat}{r:IV}(E:off+n.getD 1<=cs.length)(u:ak n ((cs.drop off).take (n.getD 1))=some r):∃K:Value,(part t A off).run P w=.ok K w/\VR μ r K:=by rcases vn O with⟨rfl,q⟩|⟨k,rfl,hs,q⟩;{simp only[Dw] at u E;have F:off<cs.length:=Om;have e:(cs.drop off).take 1=[cs[off]]:=by{rw[qL F];rfl};rw[e] at u;injection u with u;subst u;obtain⟨y,T,Q⟩:=I.get (i:=off) (x:=cs[off]) (bO F);simp_all[part]};{injection u with u;subst u;refine⟨.agg (A.extract off (off+k)),by simp[part,q,bz hs],_,rfl,?_⟩;have:=(I.drop off).take k;simp_all[DH]}
def tz{t:TypeId}{i:Nat}{f:Field}(h:lr P t i=some f):∃fs:Array Field,P.underlying t=some (.struct fs)/\fs[i]? =some f:=by grind[lr]
def Tn(h:Rel P g0 μ H.get H.n w){t:TypeId}{x:Operand}{i:Nat}{f:Field}{n:Option Nat}(Q:lr P t i=some f)(O:rJ P f.type=some n)(q:ev1 (.field f.offset n) xs lo H=some (v,H'))(hx:VRs μ xs [ρ x]):Gives P g0 lo μ H w (execOp ρ ⟨dst,.field t x i,type,pos,after,guard⟩) v H':=by obtain⟨fs,Y,hi⟩:=tz Q;simp only[ev1] at q;split at q;{rename_i cs;split at q;{rename_i u;cases A:ak n ((cs.drop f.offset).take (n.getD 1)) with|none=>rw[A] at q;cases q|some r=>rw[A] at q;injection q with q;injection q with I K;subst I K;obtain⟨y,E,Z,e,T⟩:=bR hx;injection E with E;subst E;obtain⟨V,F,U⟩:=yJ (P:=P) (w:=w) O T u A;exact Gives.pure h (v':=V) (by simp_all[execOp,Instr.field,run_underlying,asAgg]) U};{cases q}};{cases q}
theorem wV(c p n:Nat):(⟨c,p,none⟩:Addr).add n=⟨c,p+n,none⟩:=by grind[Addr.add]
def LocR.add{b o n:Nat}{a:Addr}(h:LocR μ b o a):LocR μ b (o+n) (a.add n):=by grind[LocR,wV,Nat.add_assoc]
def FE(h:Rel P g0 μ H.get H.n w){t:TypeId}{x:Operand}{i:Nat}{f:Field}{n:Nat}(F:lr P t i=some f)(hs:ba P f.type=some n)(hn:n≠0)(q:ev1 (.fieldAddr f.offset) xs lo H=some (v,H'))(hx:VRs μ xs [ρ x]):Gives P g0 lo μ H w (execOp ρ ⟨dst,.fieldAddr t x i,type,pos,after,guard⟩) v H':=by obtain⟨fs,K,hi⟩:=tz F;simp only[ev1] at q;split at q;{rename_i b o;injection q with q;injection q with A E;subst A E;obtain⟨y,u,a,e,I⟩:=bR hx;injection u with u;subst u;exact Gives.pure h (v':=.pointer (some (a.add f.offset))) (by simp_all[execOp,Instr.fieldAt,run_underlying,Instr.sureAddr,fieldPlace,bz]) ⟨_,rfl,I.add⟩};{cases q}
def SlR.loc{b o cap:Nat}{ex:Bool}{a:Addr}(h:SlR μ b o ex cap a)(q:cap≠0):LocR μ b o a:=by grind[SlR,LocR]
def Tm(h:Rel P g0 μ H.get H.n w){t e:TypeId}{x i:Operand}{n:Nat}(T:P.underlying t=some (.slice e))(hs:ba P e=some n)(q:ev1 (.idxSl n) xs lo H=some (v,H'))(hx:VRs μ xs [ρ x,ρ i]):Gives P g0 lo μ H w (execOp ρ ⟨dst,.indexAddr t x i,type,pos,after,guard⟩) v H':=by simp only[ev1] at q;split at q;{rename_i b o len lb ex k j;split at q;{rename_i O;injection q with q;injection q with A F;subst A F;obtain⟨U,V,E,⟨a,cap,A,K,Q⟩,I⟩:=bX hx;simp only[fW,and_true] at E;obtain⟨rfl,rfl⟩:=E;have u:cap≠0:=by{obtain⟨c1,c2,_⟩:=K;omega};exact Gives.pure h (v':=.pointer (some (a.add (j.toNat*n)))) (by simp[execOp,Instr.indexAt,gW I,asIntOf,run_underlying T,A,O,bz hs]) ⟨_,rfl,(Q.loc u).add⟩};{cases q}};{cases q}
def C9(h:Rel P g0 μ H.get H.n w){t e:TypeId}{x i:Operand}{len n:Nat}(O:P.underlying t=some (.array len e))(hs:ba P e=some n)(q:ev1 (.idxArrAddr len n) xs lo H=some (v,H'))(hx:VRs μ xs [ρ x,ρ i]):Gives P g0 lo μ H w (execOp ρ ⟨dst,.indexAddr t x i,type,pos,after,guard⟩) v H':=by simp only[ev1] at q;split at q;{rename_i b o k j;split at q;{rename_i I;injection q with q;injection q with u E;subst u E;obtain⟨Q,T,A,⟨a,u,K⟩,F⟩:=bX hx;simp only[fW,and_true] at A;obtain⟨rfl,rfl⟩:=A;exact Gives.pure h (v':=.pointer (some (a.add (j.toNat*n)))) (by simp[execOp,Instr.indexAt,gW F,asIntOf,run_underlying O,u,Instr.sureAddr,I,bz hs]) ⟨_,rfl,K.add⟩};{cases q}};{cases q}
def Pw(h:Rel P g0 μ H.get H.n w){t e:TypeId}{x i:Operand}{len k:Nat}{n:Option Nat}(Z:P.underlying t=some (.array len e))(hs:ba P e=some k)(U:rJ P e=some n)(q:ev1 (.idxArr len k n) xs lo H=some (v,H'))(hx:VRs μ xs [ρ x,ρ i]):Gives P g0 lo μ H w (execOp ρ ⟨dst,.index t x i,type,pos,after,guard⟩) v H':=by simp only[ev1] at q;split at q;{rename_i cs kd j;split at q;{rename_i V;obtain⟨F,I,u⟩:=V;cases K:ak n ((cs.drop (j.toNat*k)).take (n.getD 1)) with|none=>rw[K] at q;cases q|some r=>rw[K] at q;injection q with q;injection q with E Q;subst E Q;obtain⟨y1,y2,O,⟨l',E,Y⟩,T⟩:=bX hx;simp only[fW,and_true] at O;obtain⟨rfl,rfl⟩:=O;obtain⟨r',A,hv⟩:=yJ (P:=P) (w:=w) U Y u K;exact Gives.pure h (v':=r') (by simp[execOp,Instr.index,gW T,asIntOf,run_underlying Z,E,F,I,bz hs,A]) hv};{cases q}};{cases q}
def Tl(h:Rel P g0 μ H.get H.n w){t e:TypeId}{args:Array Operand}{ts:Array TypeId}(F:ts=#[t])(I:P.underlying t=some (.slice e))(u:ev1 .lenSl xs lo H=some (v,H'))(hx:VRs μ xs (args.toList.map ρ)):Gives P g0 lo μ H w (execOp ρ ⟨dst,.call ⟨.builtin .len,args,ts⟩,type,pos,after,guard⟩) v H':=by simp only[ev1] at u;split at u;{rename_i x;obtain⟨y,O,K⟩:=bR hx;have q:args.map ρ=#[y]:=by{grind};subst F;cases x with|nilSlice=>injection u with u;injection u with A E;subst A E;cases K;exact Gives.pure h (v':=.int .i64 0) (by simp[execOp,resolve,invoke,builtin,q,Builtin.len_,run_underlying I,goInt]) rfl|slice b o n lb ex=>injection u with u;injection u with A E;subst A E;obtain⟨a,c,rfl,_⟩:=K;exact Gives.pure h (v':=.int .i64 n) (by simp[execOp,resolve,invoke,builtin,q,Builtin.len_,run_underlying I,goInt]) rfl|_=>simp at u};{cases u}
def aai(h:Rel P g0 μ H.get H.n w){t e:TypeId}{args:Array Operand}{ts:Array TypeId}(F:ts=#[t])(I:P.underlying t=some (.slice e))(u:ev1 .cap xs lo H=some (v,H'))(hx:VRs μ xs (args.toList.map ρ)):Gives P g0 lo μ H w (execOp ρ ⟨dst,.call ⟨.builtin .cap,args,ts⟩,type,pos,after,guard⟩) v H':=by simp only[ev1] at u;split at u;{rename_i x;obtain⟨y,Q,K⟩:=bR hx;have q:args.map ρ=#[y]:=by{grind};subst F;cases x with|nilSlice=>injection u with u;injection u with A E;subst A E;cases K;exact Gives.pure h (v':=.int .i64 0) (by simp[execOp,resolve,invoke,builtin,q,Builtin.cap_,run_underlying I,goInt]) rfl|slice b o n lb ex=>(cases ex with|false=>simp at u|true=>injection u with u;injection u with A E;subst A E;obtain⟨a,c,rfl,O,_⟩:=K;have:c=lb:=O.2.2.2 rfl;subst this;exact Gives.pure h (v':=.int .i64 c) (by simp[execOp,resolve,invoke,builtin,q,Builtin.cap_,run_underlying I,goInt]) rfl)|_=>simp at u};{cases u}
def aad(h:Rel P g0 μ H.get H.n w){args:Array Operand}{ts:Array TypeId}(q:ev1 .min xs lo H=some (v,H'))(hx:VRs μ xs (args.toList.map ρ)):Gives P g0 lo μ H w (execOp ρ ⟨dst,.call ⟨.builtin .min,args,ts⟩,type,pos,after,guard⟩) v H':=by simp only[ev1] at q;split at q;{rename_i k a K b;split at q;{injection q with q;injection q with A E;subst A E;obtain⟨Q,T,O,F,I⟩:=bX hx;cases F;cases I;have u:args.map ρ=#[.int k a,.int K b]:=by{grind};exact Gives.pure h (v':=.int k (if b<a then b else a)) (by simp[execOp,resolve,invoke,builtin,u,Builtin.min_,Builtin.min2]) rfl};{cases q}};{cases q}
def aae(h:Rel P g0 μ H.get H.n w){args:Array Operand}{ts:Array TypeId}(q:ev1 .max xs lo H=some (v,H'))(hx:VRs μ xs (args.toList.map ρ)):Gives P g0 lo μ H w (execOp ρ ⟨dst,.call ⟨.builtin .max,args,ts⟩,type,pos,after,guard⟩) v H':=by simp only[ev1] at q;split at q;{rename_i k a K b;split at q;{injection q with q;injection q with A E;subst A E;obtain⟨Q,T,O,F,I⟩:=bX hx;cases F;cases I;have u:args.map ρ=#[.int k a,.int K b]:=by{grind};exact Gives.pure h (v':=.int k (if b>a then b else a)) (by simp[execOp,resolve,invoke,builtin,u,Builtin.max_,Builtin.max2]) rfl};{cases q}};{cases q}
def dR{y i:Nat}{x:IV}{u:Value}(h:cC y x=some i)(A:VR μ x u)(c:BoundsCode)(q:Nat)(F:y<=q)(w:World):(Instr.sliceBound u q c).run P w=.ok i w/\i<=y:=by cases x with|int k n=>cases A;simp only[cC] at h;split at h;{rename_i hn;injection h with h;subst h;have E:0<=n/\n<=(q:Int):=Om;simp_all[Instr.sliceBound,asIntOf]};{cases h}|_=>simp[cC] at h
def Ai{isSl:Bool}{len I cap:Nat}{l:List IV}{a b:Nat}{m:Option Nat}{V hi Z:Option Operand}(A:bW len I V.isSome hi.isSome Z.isSome l=some (a,b,m))(ad:len<=I)(hc:I<=cap)(hv:VRs μ l ((V.toArray++hi.toArray++Z.toArray).toList.map ρ))(w:World):(Instr.sliceBounds isSl len cap (V.map ρ) (hi.map ρ) (Z.map ρ)).run P w=.ok (a,b,m.getD cap) w/\a<=b/\b<=m.getD I/\(∀k,m=some k->k<=I):=by cases V with|none=>(cases hi with|none=>(cases Z with|none=>(match l,A with|[],A=>injection A with A;simp only[iO] at A;obtain⟨rfl,rfl,rfl⟩:=A;exact⟨by simp[Instr.sliceBounds],Om,by simpa using ad,λ_ h=>by cases h⟩)|some z=>simp[bW] at A)|some y=>cases Z with|none=>(match l,A with|[Y],A=>obtain⟨u,O,F⟩:=bR hv;simp at O;subst O;simp only[bW,uG,yw] at A;cases E:cC I Y with|none=>rw[E] at A;cases A|some i=>rw[E] at A;injection A with A;simp only[iO] at A;obtain⟨rfl,rfl,rfl⟩:=A;have U:=dR (P:=P) E F;exact⟨by simp_all[Instr.sliceBounds],Om,by simpa using (U .index cap hc w).2,λ_ h=>by cases h⟩)|some z=>match l,A with|[Y,x2],A=>obtain⟨u,u2,O,F,K⟩:=bX hv;simp at O;obtain⟨rfl,rfl⟩:=O;simp only[bW,uG,yw] at A;cases Q:cC I x2 with|none=>rw[Q] at A;cases A|some j=>rw[Q] at A;simp only[bF] at A;cases E:cC j Y with|none=>rw[E] at A;cases A|some i=>rw[E] at A;injection A with A;simp only[iO] at A;obtain⟨rfl,rfl,rfl⟩:=A;have U:=dR (P:=P) E F;have T:=dR (P:=P) Q K;exact⟨by simp_all[Instr.sliceBounds,aq],Om,by simpa using (U .index j (aq _) w).2,λk h=>by injection h with h;subst h;exact(T .index cap hc w).2⟩)|some q=>cases hi with|none=>(cases Z with|none=>(match l,A with|[Y],A=>obtain⟨u,O,F⟩:=bR hv;simp at O;subst O;simp only[bW,uG,yw] at A;cases E:cC len Y with|none=>rw[E] at A;cases A|some i=>rw[E] at A;injection A with A;simp only[iO] at A;obtain⟨rfl,rfl,rfl⟩:=A;have U:=dR (P:=P) E F;exact⟨by simp_all[Instr.sliceBounds,aq],by simpa using (U .index len (aq _) w).2,by simpa using ad,λ_ h=>by cases h⟩)|some z=>simp[bW] at A)|some y=>cases Z with|none=>(match l,A with|[Y,x2],A=>obtain⟨u,u2,O,F,K⟩:=bX hv;simp at O;obtain⟨rfl,rfl⟩:=O;simp only[bW,uG,yw] at A;cases Q:cC I x2 with|none=>rw[Q] at A;cases A|some j=>rw[Q] at A;simp only[bF] at A;cases E:cC j Y with|none=>rw[E] at A;cases A|some i=>rw[E] at A;injection A with A;simp only[iO] at A;obtain⟨rfl,rfl,rfl⟩:=A;have U:=dR (P:=P) E F;have T:=dR (P:=P) Q K;exact⟨by simp_all[Instr.sliceBounds,aq],(U .index j (aq _) w).2,by simpa using (T .index cap hc w).2,λ_ h=>by cases h⟩)|some z=>match l,A with|[Y,x2,x3],A=>obtain⟨u,u2,u3,O,F,K,ag⟩:=nL hv;simp at O;obtain⟨rfl,rfl,rfl⟩:=O;simp only[bW,uG,yw] at A;cases h3:cC I x3 with|none=>rw[h3] at A;cases A|some k=>rw[h3] at A;simp only[bF] at A;cases Q:cC k x2 with|none=>rw[Q] at A;cases A|some j=>rw[Q] at A;simp only[bF] at A;cases E:cC j Y with|none=>rw[E] at A;cases A|some i=>rw[E] at A;injection A with A;simp only[iO] at A;obtain⟨rfl,rfl,rfl⟩:=A;have U:=dR (P:=P) E F;have T:=dR (P:=P) Q K;have an:=dR (P:=P) h3 ag;exact⟨by simp_all[Instr.sliceBounds,aq],(U .index j (aq _) w).2,by simpa using (T .index k (aq _) w).2,λk' h=>by injection h with h;subst h;exact(an .index cap hc w).2⟩
end
section
variable {P:Program}{g0 lo:Nat}{μ:Mu}{H:Heap}{w:World}{ρ:Operand->Value}{type:TypeId}{pos:String}{dst:Option Tmp}{after:Array Edge}{guard:Option (Nat×Bool)}{xs:List IV}{v:IV}{H':Heap}
def Ay(t:TypeId)(x:Operand)(a b c:Option Operand):(Op.slice t x a b c).operands.toList.map ρ=ρ x::((a.toArray++b.toArray++c.toArray).toList.map ρ):=by simp[Op.operands]
def Nt(h:Rel P g0 μ H.get H.n w){b c p ez z size:Nat}(q:tC H b size=true)(E:μ b=.at c p ez z):ez=0\/ez=size:=by unfold tC at q;obtain⟨o,F,u⟩:=h.obj b c p ez z E;rw[F] at q;cases o with|cells I e A cs=>cases I;{simp at q;right;rw[u.2.1,q]};{left;exact u.1}|_=>simp at q
def aab(h:Rel P g0 μ H.get H.n w){t e:TypeId}{x:Operand}{a b c:Option Operand}{n:Nat}(hu:P.underlying t=some (.slice e))(hs:ba P e=some n)(u:ev1 (.slc n a.isSome b.isSome c.isSome) xs lo H=some (v,H'))(hx:VRs μ xs ((Op.slice t x a b c).operands.toList.map ρ)):Gives P g0 lo μ H w (execOp ρ ⟨dst,.slice t x a b c,type,pos,after,guard⟩) v H':=by rw[Ay] at hx;simp only[ev1] at u;split at u;{rename_i s l;obtain⟨y,ys,hy,hv,hl⟩:=hx;simp only[fW] at hy;obtain⟨rfl,rfl⟩:=hy;cases s with|nilSlice=>(simp only at u;cases U:bW 0 0 a.isSome b.isSome c.isSome l with|none=>rw[U] at u;cases u|some r=>obtain⟨i,j,m⟩:=r;rw[U] at u;simp only[bF] at u;split at u;{rename_i ay;obtain⟨rfl,rfl⟩:=ay;injection u with u;injection u with T O;subst T O;obtain⟨F,_,_,hm⟩:=Ai (P:=P) (isSl:=true) U (aq _) (aq 0) hl w;have a0:m.getD 0=0:=by{cases m with|none=>rfl|some k=>have:=hm k rfl;simp;omega};rw[a0] at F;have a3:ρ x=.slice none 0 0:=hv;exact Gives.pure h (v':=.slice none 0 0) (by simp[execOp,Instr.sliceAt,run_underlying hu,Instr.slice,a3,F,bz hs]) rfl};{cases u})|slice bl o len lb ex=>simp only at u;split at u;{rename_i an;cases U:bW len lb a.isSome b.isSome c.isSome l with|none=>rw[U] at u;cases u|some r=>obtain⟨i,j,m⟩:=r;rw[U] at u;obtain⟨ad,cap,aE,⟨c1,c2,c3,c4⟩,E⟩:=hv;obtain⟨F,ay,I,hm⟩:=Ai (P:=P) (isSl:=true) U c1 c2 hl w;have A:(execOp ρ ⟨dst,.slice t x a b c,type,pos,after,guard⟩).run P w=.ok (.value (.slice (some (if m.getD cap=i then ad else ad.add (i*n))) (j - i) (m.getD cap - i))) w:=by{simp only[execOp];simp[Instr.sliceAt,run_underlying hu,Instr.slice,aE,F,bz hs];split<;>rfl};have K:∀ex':Bool,(ex'=false->ex=false/\m=none)->SlR μ bl (o+i*n) ex' (m.getD cap - i) (if m.getD cap=i then ad else ad.add (i*n)):=by{intro ex' Z;unfold SlR at E⊢;cases V:μ bl with|no=>rw[V] at E;exact E|dead=>trivial|«at» q p ez z=>rw[V] at E;simp only at E⊢;refine⟨?_,λT O=>?_⟩;{by_cases a1:m.getD cap=i;{left;omega};{right;rw[if_neg a1];have a4:m.getD cap<=cap:=by{cases m with|none=>exact aq _|some k=>have:=hm k rfl;simp;omega};have aS:i<=m.getD cap:=by{cases m with|none=>simp at I⊢;omega|some k=>simp at I⊢;omega};have Y:cap≠0:=Om;rw[E.1.resolve_left Y,wV,j2]}};{obtain⟨ag,a2⟩:=Z T;subst ag a2;simp only[Bool.false_or] at an;rcases Nt h an V with h0|h0;{exact absurd h0 O};{subst h0;have:=E.2 rfl O;simp only[Dw] at I⊢;have aS:i<=cap:=Om;have:(cap - i)*ez+i*ez=cap*ez:=by{rw[<-qW];congr 1;omega};omega}}};cases m with|none=>simp only[dV] at u;injection u with u;injection u with T O;subst T O;have Q:=K ex λe=>⟨e,rfl⟩;simp only[Dw] at A Q I;exact Gives.pure h A ⟨_,_,rfl,⟨Om,Om,Om,λe=>by have:=c4 e;omega⟩,Q⟩|some k=>simp only[dV] at u;injection u with u;injection u with T O;subst T O;simp only[dW] at A K I;have:=hm k rfl;exact Gives.pure h A ⟨_,_,rfl,⟨Om,aq _,Om,λ_=>rfl⟩,K true λe=>by cases e⟩};{cases u}|_=>simp at u};{cases u}
end
section
variable {P:Program}{g0 lo:Nat}{μ:Mu}{H:Heap}{w:World}{ρ:Operand->Value}{type:TypeId}{pos:String}{dst:Option Tmp}{after:Array Edge}{guard:Option (Nat×Bool)}{xs:List IV}{v:IV}{H':Heap}
theorem dy:∀(cs:List IV)(o:Nat)(vs:List IV),o+vs.length<=cs.length->aw cs o vs=cs.take o++vs++cs.drop (o+vs.length)|[],o,vs,h=>by have q:o=0:=by{rw[cE] at h;omega};have u:vs=[]:=by{rw[cE] at h;exact List.length_eq_zero_iff.1 Om};subst q u;rfl|c::cs,0,[],_=>by simp[aw]|c::cs,0,v::vs,h=>by simp only[aw];rw[dy cs 0 vs (by simp at h;omega)];simp|c::cs,o+1,vs,h=>by simp only[aw];rw[dy cs o vs (by simp at h;omega)];simp[Nat.add_right_comm]
theorem qD(cs:List IV)(o:Nat)(vs:List IV)(h:o+vs.length<=cs.length):(aw cs o vs).length=cs.length:=by grind[dy]
def GN(off:Nat):∀(vs:List Value)(k:Nat)(cells:Array Value),off+k+vs.length<=cells.size->((vs.zipIdx k).foldl (λcs x=>cs.setIfInBounds (off+x.2) x.1) cells).toList=cells.toList.take (off+k)++vs++cells.toList.drop (off+k+vs.length)|[],k,cells,_=>by simp|v::vs,k,cells,h=>by simp only[List.zipIdx_cons,sI];rw[GN off vs (k+1) _ (by simp at h⊢;omega)];have e:=list_seg_step cells.toList (off+k) v vs (by simp at h⊢;omega);simpa [vI,j2] using e
def pq(place:Nat->Option (Nat×Nat)):∀(parts:List (Nat×Operand))(A:List (Nat×Nat))(xs cs r:List IV)(q:Array Value),parts.mapM (λp=>place p.1)=some A->VRs μ xs (parts.map λp=>ρ p.2)->VRs μ cs q.toList->cY A xs cs=some r->∃Y:Array Value,Instr.fill place q (parts.map λp=>(p.1,ρ p.2))=some Y/\VRs μ r Y.toList:=by intro parts;induction parts with|nil=>(intro A xs cs r q E hx K F;simp at E;subst E;cases xs with|nil=>simp[cY] at F;subst F;exact⟨q,rfl,K⟩|cons=>simp[cY] at F)|cons p parts ih=>intro A xs cs r q E hx K F;simp only[q9] at E;cases Z:place p.1 with|none=>rw[Z] at E;cases E|some pl=>obtain⟨off,size⟩:=pl;rw[Z] at E;cases U:parts.mapM (λp=>place p.1) with|none=>rw[U] at E;cases E|some I=>rw[U] at E;injection E with E;subst E;cases xs with|nil=>simp[cY] at F|cons x xs=>obtain⟨y,ys,hy,hv,V⟩:=hx;simp only[aM,fW] at hy;obtain⟨rfl,rfl⟩:=hy;simp only[cY] at F;split at F;{rename_i an;have u:=hv.cells_;have hl:=u.length;have T:x.cells.length=(ρ p.2).cells.size:=by{simpa using hl};have ad:cs.length=q.size:=by{simpa using K.length};have Q:((ρ p.2).cells.size≠size||off+(ρ p.2).cells.size>q.size)=false:=by{have h1:(ρ p.2).cells.size=size:=Om;simp[h1];omega};have O:VRs μ (aw cs off x.cells) ((ρ p.2).cells.zipIdx.foldl (λcs x=>cs.setIfInBounds (off+x.2) x.1) q).toList:=by{rw[<-Array.foldl_toList,Array.toList_zipIdx,GN off _ 0 q (by simp;omega),dy cs off x.cells Om];simp only[oN];rw[show off+(ρ p.2).cells.toList.length=off+x.cells.length by simp[T]];exact((K.take off).append u).append (K.drop _)};obtain⟨Y,ag,ay⟩:=ih I xs _ r _ U V O F;simp_all[aM,Instr.fill,if_neg]};{cases F}
def Gn{α q:Type}(F:α->Sem q)(G:α->q)(w:World):∀l:List α,(∀f∈l,(F f).run P w=.ok (G f) w)->(l.mapM F).run P w=.ok (l.map G) w|[],_=>by simp|f::l,h=>by have u:=h f (by simp);have A:=Gn F G w l λg E=>h g (by simp[E]);simp[u,A]
def I7{fs:Array Field}(hall:(fs.all fun f=>(ba P f.type).isSome)=true)(F:Field→Sem (Nat×Nat))(hF:∀f,F f=(do pure (f.offset,←sizeOf f.type)))(w:World):
  (fs.mapM F).run P w=.ok (fs.map fun f=>(f.offset,(ba P f.type).getD 0)) w:=by
 rw[Array.mapM_eq_mapM_toList]
 have hk:=Gn (P:=P) F (fun f=>(f.offset,(ba P f.type).getD 0)) w fs.toList (fun f hf=>by
  rw[Array.all_eq_true_iff_forall_mem] at hall;have h1:=hall f (by simpa using hf)
  cases hs:ba P f.type with
  | none=>rw[hs] at h1;cases h1
  | some n=>rw[hF];simp[bz hs])
 simp[hk];apply qV;simp
def Tp(h:Rel P g0 μ H.get H.n w){t:TypeId}{I:Array (Nat×Operand)}{kd:Kd}(q:cK P (.build t I)=some kd)(A:ev1 kd xs lo H=some (v,H'))(hx:VRs μ xs ((Op.build t I).operands.toList.map ρ)):Gives P g0 lo μ H w (execOp ρ ⟨dst,.build t I,type,pos,after,guard⟩) v H':=by have Y:(Op.build t I).operands.toList.map ρ=I.toList.map λp=>ρ p.2:=by{simp[Op.operands]};rw[Y] at hx;simp only[cK] at q;cases hu:P.underlying t with|none=>rw[hu] at q;cases q|some d=>rw[hu] at q;cases d with|struct fs=>simp only at q;split at q;{rename_i V;cases O:rv (λi=>(fs[i]?).bind λf=>(ba P f.type).map λn=>(f.offset,n)) I with|none=>rw[O] at q;cases q|some u=>rw[O] at q;cases T:gv P t with|none=>simp[T] at q|some z=>simp[T] at q;subst q;simp only[ev1] at A;cases K:cY u xs z.cells with|none=>rw[K] at A;cases A|some cs=>rw[K] at A;injection A with A;injection A with e1 e2;subst e1 e2;obtain⟨i,zv,hi,U,Q⟩:=ip T;obtain⟨Z,F,hv⟩:=pq (ρ:=ρ) (μ:=μ) (λi=>(fs[i]?).bind λf=>(ba P f.type).map λn=>(f.offset,n)) I.toList u xs z.cells cs zv.cells O hx (Q μ).cells_ K;have E:(λi:Nat=>(fs[i]?).bind λf=>(ba P f.type).map λn=>(f.offset,n))=λi:Nat=>Option.map (λf:Field=>(f.offset,(ba P f.type).getD 0)) fs[i]?:=by{funext i;cases ag:fs[i]? with|none=>rfl|some f=>have:(ba P f.type).isSome=true:=by{grind};cases hs:ba P f.type with|none=>rw[hs] at this;cases this|some n=>simp[hs]};rw[E] at F;refine Gives.pure h (v':=.agg Z) ?_ ⟨Z,rfl,hv⟩;have ad:=I7 V (λf=>Prod.mk f.offset <$>sizeOf f.type) (λf=>by simp) w;simp only[execOp,Instr.build];simp[zeroValue,typeInfo,hi,U,run_underlying hu,ad,F]};{cases q}|array k e=>(simp only at q;cases hs:ba P e with|none=>rw[hs] at q;cases q|some n=>rw[hs] at q;simp only[bF] at q;cases O:rv (λi=>some (i*n,n)) I with|none=>rw[O] at q;cases q|some u=>rw[O] at q;cases T:gv P t with|none=>simp[T] at q|some z=>simp[T] at q;subst q;simp only[ev1] at A;cases K:cY u xs z.cells with|none=>rw[K] at A;cases A|some cs=>rw[K] at A;injection A with A;injection A with e1 e2;subst e1 e2;obtain⟨i,zv,hi,U,Q⟩:=ip T;obtain⟨Z,F,hv⟩:=pq (ρ:=ρ) (μ:=μ) (λi=>some (i*n,n)) I.toList u xs z.cells cs zv.cells O hx (Q μ).cells_ K;refine Gives.pure h (v':=.agg Z) ?_ ⟨Z,rfl,hv⟩;simp only[execOp,Instr.build];simp[zeroValue,typeInfo,hi,U,run_underlying hu,bz hs,F])|_=>simp at q
def XG{u:Bool}{e ez:Nat}{cs:List IV}{q:Array Value}(A:VRs μ cs q.toList)(F:u=false):ObjR P μ (.cells u e ez cs) 0 ez q.size (some (.cells q e (0,0))):=by subst F;have E:=A.length;refine⟨rfl,rfl,q,rfl,rfl,by simp at E;omega,?_⟩;grind
def qe(h:Rel P g0 μ H.get H.n w){e ez:Nat}{cs:List IV}{q:Array Value}(O:VRs μ cs q.toList){w':World}(Q:w'.heap=w.heap.push (.cells q e (0,0)))(E:w'.os=w.os)(F:w'.tape=w.tape)(I:w'.output=w.output)(K:w.drawn<=w'.drawn:=by first|exact aq _|exact qX _|assumption|(simp;done)|omega):∃u:Mu,μ.le u/\u H.n=.at w.heap.size 0 ez q.size/\Rel P g0 u (H.new (.cells false e ez cs)).get (H.new (.cells false e ez cs)).n w'/\ Post lo μ H.get H.n w u (H.new (.cells false e ez cs)).get (H.new (.cells false e ez cs)).n w':=by have A:=μ.le_upd (.at w.heap.size 0 ez q.size) h.fresh;obtain⟨a,b⟩:=h.alloc (lo:=lo) (o:=.cells false e ez cs) (ez:=ez) (z:=q.size) Q (XG (VRs.mono A _ _ O) rfl) E F I K;grind[aH]
def KP{q:Mu}{c ez z n:Nat}(h:q n=.at c 0 ez z):VR q (.ptr n 0) (.pointer (some ⟨c,0,none⟩)):=⟨_,rfl,by unfold LocR;rw[h]⟩
def Ts(h:Rel P g0 μ H.get H.n w){e n:Nat}{z:IV}(Q:gv P e=some z)(q:ev1 (.alloc e n z.cells) xs lo H=some (v,H')):Gives P g0 lo μ H w (execOp ρ ⟨dst,.alloc e,type,pos,after,guard⟩) v H':=by simp only[ev1] at q;split at q;{injection q with q;injection q with E F;subst E F;obtain⟨i,U,hi,T,u⟩:=ip Q;obtain⟨A,I,hn,O,K⟩:=qe (lo:=lo) (e:=e) (ez:=n) h (u μ).cells_ (w':={w with heap:=w.heap.push (.cells U.cells e (0,0))}) rfl rfl rfl rfl;exact⟨_,_,_,A,by simp_all[execOp,Instr.alloc,zeroValue,typeInfo,newVar,newRow,newObj,Sem.run],.inl rfl,O,K,KP hn⟩};{cases q}
end
end Go.Iso
