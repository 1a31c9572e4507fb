/-
  values, heaps, the evaluator of isolated heaps, and its first operations: each run of the evaluator stands for a run of the model.
-/
import Derived.Orders
import Derived.Laws.CopyRow
import Derived.Laws.AppendOwn
import Derived.Deep.AppendSrc
import Derived.Laws.MakeOwn
import Derived.ChangeKeysEq
import Derived.Laws.Strings
import Derived.Lib.SmallJoins
import Derived.Lib.Split
set_option linter.unusedSimpArgs false
set_option linter.unusedVariables false
set_option linter.defProp false
namespace Go.Iso
def BB{A B C D E F:Sort _}{a:A}{b:B}{c:C}{d:D}{e:E}{f:F}:a=a/\b=b/\c=c/\d=d/\e=e/\f=f:=⟨rfl,rfl,rfl,rfl,rfl,rfl⟩
abbrev ao:=@Nat.le_refl
abbrev aq:=@And.intro
abbrev aP:=@List.getElem_mem.{0}
abbrev ct:=@List.getElem?_eq_getElem.{0}
abbrev bj:=@List.length_append.{0}
abbrev cJ:=@List.getD_eq_getElem?_getD.{0}
abbrev aO:=@List.map_cons.{0,0}
abbrev bG:=@List.length_map.{0,0}
abbrev ge:=@List.take_succ_eq_append_getElem.{0}
abbrev eL:=@List.take_of_length_le.{0}
abbrev aL:=@List.map_nil.{0,0}
abbrev bp:=@List.length_set.{0}
abbrev bM:=@List.length_take.{0}
abbrev bN:=@Option.bind_some.{0,0}
abbrev bX:=@Bool.and_eq_true
abbrev cC:=@Nat.lt_of_lt_of_le
abbrev a8:=@Nat.mul_one
abbrev cR:=@List.append_assoc.{0}
abbrev cQ:=@List.length_cons.{0}
abbrev cP:=@List.getElem_map.{0,0}
abbrev fU:=@List.drop_eq_getElem_cons.{0}
abbrev cZ:=@List.length_nil.{0}
abbrev gG:=@Option.bind_eq_some_iff.{0,0}
abbrev dD:=@List.length_drop.{0}
abbrev gE:=@Option.map_eq_some_iff.{0,0}
abbrev fB:=@List.mem_cons_of_mem.{0}
abbrev dC:=@Option.map_some.{0,0}
abbrev ew:=@Option.getD_some.{0}
abbrev fj:=@List.getElem?_map.{0,0}
abbrev gC:=@List.mem_map_of_mem.{0,0}
abbrev cY:=@Nat.zero_add
abbrev de:=@Nat.le_trans
abbrev jj:=@List.getElem_set_self.{0}
abbrev lH:=@List.mem_or_eq_of_mem_set.{0}
abbrev dj:=@Nat.lt_or_ge
abbrev iO:=@List.getElem_set_ne.{0}
abbrev jK:=@List.take_append_drop.{0}
abbrev fT:=@List.ext_getElem.{0}
abbrev fA:=@List.map_append.{0,0}
abbrev ji:=@List.flatten_append.{0}
abbrev fS:=@List.append_nil.{0}
abbrev jh:=@Bool.false_eq_true
abbrev dB:=@Nat.zero_le
abbrev jg:=@List.foldl_append.{0,0}
abbrev il:=@List.cons.injEq.{0}
abbrev ik:=@List.foldl_cons.{0,0}
abbrev eS:=@Nat.succ_mul
abbrev lG:=@Nat.mul_le_mul_right
abbrev ij:=@List.nil_append.{0}
abbrev mE:=@List.getElem?_eq_none.{0}
abbrev jJ:=@List.flatten_cons.{0}
abbrev jf:=@List.cons_append.{0}
abbrev gv:=@Nat.add_assoc
abbrev mD:=@List.getElem_mapIdx.{0,0}
abbrev ii:=@Nat.le_of_lt
abbrev mC:=@Option.some.injEq.{0}
abbrev pz:=@List.length_reverse.{0}
abbrev kc:=@Prod.mk.injEq.{0,0}
abbrev xo:=@Array.toList_setIfInBounds.{0}
abbrev xm:=@List.getElem?_append_right.{0}
abbrev xl:=@List.getElem_append_right.{0}
abbrev nu:=@Bool.or_eq_true
abbrev sq:=@Array.length_toList.{0}
abbrev ut:=@List.eq_nil_or_concat.{0}
abbrev ur:=@List.concat_eq_append.{0}
abbrev xk:=@Nat.add_sub_cancel_left
abbrev nr:=@List.Perm.refl.{0}
abbrev so:=@List.mem_cons_self.{0}
abbrev lF:=@List.set_set.{0}
abbrev zR:=@List.getElem?_append_left.{0}
abbrev zQ:=@Array.getElem?_eq_getElem.{0}
abbrev zP:=@List.pairwise_iff_getElem.{0}
abbrev uq:=@Option.bind_eq_bind.{0}
abbrev nq:=@List.all_cons.{0}
abbrev mB:=@Nat.add_zero
abbrev px:=@List.drop_drop.{0}
abbrev xj:=@List.length_singleton.{0}
abbrev pZ:=@Nat.min_eq_left
abbrev zO:=@List.getElem?_cons_zero.{0}
abbrev xi:=@List.mem_of_mem_take.{0}
abbrev pw:=@Bool.and_self
abbrev NB:=@Array.getElem?_setIfInBounds_self_of_lt.{0}
abbrev uo:=@List.nodup_append.{0}
abbrev um:=@List.getElem_take.{0}
abbrev xh:=@List.getElem_of_mem.{0}
abbrev xg:=@Nat.lt_or_gt_of_ne
abbrev CU:=@List.getElem_append_left.{0}
abbrev pY:=@List.mem_cons.{0}
abbrev CT:=@List.pairwise_mergeSort.{0}
abbrev Hz:=@Array.getD_eq_getD_getElem?.{0}
abbrev ul:=@List.mem_append.{0}
abbrev Hy:=@List.sublist_flatten_of_mem.{0}
abbrev zN:=@Array.toList_append.{0}
abbrev zM:=@List.filter_eq_self.{0}
abbrev zL:=@List.mergeSort_perm.{0}
abbrev pX:=@Bool.or_true
abbrev CR:=@List.drop_of_length_le.{0}
abbrev pW:=@List.map_map.{0,0,0}
abbrev CQ:=@Array.getElem?_toList.{0}
abbrev CO:=@List.perm_append_comm.{0}
abbrev wd:=@List.mem_append_right.{0}
abbrev sP:=@List.getElem_drop.{0}
abbrev sO:=@Int.toNat_natCast
abbrev oH:=@Bool.false_or
abbrev E5:=@List.take_append_of_le_length.{0}
abbrev Ak:=@List.getElem?_replicate.{0}
abbrev wc:=@List.getD_cons_zero.{0}
abbrev vZ:=@List.getD_cons_succ.{0}
abbrev sN:=@List.all_eq_true.{0}
abbrev qc:=@List.mem_range
abbrev qb:=@List.drop_zero.{0}
abbrev qa:=@List.take_zero.{0}
abbrev sM:=@List.map_flatten.{0,0}
abbrev Aj:=@List.getElem_replicate.{0}
abbrev vY:=@Option.isSome_none.{0}
abbrev oG:=@Nat.sub_zero
abbrev oF:=@Nat.zero_mul
abbrev oE:=@List.map_set.{0,0}
abbrev vX:=@List.mem_singleton.{0}
abbrev Ai:=@List.Perm.append_left.{0}
abbrev Ah:=@List.set_getElem_self.{0}
abbrev vW:=@List.ext_getElem?.{0}
abbrev E4:=@List.extract_eq_take_drop.{0}
abbrev Ag:=@List.mem_of_getElem?.{0}
abbrev oD:=@Nat.le_succ
abbrev oC:=@Nat.add_mul
abbrev sK:=@List.mapM_cons.{0,0,0}
abbrev vV:=@List.take_length.{0}
abbrev vU:=@Bool.not_eq_true
abbrev vT:=@List.getElem_inj.{0}
abbrev Af:=@List.map_congr_left.{0,0}
abbrev KZ:=@Array.getElem?_setIfInBounds_ne.{0}
abbrev E3:=@List.getElem?_cons_succ.{0}
abbrev Ae:=@Option.isSome_some.{0}
abbrev vS:=@Option.pure_def.{0}
abbrev Ad:=@List.length_mapIdx.{0,0}
abbrev Ab:=@List.set_cons_zero.{0}
abbrev Aa:=@List.size_toArray.{0}
abbrev zZ:=@Bool.not_eq_true'
abbrev zY:=@Nat.lt_trichotomy
abbrev sJ:=@Nat.le_of_eq
abbrev E2:=@List.length_mergeSort.{0}
abbrev sI:=@Int.le_of_lt
abbrev p8:=@Nat.mod_lt
abbrev zX:=@List.any_eq_true.{0}
abbrev vR:=@Bool.and_true
abbrev KY:=@Nat.lt_of_mul_lt_mul_right
abbrev vQ:=@Bool.true_and
abbrev E1:=@List.replicate_succ.{0}
abbrev EZ:=@List.flatMap_append.{0,0}
abbrev zW:=@List.range_succ
abbrev vP:=@Nat.sub_self
abbrev EY:=@List.set_cons_succ.{0}
abbrev KX:=@List.eq_of_mem_replicate.{0}
abbrev sH:=@Array.ext'.{0}
abbrev EX:=@Bool.eq_false_iff
abbrev EW:=@List.any_eq_false.{0}
abbrev KW:=@Nat.eq_zero_of_not_pos
abbrev zV:=@List.sum_cons.{0}
abbrev EV:=@Option.getD_none.{0}
abbrev EU:=@List.range'_succ
abbrev ET:=@List.filter_cons.{0}
abbrev ES:=@Nat.le_max_right
abbrev ER:=@Nat.lt_of_not_le
abbrev EQ:=@List.not_mem_nil.{0}
abbrev KV:=@Nat.le_of_ble_eq_true
abbrev KU:=@List.set_append_right.{0}
abbrev KT:=@List.length_replicate.{0}
abbrev KS:=@List.range_eq_range'
abbrev zU:=@Bool.true_or
abbrev KR:=@Bool.or_eq_false_iff
abbrev EP:=@Nat.le_max_left
abbrev KQ:=@List.pairwise_append.{0}
abbrev KP:=@List.getElem_reverse.{0}
abbrev KO:=@List.reverse_reverse.{0}
abbrev KN:=@List.mem_append_left.{0}
abbrev EO:=@List.nodup_cons.{0}
abbrev EN:=@Nat.not_lt_zero
abbrev EM:=@Bool.false_and
abbrev EL:=@Bool.not_false
abbrev zT:=@List.map_id.{0}
def Om{p:Prop}(h:p:=by omega):p:=h
def Oh{q p:Prop}(h:q)(k:q->p:=by intro;omega):p:=k h
def Rr{p:Prop}(h:p:=by repeat' first|rfl|constructor):p:=h
def iN{c:Prop}[Decidable c]{α:Type}{a b:α}(h:¬c:=by omega):(if c then a else b)=b:=if_neg h
def iP{c:Prop}[Decidable c]{α:Type}{a b:α}(h:c:=by omega):(if c then a else b)=a:=if_pos h
inductive IV where
 | bool (b:Bool)
 | int (k:IntKind) (n:Int)
 | str (s:List UInt8)
 | ptr (b o:Nat)
 | nilPtr
 | slice (b o len lb:Nat) (ex:Bool)
 | ns
 | map (b:Nat)
 | nilMap
 | fn (f:FuncId) (first cap:List IV)
 | yield (l:Nat)
 | nilFunc
 | iface (t:TypeId) (v:IV)
 | nilIface
 | agg (cs:List IV)
 | tuple (cs:List IV)
 deriving Inhabited
def UN:IV:=.tuple []
inductive Loc where
 | no
 | dead
 | at (c p ez z:Nat)
abbrev Mu:=Nat->Loc
def LocR(μ:Mu)(b o:Nat)(a:Addr):Prop:=match μ b with|.at c p _ _=>a=⟨c,p+o,none⟩|.dead=>True|.no=>False
def SlR(μ:Mu)(b o:Nat)(ex:Bool)(cap:Nat)(a:Addr):Prop:=match μ b with|.at c p ez z=>(cap=0\/a=⟨c,p+o,none⟩)/\(ex=false->ez≠0->o+cap*ez<=z)|.dead=>True|.no=>False
def akm(n lb:Nat)(ex:Bool)(cap:Nat):Prop:=n<=lb/\lb<=cap/\cap<2^63/\(ex=true->cap=lb)
mutual
def VR(μ:Mu):IV->Value->Prop|.bool b,v=>v=.bool b|.int k n,v=>v=.int k n|.str l,v=>v=.string ⟨⟨l⟩⟩|.ptr b o,v=>∃a:Addr,v=.pointer (some a)/\LocR μ b o a|.nilPtr,v=>v=.pointer none|.slice b o n lb ex,v=>∃(a:Addr) (cap:Nat),v=.slice (some a) n cap/\akm n lb ex cap/\SlR μ b o ex cap a|.ns,v=>v=.slice none 0 0|.map b,v=>∃r:Nat,v=.map (some r)/\LocR μ b 0 ⟨r,0,none⟩|.nilMap,v=>v=.map none|.fn f l r,v=>∃q E:Array Value,v=.func (.func f) q E/\VRs μ l q.toList/\VRs μ r E.toList|.yield b,v=>∃r:Nat,v=.func (.yield r) #[] #[]/\LocR μ b 0 ⟨r,0,none⟩|.nilFunc,v=>v=.nilFunc|.iface t x,v=>∃F:Value,v=.iface t F/\VR μ x F|.nilIface,v=>v=.nilIface|.agg l,v=>∃q:Array Value,v=.agg q/\VRs μ l q.toList|.tuple l,v=>∃q:Array Value,v=.tuple q/\VRs μ l q.toList
def VRs(μ:Mu):List IV->List Value->Prop|[],l=>l=[]|x::xs,l=>∃(y:Value) (ys:List Value),l=y::ys/\VR μ x y/\VRs μ xs ys
end
def Mu.le(μ q:Mu):Prop:=∀b,μ b≠.no->q b=μ b\/q b=.dead
def Mu.le_refl(μ:Mu):μ.le μ:=λ_ _=>.inl rfl
def Mu.le_trans{a b c:Mu}(h:a.le b)(k:b.le c):a.le c:=λx hx=>by rcases h x hx with e|e;{rw[<-e];exact k x (by rw[e];exact hx)};{rcases k x (by rw[e];exactλh=>by cases h) with q|q<;>grind}
def LocR.mono{μ q:Mu}{b o:Nat}{a:Addr}(E:μ.le q)(h:LocR μ b o a):LocR q b o a:=by unfold LocR at *;have hn:μ b≠.no:=by{intro e;rw[e] at h;exact h};rcases E b hn with e|e<;>grind
def SlR.mono{μ q:Mu}{b o cap:Nat}{ex:Bool}{a:Addr}(E:μ.le q)(h:SlR μ b o ex cap a):SlR q b o ex cap a:=by unfold SlR at *;have hn:μ b≠.no:=by{intro e;rw[e] at h;exact h};rcases E b hn with e|e<;>grind
mutual
def VR.mono{μ F:Mu}(q:μ.le F):∀(x:IV)(v:Value),VR μ x v->VR F x v|.bool _,_,h=>h|.int _ _,_,h=>h|.str _,_,h=>h|.ptr _ _,_,h=>by obtain⟨a,e,k⟩:=h;exact⟨a,e,k.mono q⟩|.nilPtr,_,h=>h|.slice _ _ _ _ _,_,h=>by obtain⟨a,c,e,k,l⟩:=h;exact⟨a,c,e,k,l.mono q⟩|.ns,_,h=>h|.map _,_,h=>by obtain⟨a,e,k⟩:=h;exact⟨a,e,k.mono q⟩|.nilMap,_,h=>h|.fn _ l r,_,h=>by obtain⟨E,Q,e,I,O⟩:=h;exact⟨E,Q,e,VRs.mono q l _ I,VRs.mono q r _ O⟩|.yield _,_,h=>by obtain⟨a,e,k⟩:=h;exact⟨a,e,k.mono q⟩|.nilFunc,_,h=>h|.iface _ x,_,h=>by obtain⟨T,e,k⟩:=h;exact⟨T,e,VR.mono q x _ k⟩|.nilIface,_,h=>h|.agg l,_,h=>by obtain⟨E,e,k⟩:=h;exact⟨E,e,VRs.mono q l _ k⟩|.tuple l,_,h=>by obtain⟨E,e,k⟩:=h;exact⟨E,e,VRs.mono q l _ k⟩
def VRs.mono{μ q:Mu}(E:μ.le q):∀(x:List IV)(v:List Value),VRs μ x v->VRs q x v|[],_,h=>h|x::xs,_,h=>by obtain⟨y,ys,e,k,ks⟩:=h;exact⟨y,ys,e,VR.mono E x _ k,VRs.mono E xs _ ks⟩
end
section
variable {μ:Mu}
def VRs.length:∀{l:List IV}{q:List Value},VRs μ l q->l.length=q.length|[],_,h=>by cases h;rfl|_::_,_,h=>by obtain⟨y,ys,rfl,_,k⟩:=h;simp[VRs.length k]
def VRs.get:∀{l:List IV}{q:List Value}{i:Nat}{x:IV},VRs μ l q->l[i]? =some x->∃y,q[i]? =some y/\VR μ x y|[],_,_,_,_,h=>by simp at h|a::E,_,0,x,h,e=>by obtain⟨y,ys,rfl,k,_⟩:=h;simp at e;subst e;exact⟨y,by simp,k⟩|a::E,_,i+1,x,h,e=>by obtain⟨y,ys,rfl,_,k⟩:=h;obtain⟨z,I,F⟩:=VRs.get k (i:=i) (by simpa using e);exact⟨z,by simpa using I,F⟩
def VRs.append:∀{l:List IV}{q:List Value}{r:List IV}{E:List Value},VRs μ l q->VRs μ r E->VRs μ (l++r) (q++E)|[],_,_,_,h,k=>by cases h;simpa using k|_::_,_,_,_,h,k=>by obtain⟨y,ys,rfl,a,b⟩:=h;exact⟨y,_,rfl,a,b.append k⟩
def VRs.take:∀{l:List IV}{q:List Value}(n:Nat),VRs μ l q->VRs μ (l.take n) (q.take n)|[],_,n,h=>by cases h;simp[VRs]|_::_,_,0,_=>by simp[VRs]|_::_,_,n+1,h=>by obtain⟨y,ys,rfl,a,b⟩:=h;exact⟨y,_,rfl,a,b.take n⟩
def VRs.drop:∀{l:List IV}{q:List Value}(n:Nat),VRs μ l q->VRs μ (l.drop n) (q.drop n)|[],_,n,h=>by cases h;simp[VRs]|_::_,_,0,h=>h|_::_,_,n+1,h=>by obtain⟨y,ys,rfl,a,b⟩:=h;exact b.drop n
def VRs.set:∀{l:List IV}{q:List Value}(i:Nat){x:IV}{y:Value},VRs μ l q->VR μ x y->VRs μ (l.set i x) (q.set i y)|[],_,_,_,_,h,_=>by cases h;simp[VRs]|_::_,_,0,_,y,h,k=>by obtain⟨z,ys,rfl,a,b⟩:=h;exact⟨y,ys,rfl,k,b⟩|_::_,_,i+1,_,_,h,k=>by obtain⟨z,ys,rfl,a,b⟩:=h;exact⟨z,_,rfl,a,b.set i k⟩
def BH:∀{l:List IV}{q:List Value},l.length=q.length->(∀(i:Nat)(x:IV)(y:Value),l[i]? =some x->q[i]? =some y->VR μ x y)->VRs μ l q|[],[],_,_=>rfl|[],_::_,h,_=>by simp at h|_::_,[],h,_=>by simp at h|x::xs,y::ys,h,k=>⟨y,ys,rfl,k 0 x y rfl rfl,BH (by simpa using h) λi a b E F=>k (i+1) a b (by simpa using E) (by simpa using F)⟩
end
inductive Tr(α:Type)where
 | leaf
 | node (v:Option α) (l r:Tr α)
def Tr.get{α:Type}:Tr α->Nat->Option α|.leaf,_=>none|.node v l r,i=>match i with|0=>v|j+1=>if j%2=0 then l.get (j / 2) else r.get (j / 2)
def Tr.setF{α:Type}:Nat->Tr α->Nat->α->Tr α|0,t,_,_=>t|f+1,t,i,x=>match t,i with|.leaf,0=>.node (some x) .leaf .leaf|.node _ l r,0=>.node (some x) l r|.leaf,j+1=>if j%2=0 then .node none (Tr.setF f .leaf (j / 2) x) .leaf else .node none .leaf (Tr.setF f .leaf (j / 2) x)|.node v l r,j+1=>if j%2=0 then .node v (Tr.setF f l (j / 2) x) r else .node v l (Tr.setF f r (j / 2) x)
def Tr.set{α:Type}(t:Tr α)(i:Nat)(x:α):Tr α:=Tr.setF (i+1) t i x
theorem qT{α:Type}(i:Nat):(Tr.leaf:Tr α).get i=none:=by unfold Tr.get;rfl
def JP{α:Type}:∀(f:Nat)(t:Tr α)(i j:Nat)(x:α),i<f->(Tr.setF f t i x).get j=if i=j then some x else t.get j:=by intro f;induction f with|zero=>intro t i j x h;omega|succ f F=>intro t i j x h;cases t with|leaf=>(cases i with|zero=>cases j<;>simp[Tr.setF,Tr.get]|succ i=>have hi:i / 2<f:=Om;by_cases q:i%2=0;{cases j with|zero=>simp[Tr.setF,q,Tr.get]|succ j=>by_cases E:j%2=0;{simp only[Tr.setF,q,if_true,Tr.get,E,F _ _ _ _ hi];grind};{simp only[Tr.setF,q,if_true,Tr.get,E,if_false];grind}};{cases j with|zero=>simp[Tr.setF,q,Tr.get]|succ j=>by_cases E:j%2=0;{simp only[Tr.setF,q,if_false,Tr.get,E,if_true];grind};{simp only[Tr.setF,q,if_false,Tr.get,E,F _ _ _ _ hi];grind}})|node v l r=>cases i with|zero=>cases j<;>simp[Tr.setF,Tr.get]|succ i=>have hi:i / 2<f:=Om;by_cases q:i%2=0;{cases j with|zero=>simp[Tr.setF,q,Tr.get]|succ j=>by_cases E:j%2=0;{simp only[Tr.setF,q,if_true,Tr.get,E,F _ _ _ _ hi];grind};{simp only[Tr.setF,q,if_true,Tr.get,E,if_false];grind}};{cases j with|zero=>simp[Tr.setF,q,Tr.get]|succ j=>by_cases E:j%2=0;{simp only[Tr.setF,q,if_false,Tr.get,E,if_true];grind};{simp only[Tr.setF,q,if_false,Tr.get,E,F _ _ _ _ hi];grind}}
def tw{α:Type}(t:Tr α)(i j:Nat)(x:α):(t.set i x).get j=if i=j then some x else t.get j:=JP _ _ _ _ _ (Nat.lt_succ_self i)
inductive IA where
 | tmp (t:Nat)
 | val (v:IV)
 | glob (g:Nat)
 deriving Inhabited
inductive Pk where
 | bool | int | str
 deriving DecidableEq,Inhabited
inductive Nk where
 | ptr | sl | map | fn
 deriving DecidableEq,Inhabited
inductive Kd where
 | move
 | pick
 | alloc (e ez:Nat) (zs:List IV)
 | box (e ez:Nat)
 | build (zs:List IV) (offs:List (Nat×Nat))
 | buildSl (e ez n:Nat) (zs:List IV) (offs:List (Nat×Nat))
 | load (n:Option Nat)
 | store (n:Nat)
 | nilCheck
 | bin (op:BinOp)
 | eqBool (neg:Bool)
 | eqFlat (neg:Bool) (ds:List Pk)
 | eqNil (neg:Bool) (k:Nk)
 | un (op:UnOp)
 | conv (k:IntKind)
 | mkfn (f:FuncId) (k:Nat)
 | mkmap
 | mksl (e ez bytes:Nat) (zs:List IV)
 | slc (size:Nat) (lo hi mx:Bool)
 | fieldAddr (off:Nat)
 | idxSl (size:Nat)
 | idxArrAddr (len size:Nat)
 | idxArr (len size:Nat) (n:Option Nat)
 | lookup (t:TypeId) (ky:Bool×List Pk) (zero:IV) (ok:Bool)
 | mapUpd (ky:Bool×List Pk)
 | mapEntry (t:TypeId) (ky:Bool×List Pk) (zero:IV)
 | entryStore
 | delete (ky:Bool×List Pk)
 | lenSl
 | lenMap
 | cap
 | append (e size bytes:Nat)
 | copy (size:Nat)
 | min
 | max
 | extract (i:Nat)
 | clear (zs:List IV)
 | rangeM
 | nextM
 | entryM
 | call
 deriving Inhabited
structure IOp where
 dst:Option Nat
 kd:Kd
 args:List IA
 guard:Option (Nat×Bool)
 amb:Bool
 idx:Nat
 mask:Nat
 deriving Inhabited
inductive Sg where
 | seq | free
 deriving DecidableEq,Inhabited
inductive IC where
 | skip
 | ops (l:List (Sg×List IOp))
 | seq (a b:IC)
 | cond (c:IA) (a b:IC)
 | block (id:Nat) (c:IC)
 | scope (c:IC)
 | loop (c:IC)
 | rfn (f:IA) (ps:List Nat) (asg body:IC)
 | exit (id:Nat)
 | ret
 deriving Inhabited
inductive Jmp where
 | exit (id:Nat)
 | ret
inductive IObj where
 | cells (ro:Bool) (e ez:Nat) (cs:List IV)
 | map (es:List (IV×IV×Nat)) (clock:Nat)
 | loop (st:LoopState) (pend:Option Jmp) (tm:List IV) (ps:List Nat) (asg body:IC) (df:Nat)
 | deferred
 | taken
 | iter (m:Option Nat) (since:Nat) (seen:List Nat) (last:Nat)
 | dead
structure Heap where
 n:Nat
 t:Tr IObj
def Heap.get(H:Heap)(b:Nat):Option IObj:=H.t.get b
def Heap.put(H:Heap)(b:Nat)(o:IObj):Heap:=⟨H.n,H.t.set b o⟩
def Heap.new(H:Heap)(o:IObj):Heap:=⟨H.n+1,H.t.set H.n o⟩
def aa(H:Heap)(b b':Nat)(o:IObj):(H.put b o).get b'=if b=b' then some o else H.get b':=tw _ _ _ _
def ak(H:Heap)(b':Nat)(o:IObj):(H.new o).get b'=if H.n=b' then some o else H.get b':=tw _ _ _ _
theorem ai(H:Heap)(b:Nat)(o:IObj):(H.put b o).n=H.n:=rfl
theorem af(H:Heap)(o:IObj):(H.new o).n=H.n+1:=rfl
def IV.cells:IV->List IV|.agg l=>l|v=>[v]
def aD:List IV->Nat->List IV->List IV|[],_,_=>[]|c::cs,0,[]=>c::cs|_::cs,0,v::vs=>v::aD cs 0 vs|c::cs,o+1,vs=>c::aD cs o vs
def Heap.read(H:Heap)(b o n:Nat):Option (List IV):=match H.get b with|some (.cells _ _ _ cs)=>if o+n<=cs.length then some ((cs.drop o).take n) else none|_=>none
def IV.one:IV->Bool|.agg _|.tuple _=>false|_=>true
def Heap.write(H:Heap)(lo b o:Nat)(vs:List IV):Option Heap:=match H.get b with|some (.cells false e ez cs)=>if lo<=b/\o+vs.length<=cs.length/\vs.all IV.one then some (H.put b (.cells false e ez (aD cs o vs))) else none|_=>none
def aj(n:Option Nat)(l:List IV):Option IV:=match n,l with|some _,l=>some (.agg l)|none,[v]=>some v|none,_=>none
def dO:List (Nat×Nat)->List IV->List IV->Option (List IV)|[],[],cs=>some cs|(off,size)::q,v::vs,cs=>if v.cells.length=size/\off+size<=cs.length then dO q vs (aD cs off v.cells) else none|_,_,_=>none
def LN:Pk->IV->IV->Option Bool|.bool,.bool a,.bool b=>some (a==b)|.int,.int k a,.int q b=>if k=q then some (a==b) else none|.str,.str a,.str b=>some (a==b)|_,_,_=>none
def je:List Pk->List IV->List IV->Option Bool|[],[],[]=>some true|d::ds,x::xs,y::ys=>(match LN d x y,je ds xs ys with|some a,some b=>some (a&&b)|_,_=>none)|_,_,_=>none
def XX:Pk->IV->Bool|.bool,.bool _=>true|.int,.int _ _=>true|.str,.str _=>true|_,_=>false
def uJ:List Pk->List IV->Bool|[],[]=>true|d::ds,x::xs=>XX d x&&uJ ds xs|_,_=>false
def qO(op:BinOp):IV->IV->Option IV|.int k a,.int q b=>(match op with|.shl=>if b<0 then none else some (.int k (k.wrap (a*2^(Min.min b.toNat k.bits))))|.shr=>if b<0 then none else some (.int k (a.fdiv (2^(Min.min b.toNat k.bits))))|_=>if k=q then match op with|.add=>some (.int k (k.wrap (a+b)))|.sub=>some (.int k (k.wrap (a - b)))|.mul=>some (.int k (k.wrap (a*b)))|.quo=>if b=0 then none else some (.int k (k.wrap (a.tdiv b)))|.rem=>if b=0 then none else some (.int k (a.tmod b))|.and=>some (.int k (k.wrap (BitVec.ofInt k.bits a&&& BitVec.ofInt k.bits b).toNat))|.or=>some (.int k (k.wrap (BitVec.ofInt k.bits a||| BitVec.ofInt k.bits b).toNat))|.xor=>some (.int k (k.wrap (BitVec.ofInt k.bits a^^^BitVec.ofInt k.bits b).toNat))|.andNot=>some (.int k (k.wrap (BitVec.ofInt k.bits a&&& ~~~(BitVec.ofInt k.bits b)).toNat))|.eql=>some (.bool (a==b))|.neq=>some (.bool (a !=b))|.lss=>some (.bool (decide (a<b)))|.leq=>some (.bool (decide (a<=b)))|.gtr=>some (.bool (decide (a>b)))|.geq=>some (.bool (decide (a>=b)))|_=>none else none)|.str a,.str b=>(match op with|.add=>if a.length+b.length<2^40 then some (.str (a++b)) else none|.eql=>some (.bool (a==b))|.neq=>some (.bool !(a==b))|.lss=>some (.bool (Op.bytesLess a b))|.leq=>some (.bool (Op.bytesLess a b||a==b))|.gtr=>some (.bool !(Op.bytesLess a b||a==b))|.geq=>some (.bool !(Op.bytesLess a b))|_=>none)|_,_=>none
def unI(op:UnOp):IV->Option IV|.int k n=>(match op with|.neg=>some (.int k (k.wrap (0 - n)))|.xor=>some (.int k (k.wrap (BitVec.ofInt k.bits (if k.signed then -1 else k.max)^^^BitVec.ofInt k.bits n).toNat))|_=>none)|.bool b=>(match op with|.not=>some (.bool !b)|_=>none)|_=>none
def kE:Nk->IV->Option Bool|.ptr,.nilPtr|.sl,.ns|.map,.nilMap|.fn,.nilFunc=>some true|.ptr,.ptr _ _|.sl,.slice _ _ _ _ _|.map,.map _|.fn,.fn _ _ _=>some false|_,_=>none
def bP(y:Nat):IV->Option Nat|.int _ n=>if 0<=n/\n<=(y:Int) then some n.toNat else none|_=>none
def aX(len top:Nat)(lo hi q:Bool)(l:List IV):Option (Nat×Nat×Option Nat):=match lo,hi,q,l with|false,false,false,[]=>some (0,len,none)|true,false,false,[a]=>(bP len a).map λa=>(a,len,none)|false,true,false,[b]=>(bP top b).map λb=>(0,b,none)|true,true,false,[a,b]=>(bP top b).bind λb=>(bP b a).map λa=>(a,b,none)|false,true,true,[b,c]=>(bP top c).bind λc=>(bP c b).map λb=>(0,b,some c)|true,true,true,[a,b,c]=>(bP top c).bind λc=>(bP c b).bind λb=>(bP b a).map λa=>(a,b,some c)|_,_,_,_=>none
def bD(q:Bool):IV->Bool|.agg _=>q|_=>!q
def dw(ky:Bool×List Pk)(k:IV):Bool:=bD ky.1 k&&uJ ky.2 k.cells
def eE(ky:Bool×List Pk)(k q:IV):Option Bool:=if bD ky.1 k&&bD ky.1 q then je ky.2 k.cells q.cells else none
def aQ(ky:Bool×List Pk)(k:IV):List (IV×IV×Nat)->Nat->Option (Option (Nat×IV))|[],_=>some none|(E,v,_)::q,i=>match eE ky k E with|some true=>some (some (i,v))|some false=>aQ ky k q (i+1)|none=>none
def gV(H:Heap)(size n:Nat):IV->Option (List IV)|.ns=>if n=0 then some [] else none|.slice b o _ _ _=>if n=0 then some [] else H.read b o (n*size)|.str s=>if n<=s.length/\size=1 then some ((s.take n).map λc=>.int .u8 c.toNat) else none|_=>none
def mV:IV->Option Nat|.ns=>some 0|.slice _ _ n _ _=>some n|.str s=>some s.length|_=>none
def ka:Nat->List IV->List IV|0,_=>[]|n+1,zs=>zs++ka n zs
def du(e size bytes:Nat)(s:IV)(xs:List IV)(n lo:Nat)(H:Heap):Option (IV×Heap):=if xs.all IV.one=false then none else match s with|.ns=>if n=0 then some (.ns,H) else if n*(bytes+1)<=2^40 then some (.slice H.n 0 n n false,H.new (.cells false e size xs)) else none|.slice b o len lb ex=>if n=0 then some (.slice b o len lb ex,H) else if len+n<=lb then(H.write lo b (o+len*size) xs).map λH'=>(.slice b o (len+n) lb ex,H') else if (len+n)*(bytes+1)<=2^40 then if ex then(gV H size len s).map λold=>(.slice H.n 0 (len+n) (len+n) false,H.new (.cells false e size (old++xs))) else match H.get b with|some (.cells false q ez cs)=>if q=e/\ez=size/\0<size/\o=0/\lo<=b/\len*size<=cs.length then some (.slice H.n 0 (len+n) (len+n) false,(H.put b .dead).new (.cells false e size (cs.take (len*size)++xs))) else none|_=>none else none|_=>none
def dT{α:Type}:List α->Nat->List α|[],_=>[]|_::l,0=>l|x::l,i+1=>x::dT l i
def fd(key val:IV):List (IV×IV×Nat)->Nat->List (IV×IV×Nat)|[],_=>[]|(_,_,s)::l,0=>(key,val,s)::l|x::l,i+1=>x::fd key val l i
def fi(val:IV)(born:Int):List (IV×IV×Nat)->Option (List (IV×IV×Nat))|[]=>none|(k,v,s)::l=>if (s:Int)=born then some ((k,val,s)::l) else(fi val born l).map ((k,v,s)::·)
def aK(H:Heap)(b:Nat):Option (List (IV×IV×Nat)×Nat):=match H.get b with|some (.map q c)=>some (q,c)|_=>none
def stepM(H:Heap)(r:Nat):Option (IV×Option IObj):=match H.get r with|some (.iter none _ _ _)=>some (.tuple [.bool false],none)|some (.iter (some b) q seen last)=>(match aK H b with|none=>none|some (F,E)=>if seen≠[]/\F≠[]/\(F.all λe=>decide (last<=e.2.2))=true then none else match F.filter λe=>!seen.contains e.2.2 with|[]=>some (.tuple [.bool false],none)|[(k,v,s)]=>if s<q then some (.tuple [.bool true,k,v],some (.iter (some b) q (seen++[s]) E)) else none|_=>none)|_=>none
def A7(H:Heap)(r:Nat):Option IV:=match H.get r with|some (.iter (some b) _ seen last)=>(match seen.getLast? with|none=>none|some s=>match aK H b with|none=>none|some (E,q)=>if q=last then(E.find? λe=>e.2.2==s).map λe=>.tuple [e.1,e.2.1] else none)|_=>none
def kG(H:Heap)(b size:Nat):Bool:=match H.get b with|some (.cells q _ ez _)=>q||ez==size|_=>false
def oX:IV->Option Nat|.ns=>some 0|.slice _ _ n _ _=>some n|_=>none
def ev1(kd:Kd)(xs:List IV)(lo:Nat)(H:Heap):Option (IV×Heap):=match kd with|.move=>(match xs with|[x]=>some (x,H)|_=>none)|.pick=>(match xs with|[.bool c,a,b]=>some (if c then a else b,H)|_=>none)|.alloc e ez zs=>(match xs with|[]=>some (.ptr H.n 0,H.new (.cells false e ez zs))|_=>none)|.box e ez=>(match xs with|[x]=>some (.ptr H.n 0,H.new (.cells false e ez x.cells))|_=>none)|.build zs F=>(match xs with|xs=>(dO F xs zs).map λcs=>(.agg cs,H))|.buildSl e ez n zs F=>(match xs with|xs=>(dO F xs zs).map λcs=>(.slice H.n 0 n n true,H.new (.cells false e ez cs)))|.load n=>(match xs with|[.ptr b o]=>(H.read b o (n.getD 1)).bind λcs=>(aj n cs).map λv=>(v,H)|_=>none)|.store n=>(match xs with|[.ptr b o,x]=>if x.cells.length=n then(H.write lo b o x.cells).map λH'=>(UN,H') else none|_=>none)|.nilCheck=>(match xs with|[x]=>(match x with|.nilPtr|.nilIface|.nilFunc|.yield _=>none|x=>some (x,H))|_=>none)|.bin op=>(match xs with|[x,y]=>(qO op x y).map (·,H)|_=>none)|.eqBool neg=>(match xs with|[.bool a,.bool b]=>some (.bool (neg !=(a==b)),H)|_=>none)|.eqFlat neg ds=>(match xs with|[.agg x,.agg y]=>(je ds x y).map λr=>(.bool (neg !=r),H)|_=>none)|.eqNil neg U=>(match xs with|[x,y]=>(match kE U x,kE U y with|some true,some r=>some (.bool (neg !=r),H)|some r,some true=>some (.bool (neg !=r),H)|_,_=>none)|_=>none)|.un op=>(match xs with|[x]=>(unI op x).map (·,H)|_=>none)|.conv k=>(match xs with|[.int _ n]=>some (.int k (k.wrap n),H)|_=>none)|.mkfn f k=>(match xs with|xs=>some (.fn f (xs.take k) (xs.drop k),H))|.mkmap=>(match xs with|[]=>some (.map H.n,H.new (.map [] 0))|[.int _ _]=>some (.map H.n,H.new (.map [] 0))|_=>none)|.rangeM=>(match xs with|[.nilMap]=>some (.ptr H.n 0,H.new (.iter none 0 [] 0))|[.map b]=>(aK H b).map λp=>(.ptr H.n 0,H.new (.iter (some b) p.2 [] p.2))|_=>none)|.entryM=>(match xs with|[.ptr r 0]=>(A7 H r).map (·,H)|_=>none)|.nextM=>(match xs with|[.ptr r 0]=>if lo<=r then(stepM H r).map λp=>(p.1,match p.2 with|none=>H|some o=>H.put r o) else none|_=>none)|.mksl e ez bytes zs=>(match xs with|[.int _ l,.int _ c]=>if 0<=l/\l<=c/\c*(bytes+1)<=2^40 then some (.slice H.n 0 l.toNat c.toNat true,H.new (.cells false e ez (ka c.toNat zs))) else none|_=>none)|.slc size lo hi T=>(match xs with|s::l=>(match s with|.ns=>(aX 0 0 lo hi T l).bind λ(a,b,_)=>if a=0/\b=0 then some (.ns,H) else none|.slice b o len lb ex=>if ex||kG H b size then (aX len lb lo hi T l).map λ(a,h,m)=>match m with|some m=>(.slice b (o+a*size) (h - a) (m - a) true,H)|none=>(.slice b (o+a*size) (h - a) (lb - a) ex,H) else none|_=>none)|_=>none)|.fieldAddr off=>(match xs with|[.ptr b o]=>some (.ptr b (o+off),H)|_=>none)|.idxSl size=>(match xs with|[.slice b o len _ _,.int _ i]=>if 0<=i/\i<(len:Int) then some (.ptr b (o+i.toNat*size),H) else none|_=>none)|.idxArrAddr len size=>(match xs with|[.ptr b o,.int _ i]=>if 0<=i/\i<(len:Int) then some (.ptr b (o+i.toNat*size),H) else none|_=>none)|.idxArr len size n=>(match xs with|[.agg cs,.int _ i]=>if 0<=i/\i<(len:Int)/\i.toNat*size+n.getD 1<=cs.length then(aj n ((cs.drop (i.toNat*size)).take (n.getD 1))).map λv=>(v,H) else none|_=>none)|.lookup _ ky zero ok=>(match xs with|[m,k]=>(match (match m with|.nilMap=>some []|.map b=>(aK H b).map (·.1)|_=>none) with|none=>none|some E=>if dw ky k then match aQ ky k E 0 with|none=>none|some r=>let (v,I):IV×Bool:=match r with|some (_,v)=>(v,true)|none=>(zero,false);some (if ok then .tuple [v,.bool I] else v,H) else none)|_=>none)|.mapUpd ky=>(match xs with|[.map b,k,v]=>(match aK H b with|none=>none|some (E,q)=>if lo<=b/\dw ky k then match aQ ky k E 0 with|none=>none|some (some (i,_))=>some (UN,H.put b (.map (fd k v E i) q))|some none=>some (UN,H.put b (.map (E++[(k,v,q)]) (q+1))) else none)|_=>none)|.mapEntry _ ky zero=>(match xs with|[.map b,k]=>(match aK H b with|none=>none|some (E,q)=>if lo<=b/\dw ky k then match aQ ky k E 0 with|none=>none|some (some (i,v))=>(E[i]?).map λe=>(.tuple [v,.int .i64 e.2.2],H.put b (.map (fd k v E i) q))|some none=>some (.tuple [zero,.int .i64 q],H.put b (.map (E++[(k,zero,q)]) (q+1))) else none)|_=>none)|.entryStore=>(match xs with|[.map b,.int _ s,v]=>(match aK H b with|none=>none|some (E,q)=>if lo<=b then(fi v s E).map λO=>(UN,H.put b (.map O q)) else none)|_=>none)|.delete ky=>(match xs with|[.map b,k]=>(match aK H b with|none=>none|some (E,q)=>if lo<=b/\dw ky k then match aQ ky k E 0 with|none=>none|some (some (i,_))=>some (UN,H.put b (.map (dT E i) q))|some none=>some (UN,H) else none)|_=>none)|.lenSl=>(match xs with|[x]=>(match x with|.ns=>some (.int .i64 0,H)|.slice _ _ n _ _=>some (.int .i64 n,H)|_=>none)|_=>none)|.lenMap=>(match xs with|[m]=>(match m with|.nilMap=>some (.int .i64 0,H)|.map b=>(aK H b).map λ(E,_)=>(.int .i64 E.length,H)|_=>none)|_=>none)|.cap=>(match xs with|[x]=>(match x with|.ns=>some (.int .i64 0,H)|.slice _ _ _ c true=>some (.int .i64 c,H)|_=>none)|_=>none)|.append e size bytes=>(match xs with|[s,x]=>(mV x).bind λn=>(gV H size n x).bind λxs=>du e size bytes s xs n lo H|_=>none)|.copy size=>(match xs with|[d,s]=>(match oX d,mV s with|some n,some m=>(let k:=Min.min m n;if k=0 then some (.int .i64 0,H) else(gV H size k s).bind λxs=>match d with|.slice b o _ _ _=>(H.write lo b o xs).map λH'=>(.int .i64 k,H')|_=>none)|_,_=>none)|_=>none)|.min=>(match xs with|[.int k a,.int Q b]=>if k=Q then some (.int k (if b<a then b else a),H) else none|_=>none)|.max=>(match xs with|[.int k a,.int Q b]=>if k=Q then some (.int k (if b>a then b else a),H) else none|_=>none)|.clear zs=>(match xs with|[x]=>(match x with|.ns=>some (.tuple [],H)|.slice b o n _ _=>if n=0 then some (.tuple [],H) else(H.write lo b o (ka n zs)).map λH'=>(.tuple [],H')|_=>none)|_=>none)|.extract i=>(match xs with|[.tuple l]=>(l[i]?).map (·,H)|_=>none)|.call=>none
structure IFn where
 ntmps:Nat
 results:List (Nat×Option (Option Nat))
 body:IC
structure Fr where
 tm:List IV
 marks:List Nat
inductive Ex where
 | normal
 | jmp (j:Jmp)
inductive Fp where
 | none
 | rd (b o n:Nat)
 | wr (b o n:Nat)
 | wb (b:Nat)
 | lk (t:TypeId) (ky:Bool×List Pk) (b:Nat) (k:IV)
 | me (t:TypeId) (ky:Bool×List Pk) (b:Nat) (k:IV)
abbrev dP:=List (Nat×Fp)
inductive Task where
 | code (c:IC) (rd:Option Nat) (fr:Fr)
 | segs (l:List (Sg×List IOp)) (rd:Option Nat) (fr:Fr)
 | ops (free:Option dP) (l:List IOp) (rd:Option Nat) (fr:Fr)
 | call (f:FuncId) (args:List IV)
 | apply (f:IV) (args:List IV)
inductive Out where
 | ex (e:Ex) (fr:Fr)
 | val (v:IV)
structure Env where
 fns:FuncId→Option IFn
 sums:FuncId→Option (List IV→Nat→Heap→Option (IV×Heap))
 g0:Nat
def IA.eval(g0:Nat)(tm:List IV):IA->Option IV|.tmp t=>some (tm.getD t UN)|.val v=>some v|.glob g=>if g<g0 then some (.ptr g 0) else none
def cK(g0:Nat)(tm:List IV):List IA->Option (List IV)|[]=>some []|x::xs=>match x.eval g0 tm with|none=>none|some v=>match cK g0 tm xs with|none=>none|some vs=>some (v::vs)
def Fr.put(fr:Fr)(dst:Option Nat)(v:IV):Fr:=match dst with|none=>fr|some d=>{fr with tm:=fr.tm.set d v}
def dQ(tm:List IV):Option (Nat×Bool)->Bool|none=>true|some (t,q)=>match tm.getD t UN with|.bool b=>b==q|_=>false
def nm(H:Heap)(tm:List IV):Nat×Option (Option Nat)->Option IV|(t,none)=>some (tm.getD t UN)|(t,some n)=>match tm.getD t UN with|.ptr b o=>(H.read b o (n.getD 1)).bind (aj n)|_=>none
def aU(H:Heap)(tm:List IV):List (Nat×Option (Option Nat))->Option (List IV)|[]=>some []|r::rs=>match nm H tm r,aU H tm rs with|some v,some vs=>some (v::vs)|_,_=>none
def gU:List IV->IV|[v]=>v|l=>.tuple l
def di(lo:Nat):List Nat->Heap->Option Heap|[],H=>some H|r::rs,H=>match H.get r with|some .deferred=>if lo<=r then di lo rs (H.put r .taken) else none|_=>none
def fZ:List IV->List Nat->List IV->List IV|tm,p::q,v::vs=>fZ (tm.set p v) q vs|tm,_,_=>tm
def dV:Nat->List IV|0=>[]|n+1=>UN::dV n
def Kd.pure:Kd->Bool|.move|.pick|.build _ _|.nilCheck|.bin _|.eqBool _|.eqFlat _ _|.eqNil _ _|.un _|.conv _|.mkfn _ _|.fieldAddr _|.idxSl _|.idxArrAddr _ _|.idxArr _ _ _|.lenSl|.cap|.min|.max|.extract _=>true|_=>false
def Kd.isStore:Kd->Bool|.store _=>true|_=>false
def jy(b o n b' o' q:Nat):Bool:=b≠b'||o+n<=o'||o'+q<=o
def aV:Fp->Fp->Bool|.rd b o n,.wr b' o' q|.wr b o n,.rd b' o' q|.wr b o n,.wr b' o' q=>jy b o n b' o' q|.wb b,.rd b' _ _|.rd b' _ _,.wb b|.wb b,.wr b' _ _|.wr b' _ _,.wb b|.wb b,.wb b'|.wb b,.lk _ _ b' _|.lk _ _ b' _,.wb b|.wb b,.me _ _ b' _|.me _ _ b' _,.wb b=>b≠b'|.lk _ _ b _,.wr b' _ _|.wr b' _ _,.lk _ _ b _|.rd b _ _,.me _ _ b' _|.me _ _ b' _,.rd b _ _|.wr b _ _,.me _ _ b' _|.me _ _ b' _,.wr b _ _|.me _ _ b' _,.me _ _ b _=>b≠b'|.lk t ky b k,.me F _ b' E|.me F _ b' E,.lk t ky b k=>b≠b'||(t==F&&(match eE ky k E with|some true=>true|_=>false))|_,_=>true
def mm:IV->Fp|.slice b _ _ _ false=>.rd b 0 0|_=>.none
def fJ(o:IOp)(xs:List IV):Option Fp:=match o.kd,xs with|.slc _ _ _ _,s::_=>some (mm s)|.store n,[.ptr b a,_]=>some (.wr b a n)|.store _,_=>none|.load n,[.ptr b a]=>some (.rd b a (n.getD 1))|.load _,_=>none|.lookup t ky _ false,[.map b,k]=>some (.lk t ky b k)|.lookup _ _ _ false,[.nilMap,_]=>some .none|.lookup _ _ _ false,_=>none|.append _ _ _,.slice b _ _ _ _::_=>some (if o.amb then .wb b else .none)|.mapEntry t ky _,[.map b,k]=>some (if o.amb then .me t ky b k else .none)|_,_=>some .none
def nO(q:dP)(o:IOp)(xs:List IV):Option dP:=match fJ o xs with|none=>none|some f=>if q.all λp=>o.mask.testBit p.1||aV p.2 f then some ((o.idx,f)::q) else none
def fW(free:Option dP)(o:IOp)(lo:Nat)(H:Heap):Nat:=match free with|none=>lo|some _=>if o.amb then lo else H.n
def bT(free:Option dP)(o:IOp)(xs:List IV):Option (Option dP):=match free with|none=>some none|some q=>(nO q o xs).map some
def jw(rd:Option Nat)(H:Heap):Option (Nat×List Nat×Heap):=match rd with|none=>some (H.n,[H.n],H.new .deferred)|some l=>match H.get l with|some (.loop _ _ _ _ _ _ q)=>some (q,[],H)|_=>none
def j7(l:Nat)(H:Heap):Option Heap:=match H.get l with|some (.loop .ready pend tm F q body E)=>some (H.put l (.loop .busy pend tm F q body E))|_=>none
def Ce(l:Nat)(e:Ex)(H:Heap):Option (Out×Heap):=match H.get l with|some (.loop _ _ tm F q body E)=>(match e with|.normal=>some (.val (.bool true),H.put l (.loop .ready none tm F q body E))|.jmp j=>some (.val (.bool false),H.put l (.loop .done (some j) tm F q body E)))|_=>none
def run(E:Env):Nat->Task->Nat->Heap->Option (Out×Heap)|0,_,_,_=>none|n+1,t,lo,H=>match t with|.code c rd fr=>(match c with|.skip=>some (.ex .normal fr,H)|.exit id=>some (.ex (.jmp (.exit id)) fr,H)|.ret=>some (.ex (.jmp .ret) fr,H)|.ops l=>run E n (.segs l rd fr) lo H|.seq a b=>(match run E n (.code a rd fr) lo H with|some (.ex .normal q,H')=>run E n (.code b rd q) lo H'|r=>r)|.cond c a b=>(match c.eval E.g0 fr.tm with|some (.bool true)=>run E n (.code a rd fr) lo H|some (.bool false)=>run E n (.code b rd fr) lo H|_=>none)|.block id c=>(match run E n (.code c rd fr) lo H with|some (.ex (.jmp (.exit U)) q,H')=>some (.ex (if U=id then .normal else .jmp (.exit U)) q,H')|r=>r)|.loop c=>(match run E n (.code c rd fr) lo H with|some (.ex .normal q,H')=>run E n (.code (.loop c) rd q) lo H'|r=>r)|.scope c=>run E n (.code c rd fr) lo H|.rfn f Q F body=>match f.eval E.g0 fr.tm,jw rd H with|some g,some (df,marks,H1)=>(match run E n (.apply g [.yield H1.n]) lo (H1.new (.loop .ready none fr.tm Q F body df)) with|some (.val _,V)=>(match V.get H1.n with|some (.loop st pend tm Q F body df)=>(if st=.busy\/H1.n<lo then none else let Z:=V.put H1.n (.loop .exhausted pend tm Q F body df);let q:Fr:={fr with marks:=marks++fr.marks};match pend with|none=>some (.ex .normal q,Z)|some j=>some (.ex (.jmp j) q,Z))|_=>none)|_=>none)|_,_=>none)|.segs l rd fr=>(match l with|[]=>some (.ex .normal fr,H)|(k,os)::l=>match run E n (.ops (match k with|.seq=>none|.free=>some []) os rd fr) lo H with|some (.ex .normal q,H')=>run E n (.segs l rd q) lo H'|_=>none)|.ops free l rd fr=>(match l with|[]=>some (.ex .normal fr,H)|o::l=>if dQ fr.tm o.guard then match cK E.g0 fr.tm o.args with|none=>none|some xs=>match bT free o xs with|none=>none|some I=>match o.kd with|.call=>(match xs with|f::xs=>(match run E n (.apply f xs) (fW free o lo H) H with|some (.val v,H')=>run E n (.ops I l rd (fr.put o.dst v)) lo H'|_=>none)|[]=>none)|kd=>match ev1 kd xs (fW free o lo H) H with|some (v,H')=>run E n (.ops I l rd (fr.put o.dst v)) lo H'|none=>none else run E n (.ops free l rd (fr.put o.dst UN)) lo H)|.apply f args=>(match f with|.fn f O cap=>run E n (.call f (O++args++cap)) lo H|.yield l=>(match H.get l with|some (.loop _ _ tm Q F body _)=>if args.length=Q.length/\lo<=l then match run E n (.code F (some l) ⟨fZ tm Q args,[]⟩) lo H with|some (.ex .normal fr,H1)=>(match j7 l H1 with|some V=>(match run E n (.code body (some l) fr) lo V with|some (.ex e _,Z)=>Ce l e Z|_=>none)|none=>none)|_=>none else none|_=>none)|_=>none)|.call f args=>match E.sums f with|some s=>(s args lo H).map λ(v,H')=>(.val v,H')|none=>match E.fns f with|none=>none|some fn=>match run E n (.code fn.body none ⟨args++dV (fn.ntmps - args.length),[]⟩) lo H with|some (.ex e fr,H')=>(match e with|.jmp (.exit _)=>none|_=>match di lo fr.marks H' with|none=>none|some T=>(aU T fr.tm fn.results).map λvs=>(.val (gU vs),T))|_=>none
def sw:Nat->Value->Option IV|0,_=>none|n+1,v=>match v with|.bool b=>some (.bool b)|.int k n=>some (.int k n)|.string s=>some (.str s.data.toList)|.pointer none=>some .nilPtr|.slice none 0 0=>some .ns|.map none=>some .nilMap|.nilFunc=>some .nilFunc|.nilIface=>some .nilIface|.agg cs=>(cs.toList.mapM (sw n)).map .agg|_=>none
def pE:Operand->Option IA|.tmp t=>some (.tmp t)|.const v=>(sw 3 v).map .val|.global g=>some (.glob g)|.func f=>some (.val (.fn f [] []))
section
variable (P:Program)
def bi(t:TypeId):Option Nat:=(P.info? t).map (·.size)
def nh(t:TypeId):Option Nat:=(P.info? t).map (·.bytes)
def xZ(t:TypeId):Option (Option Nat):=match P.underlying t,bi P t with|some (.struct _),some n=>some (some n)|some (.array _ _),some n=>some (some n)|some (.struct _),none=>none|some (.array _ _),none=>none|some _,some _=>some none|_,_=>none
def iH(t:TypeId):Option IV:=((P.info? t).bind (·.zero)).bind (sw 3)
def oS(aB:TypeId->Option (List Pk)):List Field->Nat->Option (List Pk)|[],_=>some []|f::fs,off=>match aB f.type with|some l=>if f.name≠"_"/\f.offset=off/\bi P f.type=some l.length then(oS aB fs (off+l.length)).map (l++·) else none|none=>none
def dp:Nat->TypeId->Option (List Pk)|0,_=>none|d+1,t=>match P.underlying t with|some .bool=>some [.bool]|some (.int _)=>some [.int]|some .string=>some [.str]|some (.struct fs)=>if P.stoodInHeld t then none else oS P (dp d) fs.toList 0|some (.array n e)=>(match dp d e with|some l=>if bi P e=some l.length then some (List.replicate n l).flatten else none|none=>none)|_=>none
def nK(k:TypeId):Option (Bool×List Pk):=(dp P 8 k).map λds=>(match P.underlying k with|some (.struct _)|some (.array _ _)=>true|_=>false,ds)
def pg(l:List Operand):Option (List IA):=l.mapM pE
def uO(t:TypeId)(i:Nat):Option Field:=match P.underlying t with|some (.struct fs)=>fs[i]?|_=>none
def kh(e:TypeId):Option (Nat×List IV):=match bi P e,iH P e with|some n,some z=>if z.cells.length=n then some (n,z.cells) else none|_,_=>none
def a7(b:Builtin)(ts:List TypeId):Option Kd:=match b,ts with|.len,[t]=>(match P.underlying t with|some (.slice _)=>some .lenSl|some (.map _ _)=>some .lenMap|_=>none)|.cap,[t]=>(match P.underlying t with|some (.slice _)=>some .cap|_=>none)|.append,[t,u]=>(match P.underlying t,P.underlying u with|some (.slice e),some (.slice _)=>(kh P e).bind λz=>(nh P e).map λb=>.append e z.1 b|some (.slice e),some .string=>(kh P e).bind λz=>(nh P e).map λb=>.append e z.1 b|_,_=>none)|.copy,t::_=>(match P.underlying t with|some (.slice e)=>(bi P e).map .copy|_=>none)|.delete,t::_=>(match P.underlying t with|some (.map k _)=>(nK P k).map .delete|_=>none)|.clear,t::_=>(match P.underlying t with|some (.slice e)=>(kh P e).map λz=>.clear z.2|_=>none)|.min,_=>some .min|.max,_=>some .max|_,_=>none
def IB(op:BinOp)(t:TypeId):Option Kd:=match op with|.eql|.neq=>(let neg:=op matches .neq;match P.underlying t with|some .bool=>some (.eqBool neg)|some (.int _)|some .string=>some (.bin op)|some (.struct _)|some (.array _ _)=>if P.eqGuardType P.depth t then none else(dp P 8 t).map (.eqFlat neg)|some (.pointer _)=>some (.eqNil neg .ptr)|some (.slice _)=>some (.eqNil neg .sl)|some (.map _ _)=>some (.eqNil neg .map)|some (.func _ _ _)=>some (.eqNil neg .fn)|_=>none)|_=>some (.bin op)
def sT(place:Nat->Option (Nat×Nat))(q:Array (Nat×Operand)):Option (List (Nat×Nat)):=q.toList.mapM λp=>place p.1
def dg(op:Op):Option Kd:=match op with|.move _|.assign _=>some .move|.pick _ _ _=>some .pick|.alloc e=>(bi P e).bind λn=>(iH P e).map λz=>.alloc e n z.cells|.box e _=>(bi P e).map λn=>.box e n|.build t F=>(match P.underlying t with|some (.struct fs)=>if fs.all λf=>(bi P f.type).isSome then (sT (λi=>(fs[i]?).bind λf=>(bi P f.type).map λn=>(f.offset,n)) F).bind λq=>(iH P t).map λz=>.build z.cells q else none|some (.array _ e)=>(bi P e).bind λn=>(sT (λi=>some (i*n,n)) F).bind λq=>(iH P t).map λz=>.build z.cells q|_=>none)|.buildSlice t len F=>(match P.underlying t with|some (.slice e)=>(kh P e).bind λz=>(sT (λi=>some (i*z.1,z.1)) F).bind λq=>if len*z.1<=2^24/\len<2^40 then some (.buildSl e z.1 len (ka len z.2) q) else none|_=>none)|.load t _=>(xZ P t).map .load|.store t _ _=>(bi P t).map .store|.nilCheck _=>some .nilCheck|.binOp op t _ _ _=>IB P op t|.unOp op _ _=>some (.un op)|.convert O dst _=>(match P.underlying O,P.underlying dst with|some (.int _),some (.int k)=>some (.conv k)|_,_=>none)|.makeFunc (.func f) E _=>some (.mkfn f E.size)|.makeMap t _=>(match P.underlying t with|some (.map _ _)=>some .mkmap|_=>none)|.makeSlice t _ _=>(match P.underlying t with|some (.slice e)=>(kh P e).bind λz=>(nh P e).map λb=>.mksl e z.1 b z.2|_=>none)|.slice t _ lo hi Q=>(match P.underlying t with|some (.slice e)=>(bi P e).map λn=>.slc n lo.isSome hi.isSome Q.isSome|_=>none)|.fieldAddr t _ i=>(uO P t i).bind λf=>(bi P f.type).bind λn=>if n=0 then none else some (.fieldAddr f.offset)|.indexAddr t _ _=>(match P.underlying t with|some (.slice e)=>(bi P e).map .idxSl|some (.array n e)=>(bi P e).map λk=>.idxArrAddr n k|_=>none)|.index t _ _=>(match P.underlying t with|some (.array n e)=>(bi P e).bind λk=>(xZ P e).map λa=>.idxArr n k a|_=>none)|.lookup t _ _ ok=>(match P.underlying t with|some (.map k e)=>(nK P k).bind λky=>(iH P e).map λz=>.lookup t ky z ok|_=>none)|.mapUpdate t _ _ _|.insert t _ _ _=>(match P.underlying t with|some (.map I _)=>(nK P I).map .mapUpd|_=>none)|.mapEntry t _ _=>(match P.underlying t with|some (.map I e)=>(nK P I).bind λky=>(iH P e).map λz=>.mapEntry t ky z|_=>none)|.entryStore _ _ _ _=>some .entryStore|.range t _=>(match P.underlying t with|some (.map _ _)=>some .rangeM|_=>none)|.next _ false=>some .nextM|.entry _=>some .entryM|.extract _ i=>some (.extract i)|.call c=>(match c.callee with|.value _=>some .call|.builtin b=>a7 P b c.argTypes.toList|_=>none)|_=>none
def VE(o:Oper):Option (Kd×List IA):=do
 let kd←dg P o.op
 let as←pg o.op.operands.toList
 pure (kd,as)
def FP:List Oper->Nat->Bool|[],_=>true|o::os,i=>(o.after.all λe=>!Region.binds .any e||decide (e.on<i))&&FP os (i+1)
def mask(q:List Nat)(o:Oper):Nat:=o.after.toList.foldl (λs e=>if Region.binds .any e then s||| 2^e.on||| q.getD e.on 0 else s) 0
def gH:List Oper->List Nat->List Nat|[],q=>q|o::os,q=>gH os (q++[mask q o])
def gO(ms:List Nat)(i j:Nat):Bool:=(ms.getD (Max.max i j) 0).testBit (Min.min i j)
def yM:IA->Option Nat|.tmp t=>some t|_=>none
def IOp.names(o:IOp):List Nat:=o.dst.toList++o.args.filterMap yM++(o.guard.map (·.1)).toList
def sA(a b:IOp):Bool:=(match a.dst with|some d=>!b.names.contains d|none=>true)&& (match b.dst with|some d=>!a.names.contains d|none=>true)
def nW(ms:List Nat)(i:Nat)(a:IOp):List IOp->Nat->Bool|[],_=>true|b::l,j=>(gO ms i j||sA a b)&&nW ms i a l (j+1)
def qQ(ms:List Nat):List IOp->Nat->Bool|[],_=>true|a::l,i=>nW ms i a l (i+1)&&qQ ms l (i+1)
def iY(ops:Array Oper)(o:Oper):Option IOp:=do
 let (kd,args)←VE P o
 let guard←match o.guard with
  | none=>pure none
  | some (j,want)=>do pure (some (←(ops[j]?).bind (·.dst),want))
 pure {dst:=o.dst,kd,args,guard,amb:=true,idx:=0,mask:=0}
def DD(ms:List Nat)(i:Nat):Bool:=(ms.drop i).all λm=>m%2^i=2^i - 1
def ov(l:List IOp):Sg:=if l.length<=1 then .seq else .free
def Kd.isLoad:Kd->Bool|.load _|.slc _ _ _ _=>true|_=>false
def Kd.isLook:Kd->Bool|.lookup _ _ _ false=>true|_=>false
def Kd.light(k:Kd):Bool:=k.pure||k.isLoad||k.isLook
def Kd.isWr:Kd->Bool|.append _ _ _|.mapEntry _ _ _=>true|_=>false
def kW(ms:List Nat)(i:Nat)(ok:Kd->Bool):List IOp->Nat->Bool|[],_=>true|b::l,j=>(i==j||gO ms i j||ok b.kd)&&kW ms i ok l (j+1)
def JL(ms:List Nat)(l:List IOp)(i:Nat)(k:Kd):Bool:=k.isStore||kW ms i Kd.pure l 0||(k.isWr&&kW ms i Kd.light l 0)
def jr(ms:List Nat)(all:List IOp):List IOp->Nat->List IOp|[],_=>[]|o::l,i=>{o with amb:=JL ms all i o.kd,idx:=i,mask:=ms.getD i 0}::jr ms all l (i+1)
def lZ(a b:IOp):Bool:=a.kd.light||b.kd.light||(a.kd.isStore&&b.kd.isStore)||(!a.amb&&!b.amb)
def lj(ms:List Nat)(i:Nat)(a:IOp):List IOp->Nat->Bool|[],_=>true|b::l,j=>(gO ms i j||lZ a b)&&lj ms i a l (j+1)
def nl(ms:List Nat):List IOp->Nat->Bool|[],_=>true|a::l,i=>lj ms i a l (i+1)&&nl ms l (i+1)
def parts(ms:List Nat):List IOp->Nat->List IOp->List (Sg×List IOp)|[],_,[]=>[]|[],_,q=>[(ov q.reverse,q.reverse)]|o::l,i,q=>if DD ms (i+1) then(ov (o::q).reverse,(o::q).reverse)::parts ms l (i+1) [] else parts ms l (i+1) (o::q)
def Ev(md:Region.Mode)(ops:Array Oper):List Nat->List Nat->Bool|[],seen=>(List.range ops.size).all seen.contains|i::l,seen=>(match ops[i]? with|some o=>o.after.all (λe=>!Region.binds md e||seen.contains e.on)|none=>false)&&Ev md ops l (i::seen)
def vy(ops:Array Oper):Bool:=Ev .any ops (List.range ops.size) []&& (!Region.departs ops||(Ev .text ops (List.range ops.size) []&&Ev .gc ops (Region.linearise .gc ops 0) []))
def dq(ops:Array Oper)(draw:Bool):Option (List (Sg×List IOp)):=do
 let l←ops.toList.mapM (iY P ops)
 if draw then
  let ms:=gH ops.toList []
  let l:=jr ms l l 0
  if vy ops&&FP ops.toList 0&&qQ ms l 0&&nl ms l 0 then pure (parts ms l 0 []) else none
 else pure [(.seq,l)]
def bg:Code→Option IC
 | .skip=>some .skip
 | .region _ ops draw=>(dq P ops draw).map .ops
 | .seq a b=>do pure (.seq (←bg a) (←bg b))
 | .cond c a b=>do pure (.cond (←pE c) (←bg a) (←bg b))
 | .block id c=>do pure (.block id (←bg c))
 | .scope c=>do pure (.scope (←bg c))
 | .label _=>some .skip
 | .loop c=>do pure (.loop (←bg c))
 | .rangeFunc f ps asg body=>do pure (.rfn (←pE f) ps.toList (←bg asg) (←bg body))
 | .exit id=>some (.exit id)
 | .ret=>some .ret
 | _=>none
def xE:ResultVar->Option (Nat×Option (Option Nat))|.tmp t=>some (t,none)|.cell a t=>(xZ P t).map λn=>(a,some n)
def iy(f:FuncId):Option IFn:=
 match P.funcs[f]? with
 | none=>none
 | some fn=>
   if fn.name=="runtime.NumGoroutine" then none else
   match fn.body with
   | none=>none
   | some c=>do pure ⟨fn.ntmps,←fn.results.toList.mapM (xE P),←bg P c⟩
end
def IObj.owned:IObj->Bool|.cells true _ _ _=>false|.dead=>false|_=>true
def kF:Jmp->Code|.exit id=>.exit id|.ret=>.ret
def EsR(μ:Mu):List (IV×IV×Nat)->List MapEntry->Prop|[],l=>l=[]|(k,v,s)::E,l=>∃(e:MapEntry) (q:List MapEntry),l=e::q/\VR μ k e.key/\VR μ v e.val/\e.born=s/\EsR μ E q
def EsR.mono{μ q:Mu}(E:μ.le q):∀{F:List (IV×IV×Nat)}{l:List MapEntry},EsR μ F l->EsR q F l|[],_,h=>h|(k,v,_)::_,_,h=>by obtain⟨e,I,a,b,c,d,f⟩:=h;exact⟨e,I,a,VR.mono E k _ b,VR.mono E v _ c,d,EsR.mono E f⟩
def ObjR(P:Program)(μ:Mu)(o:IObj)(p ez z:Nat)(h:Option Obj):Prop:=match o with|.cells true _ _ cs=>ez=0/\∃(q:Array Value) (e:TypeId) (Z:Nat×Nat),h=some (.cells q e Z)/\p+cs.length<=q.size/\VRs μ cs ((q.toList.drop p).take cs.length)|.cells false e Q cs=>p=0/\ez=Q/\∃q:Array Value,h=some (.cells q e (0,0))/\q.size=z/\cs.length<=z/\VRs μ cs (q.toList.take cs.length)|.map V E=>p=0/\∃I:Array MapEntry,h=some (.map I E)/\EsR μ V I.toList|.loop st pend tm ps O body U=>p=0/\∃L:Loop,h=some (.loop L)/\L.state=st/\L.pending=pend.map kF/\VRs μ tm L.tmps.toList/\L.params.toList=ps/\ bg P L.assign=some O/\bg P L.body=some body/\LocR μ U 0 ⟨L.defers,0,none⟩|.deferred=>p=0/\h=some (.deferred (some []))|.taken=>p=0/\h=some (.deferred none)|.iter m F seen last=>p=0/\∃T:Option Nat,h=some (.mapIter T F seen.toArray last)/\VR μ (match m with|none=>.nilMap|some b=>.map b) (.map T)|.dead=>False
def ObjR.mono{P:Program}{μ F:Mu}{o:IObj}{p ez z:Nat}{h:Option Obj}(E:μ.le F)(k:ObjR P μ o p ez z h):ObjR P F o p ez z h:=by cases o with|cells ro e V cs=>cases ro;{obtain⟨a,b,q,c,d,O,f⟩:=k;exact⟨a,b,q,c,d,O,VRs.mono E _ _ f⟩};{obtain⟨a,q,O,Z,b,c,f⟩:=k;exact⟨a,q,O,Z,b,c,VRs.mono E _ _ f⟩}|map es I=>obtain⟨a,Q,b,c⟩:=k;exact⟨a,Q,b,EsR.mono E c⟩|loop st pend tm ps U body df=>obtain⟨a,L,b,c,d,e,f,g,i,j⟩:=k;exact⟨a,L,b,c,d,VRs.mono E _ _ e,f,g,i,j.mono E⟩|deferred=>exact k|taken=>exact k|iter m T seen last=>obtain⟨a,m',b,c⟩:=k;exact⟨a,m',b,VR.mono E _ _ c⟩|dead=>exact k
def ObjR.some_{P:Program}{μ:Mu}{o:IObj}{p ez z:Nat}{h:Option Obj}(k:ObjR P μ o p ez z h):∃x,h=some x:=by cases o with|cells T e Q cs=>cases T;{obtain⟨_,_,E,c,_⟩:=k;exact⟨_,c⟩};{obtain⟨_,E,V,fz,b,_⟩:=k;exact⟨_,b⟩}|map Z q=>obtain⟨_,O,b,_⟩:=k;exact⟨_,b⟩|loop st pend tm ps I body U=>obtain⟨_,L,b,_⟩:=k;exact⟨_,b⟩|deferred=>exact⟨_,k.2⟩|taken=>exact⟨_,k.2⟩|iter m F seen last=>obtain⟨_,m',b,_⟩:=k;exact⟨_,b⟩|dead=>exact k.elim
abbrev Gt:=Nat->Option IObj
def bE(g:Gt)(b:Nat):Prop:=∃o,g b=some o/\o.owned=true
structure Rel(P:Program)(g0:Nat)(μ:Mu)(g:Gt)(n:Nat)(w:World):Prop where
 lt:∀b,μ b≠.no→b < n
 inj:∀b b' c p ez z p' ez' z',μ b=.at c p ez z→μ b'=.at c p' ez' z'→bE g b→b=b'
 obj:∀b c p ez z,μ b=.at c p ez z→∃o,g b=some o∧ObjR P μ o p ez z w.heap[c]?
 glob:∀i,i < g0→μ i=.at i 0 0 0
 ded:∀b,μ b=.dead→g b=some .dead
structure Post(lo:Nat)(μ:Mu)(g:Gt)(n:Nat)(w:World)(μ':Mu)(g':Gt)(n':Nat)(w':World):Prop where
 le:μ.le μ'
 hn:n≤n'
 old:∀b,b < n→μ b=.no→μ' b=.no
 low:∀b,b < lo→b < n→μ' b=μ b∧g' b=g b
 own:∀b,b < n→bE g' b→bE g b
 new:∀b c p ez z,n≤b→μ' b=.at c p ez z→w.heap.size≤c∨∃b0 p0 ez0 z0,lo≤b0∧b0 < n∧bE g b0∧μ b0=.at c p0 ez0 z0
 full:∀b,n≤b→b < n'→μ' b≠.no
 size:w.heap.size≤w'.heap.size
 frame:∀c,c < w.heap.size→(∀b p ez z,lo≤b→b < n→bE g b→μ b≠.at c p ez z)→w'.heap[c]? =w.heap[c]?
 os:w'.os=w.os
 tape:w'.tape=w.tape
 output:w'.output=w.output
 drawn:w.drawn≤w'.drawn
section
variable {P:Program}{g0 lo n:Nat}{μ:Mu}{g:Gt}{w:World}
def Rel.clt(h:Rel P g0 μ g n w){b c p ez z:Nat}(q:μ b=.at c p ez z):c<w.heap.size:=by obtain⟨o,_,E⟩:=h.obj b c p ez z q;obtain⟨x,hx⟩:=E.some_;grind
def Rel.heap_eq{w':World}(h:Rel P g0 μ g n w)(e:w'.heap=w.heap):Rel P g0 μ g n w':=⟨h.lt,h.inj,λb c p ez z q=>by rw[e];exact h.obj b c p ez z q,h.glob,h.ded⟩
def Rel.congr{I:Gt}(h:Rel P g0 μ g n w)(e:∀b,μ b≠.no->I b=g b):Rel P g0 μ I n w where lt:=h.lt;inj:=λb b' c p ez z T E U q F Q=>h.inj b b' c p ez z T E U q F (by obtain⟨o,V,O⟩:=Q;exact⟨o,by grind,O⟩);obj:=λb c p ez z q=>by{rw[e b (by grind)];exact h.obj b c p ez z q};glob:=h.glob;ded:=λb q=>by rw[e b (by grind)];exact h.ded b q
def Rel.more{q:Nat}(h:Rel P g0 μ g n w)(hn:n<=q):Rel P g0 μ g q w:=⟨λb E=>cC (h.lt b E) hn,h.inj,h.obj,h.glob,h.ded⟩
theorem Post.refl(h:Rel P g0 μ g n w):Post lo μ g n w μ g n w where le:=μ.le_refl;hn:=ao _;old:=λ_ _ h=>h;low:=λ_ _ _=>⟨rfl,rfl⟩;own:=λ_ _ h=>h;new:=λb c p ez z F e=>absurd (h.lt b (by grind)) Om;full:=λb q E=>Om;size:=ao _;frame:=λ_ _ _=>rfl;os:=rfl;tape:=rfl;output:=rfl;drawn:=ao _
def Post.trans{n1 n2:Nat}{Q ag:Mu}{g1 g2:Gt}{w1 w2:World}(h:Post lo μ g n w Q g1 n1 w1)(k:Post lo Q g1 n1 w1 ag g2 n2 w2):Post lo μ g n w ag g2 n2 w2 where le:=Mu.le_trans h.le k.le;hn:=de h.hn k.hn;old:=λb I e=>k.old b (cC I h.hn) (h.old b I e);low:=λb hl I=>by{obtain⟨a1,a2⟩:=h.low b hl I;obtain⟨b1,b2⟩:=k.low b hl (cC I h.hn);grind};own:=λb I o=>h.own b I (k.own b (cC I h.hn) o);new:=λb c p ez z I e=>by{have key:∀b0 T E U,lo<=b0->b0<n1->bE g1 b0->Q b0=.at c T E U->w.heap.size<=c\/∃b0 T E U,lo<=b0/\b0<n/\bE g b0/\μ b0=.at c T E U:=by{intro b0 T E U V an ho Z;by_cases q:b0<n;{have F:μ b0≠.no:=λe'=>by{rw[h.old b0 q e'] at Z;cases Z};rcases h.le b0 F with O|O;{exact .inr ⟨b0,T,E,U,V,q,h.own b0 q ho,by rw[<-O];exact Z⟩};{rw[O] at Z;cases Z}};{exact h.new b0 c T E U Om Z}};by_cases q:b<n1;{have F:Q b≠.no:=λe'=>by{rw[k.old b q e'] at e;cases e};rcases k.le b F with O|O;{exact h.new b c p ez z I (by rw[<-O];exact e)};{rw[O] at e;cases e}};{rcases k.new b c p ez z Om e with hc|⟨b0,T,E,U,h1,h2,h3,h4⟩;{exact .inl (de h.size hc)};grind}};full:=λb h1 h2=>by{by_cases I:b<n1;{have F:=h.full b h1 I;rcases k.le b F with e|e<;>grind};{exact k.full b Om h2}};size:=de h.size k.size;frame:=λc hc ad=>by{refine(k.frame c (cC hc h.size) λb p ez z V an ho e=>?_).trans (h.frame c hc ad);by_cases q:b<n;{have F:μ b≠.no:=λe'=>by{rw[h.old b q e'] at e;cases e};rcases h.le b F with O|O;{exact ad b p ez z V q (h.own b q ho) (by rw[<-O];exact e)};{rw[O] at e;cases e}};{rcases h.new b c p ez z Om e with ay|⟨b0,T,E,U,h1,h2,h3,h4⟩<;>grind}};os:=k.os.trans h.os;tape:=k.tape.trans h.tape;output:=k.output.trans h.output;drawn:=de h.drawn k.drawn
def Post.lower{q n1:Nat}{E:Mu}{g1:Gt}{O:World}(hl:lo<=q)(h:Post q μ g n w E g1 n1 O):Post lo μ g n w E g1 n1 O where le:=h.le;hn:=h.hn;old:=h.old;low:=λb a c=>h.low b Om c;own:=h.own;new:=λb c p ez z T e=>by{rcases h.new b c p ez z T e with I|⟨b0,p0,Q,z0,V,Z,h3,h4⟩<;>grind};full:=h.full;size:=h.size;frame:=λc I F=>h.frame c I λb p ez z U=>F b p ez z Om;os:=h.os;tape:=h.tape;output:=h.output;drawn:=h.drawn
def Post.same{w':World}(h:Rel P g0 μ g n w)(e:w'.heap=w.heap)(q:w'.os=w.os)(E:w'.tape=w.tape)(F:w'.output=w.output)(I:w.drawn<=w'.drawn:=by first|exact ao _|exact oD _|assumption|(simp;done)|omega):Post lo μ g n w μ g n w' where le:=μ.le_refl;hn:=ao _;old:=λ_ _ h=>h;low:=λ_ _ _=>⟨rfl,rfl⟩;own:=λ_ _ h=>h;new:=λb c p ez z T e=>absurd (h.lt b (by grind)) Om;full:=λb O Q=>Om;size:=by{rw[e];exact ao _};frame:=λ_ _ _=>by{rw[e]};os:=q;tape:=E;output:=F;drawn:=I
def Mu.upd(μ:Mu)(b:Nat)(l:Loc):Mu:=λx=>if x=b then l else μ x
theorem aI(μ:Mu)(b:Nat)(l:Loc):μ.upd b l b=l:=by simp[Mu.upd]
theorem aJ(μ:Mu){b x:Nat}(l:Loc)(h:x≠b):μ.upd b l x=μ x:=by simp[Mu.upd,h]
def Mu.le_upd(μ:Mu){b:Nat}(l:Loc)(h:μ b=.no):μ.le (μ.upd b l):=λx hx=>by left;refine aJ _ _ λe=>hx (by rw[e];exact h)
def Mu.le_kill(μ:Mu)(b:Nat):μ.le (μ.upd b .dead):=λx hx=>by grind[aI,aJ]
def Rel.fresh(h:Rel P g0 μ g n w):μ n=.no:=by cases e:μ n with|no=>rfl|dead=>exact absurd (h.lt n (by grind)) Om|«at» c p ez z=>exact absurd (h.lt n (by grind)) Om
theorem Xs(h:Array Obj)(ob:Obj):(h.push ob)[h.size]? =some ob:=by simp
def HC(h:Array Obj)(ob:Obj){c:Nat}(q:c<h.size):(h.push ob)[c]? =h[c]?:=by grind
def Rel.alloc{H:Heap}(h:Rel P g0 μ H.get H.n w){w':World}{ob:Obj}{o:IObj}{ez z:Nat}(hw:w'.heap=w.heap.push ob)(Z:ObjR P (μ.upd H.n (.at w.heap.size 0 ez z)) o 0 ez z (some ob))(e1:w'.os=w.os)(e2:w'.tape=w.tape)(e3:w'.output=w.output)(e4:w.drawn<=w'.drawn:=by first|exact ao _|exact oD _|assumption|(simp;done)|omega):Rel P g0 (μ.upd H.n (.at w.heap.size 0 ez z)) (H.new o).get (H.new o).n w'/\ Post lo μ H.get H.n w (μ.upd H.n (.at w.heap.size 0 ez z)) (H.new o).get (H.new o).n w':=by have Q:=h.fresh;have O:=μ.le_upd (.at w.heap.size 0 ez z) Q;have old:∀b,b≠H.n->(H.new o).get b=H.get b:=λb q=>by{rw[ak,if_neg (Ne.symm q)]};have ad:(H.new o).get H.n=some o:=by{rw[ak,if_pos rfl]};refine⟨⟨λb q=>?_,?_,?_,λi hi=>?_,λb q=>?_⟩,⟨O,by rw[af];omega,λb q e=>?_,λb _ q=>?_,λb q Z=>?_,λb c p ez z q e=>?_,λb h1 h2=>?_,?_,λc hc _=>?_,e1,e2,e3,e4⟩⟩;{rw[af];by_cases e:b=H.n;{omega};{rw[aJ _ _ e] at q;have:=h.lt b q;omega}};{intro b b' c p ez z p' F V q E T;by_cases e:b=H.n;{subst e;rw[aI] at q;by_cases I:b'=H.n;{exact I.symm};{rw[aJ _ _ I] at E;have:=h.clt E;grind}};{rw[aJ _ _ e] at q;by_cases I:b'=H.n;{subst I;rw[aI] at E;have:=h.clt q;grind};{rw[aJ _ _ I] at E;refine h.inj b b' c p ez z p' F V q E ?_;obtain⟨x,hx,U⟩:=T;exact⟨x,by rw[<-old b e];exact hx,U⟩}}};{intro b c p F V q;by_cases e:b=H.n;{grind[aI,Xs]};{rw[aJ _ _ e] at q;obtain⟨x,hx,hr⟩:=h.obj b c p F V q;refine⟨x,by rw[old b e];exact hx,?_⟩;rw[hw,HC _ _ (h.clt q)];exact hr.mono O}};{have hn:μ i≠.no:=by{rw[h.glob i hi];exactλx=>by cases x};rw[aJ _ _ (Oh (h.lt i hn))];exact h.glob i hi};{by_cases e:b=H.n;{grind[aI]};{rw[aJ _ _ e] at q;rw[old b e];exact h.ded b q}};{grind[aJ]};{grind[aJ]};{obtain⟨x,hx,U⟩:=Z;exact⟨x,by grind,U⟩};{by_cases eb:b=H.n;{grind[aI]};{rw[aJ _ _ eb] at e;exact absurd (h.lt b (by grind)) Om}};{grind[af,aI]};{grind};{rw[hw,HC _ _ hc]}
def Rel.update{H:Heap}(h:Rel P g0 μ H.get H.n w){w':World}{b c p ez z:Nat}{o:IObj}(T:μ b=.at c p ez z)(ay:lo<=b)(I:bE H.get b)(aS:w'.heap.size=w.heap.size)(E:∀c',c'≠c->w'.heap[c']? =w.heap[c']?)(ho:ObjR P μ o p ez z w'.heap[c]?)(e1:w'.os=w.os)(e2:w'.tape=w.tape)(e3:w'.output=w.output)(e4:w.drawn<=w'.drawn:=by first|exact ao _|exact oD _|assumption|(simp;done)|omega):Rel P g0 μ (H.put b o).get (H.put b o).n w'/\Post lo μ H.get H.n w μ (H.put b o).get (H.put b o).n w':=by have old:∀x,x≠b->(H.put b o).get x=H.get x:=λx hx=>by{rw[aa,if_neg (Ne.symm hx)]};have ad:(H.put b o).get b=some o:=by{rw[aa,if_pos rfl]};have ag:=h.lt b (by rw[T];exactλx=>by cases x);have F:∀x,bE (H.put b o).get x->bE H.get x:=λx hx=>by{by_cases e:x=b;{subst e;exact I};{obtain⟨y,hy,hz⟩:=hx;exact⟨y,by rw[<-old x e];exact hy,hz⟩}};refine⟨⟨h.lt,λx x' c1 O q Q p2 U z2 hx Z V=>h.inj x x' c1 O q Q p2 U z2 hx Z (F x V),λx c1 O q Q hx=>?_,h.glob,λx hx=>by rw[old x (λe=>by subst e;rw[T] at hx;cases hx)];exact h.ded x hx⟩,⟨μ.le_refl,ao _,λ_ _ e=>e,λx a0 _=>⟨rfl,old x Om⟩,λx _ hx=>F x hx,λx c1 O q Q hx e=>absurd (h.lt x (by rw[e];exactλy=>by cases y)) Om,λx h1 h2=>by rw[ai] at h2;omega,Om,λc1 an aE=>E c1 λe=>?_,e1,e2,e3,e4⟩⟩;{by_cases e:x=b;{subst e;rw[T] at hx;injection hx with a1 a2 a3 a4;subst a1 a2 a3 a4;exact⟨o,ad,ho⟩};{obtain⟨y,hy,hr⟩:=h.obj x c1 O q Q hx;refine⟨y,by rw[old x e];exact hy,?_⟩;rw[E c1 λec=>e ?_];{exact hr};{subst ec;exact(h.inj b x c1 p ez z O q Q T hx I).symm}}};grind
def Rel.kill{H:Heap}(h:Rel P g0 μ H.get H.n w){b:Nat}(ad:lo<=b)(hg:g0<=b)(hb:μ b≠.no):Rel P g0 (μ.upd b .dead) (H.put b .dead).get (H.put b .dead).n w/\Post lo μ H.get H.n w (μ.upd b .dead) (H.put b .dead).get (H.put b .dead).n w:=by have old:∀x,x≠b->(H.put b .dead).get x=H.get x:=λx hx=>by{rw[aa,if_neg (Ne.symm hx)]};have O:(H.put b .dead).get b=some .dead:=by{rw[aa,if_pos rfl]};have T:=h.lt b hb;have I:=μ.le_kill b;have q:∀x c p ez z,μ.upd b .dead x=.at c p ez z->x≠b/\μ x=.at c p ez z:=λx c p ez z hx=>by{by_cases e:x=b;{subst e;rw[aI] at hx;cases hx};{rw[aJ _ _ e] at hx;exact⟨e,hx⟩}};have E:∀x,bE (H.put b .dead).get x->bE H.get x:=λx hx=>by{by_cases e:x=b;{subst e;obtain⟨y,F,V⟩:=hx;rw[O] at F;injection F with F;subst F;cases V};{obtain⟨y,F,V⟩:=hx;exact⟨y,by rw[<-old x e];exact F,V⟩}};refine⟨⟨λx hx=>?_,λx x' c p ez z p' Q z' hx U ho=>h.inj x x' c p ez z p' Q z' (q _ _ _ _ _ hx).2 (q _ _ _ _ _ U).2 (E x ho),λx c p ez z hx=>?_,λi hi=>?_,λx hx=>?_⟩,⟨I,ao _,λx hx e=>?_,λx ag hx=>⟨aJ _ _ Om,old x Om⟩,λx _ hx=>E x hx,λx c p ez z hx e=>absurd (h.lt x (by rw[(q _ _ _ _ _ e).2];exactλy=>by cases y)) Om,λx h1 Z=>by rw[ai] at Z;omega,ao _,λ_ _ _=>rfl,rfl,rfl,rfl,ao _⟩⟩;{by_cases e:x=b;{subst e;exact T};{rw[aJ _ _ e] at hx;exact h.lt x hx}};{obtain⟨e,hx⟩:=q _ _ _ _ _ hx;obtain⟨y,F,hr⟩:=h.obj x c p ez z hx;exact⟨y,by rw[old x e];exact F,hr.mono I⟩};{rw[aJ _ _ Om];exact h.glob i hi};{by_cases e:x=b;{subst e;exact O};{rw[aJ _ _ e] at hx;rw[old x e];exact h.ded x hx}};grind[absurd,aJ]
def Rel.regrow{H:Heap}(h:Rel P g0 μ H.get H.n w){w':World}{b c ez z:Nat}{o:IObj}(hb:μ b=.at c 0 ez z)(aE:lo<=b)(hg:g0<=b)(Q:bE H.get b)(bc:w'.heap.size=w.heap.size)(U:∀c',c'≠c->w'.heap[c']? =w.heap[c']?)(ho:ObjR P ((μ.upd b .dead).upd H.n (.at c 0 ez z)) o 0 ez z w'.heap[c]?)(e1:w'.os=w.os)(e2:w'.tape=w.tape)(e3:w'.output=w.output)(e4:w.drawn<=w'.drawn:=by first|exact ao _|exact oD _|assumption|(simp;done)|omega):Rel P g0 ((μ.upd b .dead).upd H.n (.at c 0 ez z)) ((H.put b .dead).new o).get ((H.put b .dead).new o).n w'/\ Post lo μ H.get H.n w ((μ.upd b .dead).upd H.n (.at c 0 ez z)) ((H.put b .dead).new o).get ((H.put b .dead).new o).n w':=by have ay:b<H.n:=h.lt b (by rw[hb];exactλx=>by cases x);have old:∀x,x≠b->x≠H.n->((H.put b .dead).new o).get x=H.get x:=λx hx O=>by{rw[ak,if_neg (by rw[ai];exact Ne.symm O),aa,if_neg (Ne.symm hx)]};have a5:((H.put b .dead).new o).get H.n=some o:=by{rw[ak,ai,if_pos rfl]};have an:((H.put b .dead).new o).get b=some .dead:=by{rw[ak,ai,iN,aa,if_pos rfl]};have mb:(μ.upd b .dead).upd H.n (.at c 0 ez z) b=.dead:=by{rw[aJ _ _ Om,aI]};have mn:(μ.upd b .dead).upd H.n (.at c 0 ez z) H.n=.at c 0 ez z:=aI _ _ _;have mo:∀x,x≠b->x≠H.n->(μ.upd b .dead).upd H.n (.at c 0 ez z) x=μ x:=λx hx O=>by{rw[aJ _ _ O,aJ _ _ hx]};have ag:μ.le ((μ.upd b .dead).upd H.n (.at c 0 ez z)):=λx hx=>by{by_cases e:x=b;{subst e;exact .inr mb};{exact .inl (mo x e λF=>by subst F;exact hx h.fresh)}};have q:∀x c' p' T z',(μ.upd b .dead).upd H.n (.at c 0 ez z) x=.at c' p' T z'->(x=H.n/\c'=c/\p'=0/\T=ez/\z'=z)\/(x≠b/\x≠H.n/\μ x=.at c' p' T z'):=by{intro x c' p' T z' hx;by_cases e:x=H.n;{subst e;rw[mn] at hx;injection hx with E a2 a3 a4;exact .inl ⟨rfl,E.symm,a2.symm,a3.symm,a4.symm⟩};{by_cases F:x=b;{subst F;rw[mb] at hx;cases hx};{rw[mo x F e] at hx;exact .inr ⟨F,e,hx⟩}}};have V:∀x,x<H.n->bE ((H.put b .dead).new o).get x->bE H.get x:=λx hx Z=>by{obtain⟨y,hy,hz⟩:=Z;by_cases e:x=b;{subst e;exact Q};{exact⟨y,by rw[<-old x e Om];exact hy,hz⟩}};refine⟨⟨λx hx=>?_,λx x' c1 p1 I z1 p2 ad z2 hx O a0=>?_,λx c1 p1 I z1 hx=>?_,λi hi=>?_,λx hx=>?_⟩,⟨ag,by rw[af,ai];omega,λx hx e=>?_,λx bd hx=>⟨mo x Om Om,old x Om Om⟩,λx hx Z=>V x hx Z,λx c1 p1 I z1 hx e=>?_,λx h1 h2=>?_,Om,λc1 a6 a9=>U c1 λe=>?_,e1,e2,e3,e4⟩⟩;{rw[af,ai];by_cases e:x=H.n;{omega};{by_cases F:x=b;{omega};{rw[mo x F e] at hx;have:=h.lt x hx;omega}}};{rcases q _ _ _ _ _ hx with⟨a,E,-⟩|⟨a,a',E⟩;{rcases q _ _ _ _ _ O with⟨d,-⟩|⟨d,d',d1⟩;{rw[a,d]};{subst E;exact absurd (h.inj b x' c1 0 ez z p2 ad z2 hb d1 Q).symm d}};{have aS:=h.lt x (by rw[E];exactλx=>by cases x);rcases q _ _ _ _ _ O with⟨d,d1,-⟩|⟨d,d',d1⟩;{subst d1;exact absurd (h.inj b x c1 0 ez z p1 I z1 hb E Q).symm a};{exact h.inj x x' c1 p1 I z1 p2 ad z2 E d1 (V x aS a0)}}};{rcases q _ _ _ _ _ hx with⟨a,E,a2,a3,a4⟩|⟨a,a',E⟩;{subst a E a2 a3 a4;exact⟨o,a5,ho⟩};{obtain⟨y,hy,hr⟩:=h.obj x c1 p1 I z1 E;refine⟨y,by rw[old x a a'];exact hy,?_⟩;rw[U c1 λec=>a ?_];{exact hr.mono ag};{subst ec;exact(h.inj b x c1 0 ez z p1 I z1 hb E Q).symm}}};{have hn:μ i≠.no:=by{rw[h.glob i hi];exactλx=>by cases x};rw[mo i Om (Oh (h.lt i hn))];exact h.glob i hi};{by_cases e:x=b;{subst e;exact an};{by_cases F:x=H.n;{subst F;rw[mn] at hx;cases hx};{rw[mo x e F] at hx;rw[old x e F];exact h.ded x hx}}};{by_cases F:x=b;{subst F;rw[hb] at e;cases e};{rw[mo x F Om];exact e}};{rcases q _ _ _ _ _ e with⟨a,E,-⟩|⟨a,a',E⟩;{subst E;exact .inr ⟨b,0,ez,z,aE,ay,Q,hb⟩};{exact absurd (h.lt x (by rw[E];exactλy=>by cases y)) Om}};{have e:x=H.n:=by{rw[af,ai] at h2;omega};subst e;rw[mn];exactλx=>by cases x};grind
end
section
variable {P:Program}{g0 lo:Nat}{μ:Mu}{H:Heap}{w:World}
def Gives(P:Program)(g0 lo:Nat)(μ:Mu)(H:Heap)(w:World)(s:Sem Next)(v:IV)(H':Heap):Prop:=∃(nx:Next) (v':Value) (w':World) (q:Mu),s.run P w=.ok nx w'/\(nx=.value v'\/(nx=.skip/\v'=undef))/\ Rel P g0 q H'.get H'.n w'/\Post lo μ H.get H.n w q H'.get H'.n w'/\VR q v v'
def Gives.pure(h:Rel P g0 μ H.get H.n w){s:Sem Next}{v:IV}{v':Value}(q:s.run P w=.ok (.value v') w)(E:VR μ v v'):Gives P g0 lo μ H w s v H:=⟨_,v',w,μ,q,.inl rfl,h,Post.refl h,E⟩
def cw{x:IV}{l:List Value}(h:VRs μ [x] l):∃a,l=[a]/\VR μ x a:=by obtain⟨a,l1,rfl,q,E⟩:=h;cases E;exact⟨a,rfl,q⟩
def cv{x y:IV}{l:List Value}(h:VRs μ [x,y] l):∃a b,l=[a,b]/\VR μ x a/\VR μ y b:=by obtain⟨a,l1,rfl,q,E⟩:=h;obtain⟨b,rfl,F⟩:=cw E;exact⟨a,b,rfl,q,F⟩
def pq{x y z:IV}{l:List Value}(h:VRs μ [x,y,z] l):∃a b c,l=[a,b,c]/\VR μ x a/\VR μ y b/\VR μ z c:=by obtain⟨a,l1,rfl,E,q⟩:=h;obtain⟨b,c,rfl,F,I⟩:=cv q;grind
def i9{k:IntKind}{n:Int}{v:Value}(h:VR μ (.int k n) v):v=.int k n:=h
def mj{b:Bool}{v:Value}(h:VR μ (.bool b) v):v=.bool b:=h
def Oq{s:List UInt8}{v:Value}(h:VR μ (.str s) v):v=.string ⟨⟨s⟩⟩:=h
def bO{t:TypeId}{n:Nat}(h:bi P t=some n)(w:World):(sizeOf t).run P w=.ok n w:=by unfold bi at h;cases hi:P.info? t<;>simp_all[sizeOf,typeInfo]
def zu{t:TypeId}{n:Nat}(h:bi P t=some n):∃i,P.info? t=some i/\i.size=n:=by unfold bi at h;cases hi:P.info? t with|none=>rw[hi] at h;cases h|some i=>rw[hi] at h;injection h with h;exact⟨i,rfl,h⟩
def xJ{t:TypeId}{n:Nat}(h:nh P t=some n):∃i,P.info? t=some i/\i.bytes=n:=by unfold nh at h;cases hi:P.info? t with|none=>rw[hi] at h;cases h|some i=>rw[hi] at h;injection h with h;exact⟨i,rfl,h⟩
def xD:∀(n:Nat)(v:Value)(x:IV),sw n v=some x->∀μ:Mu,VR μ x v:=by intro n;induction n with|zero=>intro v x h;cases h|succ n O=>intro v x h μ;unfold sw at h;split at h;{injection h with h;subst h;rfl};{injection h with h;subst h;rfl};{injection h with h;subst h;rfl};{injection h with h;subst h;rfl};{injection h with h;subst h;rfl};{injection h with h;subst h;rfl};{injection h with h;subst h;rfl};{injection h with h;subst h;rfl};{rename_i cs;cases hm:List.mapM (sw n) cs.toList with|none=>rw[hm] at h;cases h|some l=>rw[hm] at h;injection h with h;subst h;refine⟨cs,rfl,?_⟩;have key:∀(vs:List Value)(l:List IV),vs.mapM (sw n)=some l->VRs μ l vs:=by{intro vs;induction vs with|nil=>intro l q;simp at q;subst q;rfl|cons a vs I=>intro l q;simp only[sK] at q;cases E:sw n a with|none=>rw[E] at q;cases q|some x=>rw[E] at q;cases F:vs.mapM (sw n) with|none=>rw[F] at q;cases q|some xs=>rw[F] at q;injection q with q;subst q;exact⟨a,vs,rfl,O a x E μ,I xs F⟩};exact key _ _ hm};{cases h}
def jo{t:TypeId}{z:IV}(h:iH P t=some z):∃i q,P.info? t=some i/\i.zero=some q/\∀μ:Mu,VR μ z q:=by unfold iH at h;cases hi:P.info? t with|none=>rw[hi] at h;cases h|some i=>rw[hi] at h;cases E:i.zero with|none=>simp[E] at h|some q=>simp[E] at h;exact⟨i,q,rfl,E,xD 3 q z h⟩
def VR.cells_{x:IV}{v:Value}(h:VR μ x v):VRs μ x.cells v.cells.toList:=by cases x with|agg l=>obtain⟨F,rfl,E⟩:=h;exact E|ptr b o=>obtain⟨a,rfl,q⟩:=h;exact⟨_,_,rfl,⟨a,rfl,q⟩,rfl⟩|slice b o n lb ex=>obtain⟨a,c,rfl,q⟩:=h;exact⟨_,_,rfl,⟨a,c,rfl,q⟩,rfl⟩|map b=>obtain⟨a,rfl,q⟩:=h;exact⟨_,_,rfl,⟨a,rfl,q⟩,rfl⟩|fn f a b=>obtain⟨l,r,rfl,q⟩:=h;exact⟨_,_,rfl,⟨l,r,rfl,q⟩,rfl⟩|yield b=>obtain⟨a,rfl,q⟩:=h;exact⟨_,_,rfl,⟨a,rfl,q⟩,rfl⟩|iface t x=>obtain⟨a,rfl,q⟩:=h;exact⟨_,_,rfl,⟨a,rfl,q⟩,rfl⟩|tuple l=>obtain⟨F,rfl,E⟩:=h;exact⟨_,_,rfl,⟨F,rfl,E⟩,rfl⟩|bool b=>cases h;exact⟨_,_,Rr⟩|int k n=>cases h;exact⟨_,_,Rr⟩|str s=>cases h;exact⟨_,_,Rr⟩|nilPtr=>cases h;exact⟨_,_,Rr⟩|ns=>cases h;exact⟨_,_,Rr⟩|nilMap=>cases h;exact⟨_,_,Rr⟩|nilFunc=>cases h;exact⟨_,_,Rr⟩|nilIface=>cases h;exact⟨_,_,Rr⟩
def VR.one_cell{x:IV}{v:Value}(h:VR μ x v)(E:x.one=true):v.oneCell'=true:=by cases x with|agg l=>cases E|tuple l=>cases E|ptr b o=>obtain⟨a,rfl,q⟩:=h;rfl|slice b o n lb ex=>obtain⟨a,c,rfl,q⟩:=h;rfl|map b=>obtain⟨a,rfl,q⟩:=h;rfl|fn f a b=>obtain⟨l,r,rfl,q⟩:=h;rfl|yield b=>obtain⟨a,rfl,q⟩:=h;rfl|iface t x=>obtain⟨a,rfl,q⟩:=h;rfl|_=>cases h;rfl
def VRs.one_cells:∀{l:List IV}{F:List Value},VRs μ l F->l.all IV.one=true->∀v∈F,v.oneCell'=true|[],_,h,_,v,q=>by cases h;cases q|x::xs,_,h,E,v,q=>by obtain⟨y,ys,rfl,I,O⟩:=h;simp only[nq,bX] at E;cases q with|head=>exact I.one_cell E.1|tail _ q=>exact VRs.one_cells O E.2 v q
end
section
variable {P:Program}{g0 lo:Nat}{μ:Mu}{H:Heap}{w:World}{ρ:Operand->Value}{type:TypeId}{pos:String}{dst:Option Tmp}{after:Array Edge}{guard:Option (Nat×Bool)}{xs:List IV}{v:IV}{H':Heap}
def Te(h:Rel P g0 μ H.get H.n w){x:Operand}(q:ev1 .move xs lo H=some (v,H'))(hx:VRs μ xs [ρ x]):Gives P g0 lo μ H w (execOp ρ ⟨dst,.move x,type,pos,after,guard⟩) v H'/\Gives P g0 lo μ H w (execOp ρ ⟨dst,.assign x,type,pos,after,guard⟩) v H':=by simp only[ev1] at q;split at q;{injection q with q;injection q with E F;subst E F;obtain⟨y,O,I⟩:=cw hx;simp_all[Gives.pure,execOp]};{cases q}
def aa4(h:Rel P g0 μ H.get H.n w){c a b:Operand}(q:ev1 .pick xs lo H=some (v,H'))(hx:VRs μ xs [ρ c,ρ a,ρ b]):Gives P g0 lo μ H w (execOp ρ ⟨dst,.pick c a b,type,pos,after,guard⟩) v H':=by simp only[ev1] at q;split at q;{rename_i c1 U b1;injection q with q;injection q with I O;subst I O;obtain⟨V,Z,y3,F,E,Q,T⟩:=pq hx;simp only[il,and_true] at F;obtain⟨rfl,rfl,rfl⟩:=F;cases c1;{exact Gives.pure h (v':=ρ b) (by simp[execOp,mj E,asBool]) (by simpa using T)};{exact Gives.pure h (v':=ρ a) (by simp[execOp,mj E,asBool]) (by simpa using Q)}};{cases q}
def KE(h:Rel P g0 μ H.get H.n w){x:Operand}(F:ev1 .nilCheck xs lo H=some (v,H'))(hx:VRs μ xs [ρ x]):Gives P g0 lo μ H w (execOp ρ ⟨dst,.nilCheck x,type,pos,after,guard⟩) v H':=by simp only[ev1] at F;split at F;{rename_i a;obtain⟨y,I,E⟩:=cw hx;injection I with I;subst I;cases a<;>simp only[reduceCtorEq] at F<;>(injection F with F;injection F with O Q;subst O Q);(case fn f l r=>obtain⟨T,U,e,q⟩:=E;exact Gives.pure h (v':=ρ x) (by simp[execOp,e]) ⟨T,U,e,q⟩);(case ptr b o=>obtain⟨a,e,q⟩:=E;exact Gives.pure h (v':=ρ x) (by simp[execOp,e]) ⟨a,e,q⟩);(case slice b o n lb ex=>obtain⟨a,c,e,q⟩:=E;exact Gives.pure h (v':=ρ x) (by simp[execOp,e]) ⟨a,c,e,q⟩);(case map b=>obtain⟨a,e,q⟩:=E;exact Gives.pure h (v':=ρ x) (by simp[execOp,e]) ⟨a,e,q⟩);(case iface t u=>obtain⟨a,e,q⟩:=E;exact Gives.pure h (v':=ρ x) (by simp[execOp,e]) ⟨a,e,q⟩);(case agg l=>obtain⟨a,e,q⟩:=E;exact Gives.pure h (v':=ρ x) (by simp[execOp,e]) ⟨a,e,q⟩);(case tuple l=>obtain⟨a,e,q⟩:=E;exact Gives.pure h (v':=ρ x) (by simp[execOp,e]) ⟨a,e,q⟩);all_goals have e:ρ x=_:=E;exact Gives.pure h (v':=ρ x) (by simp[execOp,e]) e};{cases F}
def VY{op:BinOp}{k F:IntKind}{a b:Int}{r:IV}(q:qO op (.int k a) (.int F b)=some r)(t:TypeId):∃I:Value,(binOp op t (.int k a) (.int F b)).run P w=.ok I w/\∀μ:Mu,VR μ r I:=by cases op<;>simp only[qO] at q;(case shl=>by_cases E:b<0;{grind};{rw[if_neg E] at q;injection q with q;subst q;exact⟨_,by simp[binOp,Op.shift,E],λ_=>rfl⟩});(case shr=>by_cases E:b<0;{grind};{rw[if_neg E] at q;injection q with q;subst q;exact⟨_,by simp[binOp,Op.shift,E],λ_=>rfl⟩});all_goals by_cases O:k=F;{subst O;simp only[if_true] at q;first|(injection q with q;subst q;exact⟨_,by simp[binOp,Op.intArith,Op.intBits,Op.intCmp]<;>rfl,λ_=>rfl⟩)|(by_cases E:b=0;{grind};{rw[if_neg E] at q;injection q with q;subst q;exact⟨_,by simp[binOp,Op.intDiv,E]<;>rfl,λ_=>rfl⟩})};{grind}
def JD{s:ByteArray}{l:List UInt8}(h:s.data.toList=l):s=⟨⟨l⟩⟩:=by subst h;rfl
def OL(l:List UInt8):(ByteArray.mk (Array.mk l)).toList=l:=by rw[ByteArray.toList_eq]
def VX{op:BinOp}{a b:List UInt8}{r:IV}(q:qO op (.str a) (.str b)=some r)(t:TypeId):∃E:Value,(binOp op t (.string ⟨⟨a⟩⟩) (.string ⟨⟨b⟩⟩)).run P w=.ok E w/\∀μ:Mu,VR μ r E:=by cases op<;>simp only[qO,reduceCtorEq] at q;(case add=>split at q;{rename_i T;injection q with q;subst q;refine⟨.string (⟨⟨a⟩⟩++⟨⟨b⟩⟩),?_,λ_=>?_⟩;{have Q:¬((((ByteArray.mk ⟨a⟩).size+(ByteArray.mk ⟨b⟩).size:Nat):Int)>IntKind.i64.max):=by{have F:(ByteArray.mk ⟨a⟩).size=a.length:=rfl;have I:(ByteArray.mk ⟨b⟩).size=b.length:=rfl;have O:IntKind.i64.max=9223372036854775807:=rfl;rw[F,I,O];omega};simp_all[binOp,Op.stringOp,if_neg]};{show Value.string _=Value.string _;exact congrArg Value.string (JD (by simp))}};{cases q});all_goals injection q with q;subst q;exact⟨_,by simp[binOp,Op.stringOp,OL]<;>rfl,λ_=>rfl⟩
def jv{op:BinOp}{t:TypeId}{x y:Operand}{a b:Value}(q:∀cs,a≠.agg cs)(E:a≠.nilIface):(eqGuard op t x y a b).run P w=.ok () w:=by simp_all[eqGuard]
def Tm(h:Rel P g0 μ H.get H.n w){op:BinOp}{t t2:TypeId}{x y:Operand}(E:ev1 (.bin op) xs lo H=some (v,H'))(hx:VRs μ xs [ρ x,ρ y]):Gives P g0 lo μ H w (execOp ρ ⟨dst,.binOp op t x y t2,type,pos,after,guard⟩) v H':=by simp only[ev1] at E;split at E;{rename_i a b;obtain⟨y1,y2,U,Q,T⟩:=cv hx;simp only[il,and_true] at U;obtain⟨rfl,rfl⟩:=U;cases F:qO op a b with|none=>rw[F] at E;cases E|some r=>rw[F] at E;injection E with E;injection E with V Z;subst V Z;cases a with|int k n=>(cases b with|int k' m=>obtain⟨O,q,I⟩:=VY (P:=P) (w:=w) F t;refine Gives.pure h (v':=O) ?_ (I μ);simp only[execOp,i9 Q,i9 T];simp[jv,q]|_=>cases op<;>simp[qO] at F)|str s=>(cases b with|str s'=>obtain⟨O,q,I⟩:=VX (P:=P) (w:=w) F t;refine Gives.pure h (v':=O) ?_ (I μ);simp only[execOp,Oq Q,Oq T];simp[jv,q]|_=>cases op<;>simp[qO] at F)|_=>cases op<;>simp[qO] at F};{cases E}
def Tj(h:Rel P g0 μ H.get H.n w){op:BinOp}{neg:Bool}{t t2:TypeId}{x y:Operand}(Z:P.underlying t=some .bool)(I:op=.eql/\neg=false\/op=.neq/\neg=true)(E:ev1 (.eqBool neg) xs lo H=some (v,H'))(hx:VRs μ xs [ρ x,ρ y]):Gives P g0 lo μ H w (execOp ρ ⟨dst,.binOp op t x y t2,type,pos,after,guard⟩) v H':=by simp only[ev1] at E;split at E;{rename_i a b;injection E with E;injection E with U V;subst U V;obtain⟨y1,y2,T,O,Q⟩:=cv hx;simp only[il,and_true] at T;obtain⟨rfl,rfl⟩:=T;have F:∀d:Nat,(Op.equalIn (d+1) t (.bool a) (.bool b)).run P w=.ok (a==b) w:=λd=>by{simp[Op.equalIn,run_underlying Z]};have q:(Op.equal t (.bool a) (.bool b)).run P w=.ok (a==b) w:=F 9999;rcases I with⟨rfl,rfl⟩|⟨rfl,rfl⟩;{refine Gives.pure h (v':=.bool (a==b)) ?_ (by simp[VR]);simp only[execOp,mj O,mj Q];simp[jv,binOp,q]};{refine Gives.pure h (v':=.bool (!(a==b))) ?_ (by simp[VR]);simp only[execOp,mj O,mj Q];simp[jv,binOp,q]}};{cases E}
def ag0(h:Rel P g0 μ H.get H.n w){op:UnOp}{t:TypeId}{x:Operand}(q:ev1 (.un op) xs lo H=some (v,H'))(hx:VRs μ xs [ρ x]):Gives P g0 lo μ H w (execOp ρ ⟨dst,.unOp op t x,type,pos,after,guard⟩) v H':=by simp only[ev1] at q;split at q;{rename_i a;obtain⟨y,F,I⟩:=cw hx;injection F with F;subst F;cases E:unI op a with|none=>rw[E] at q;cases q|some r=>rw[E] at q;injection q with q;injection q with O Q;subst O Q;cases a with|int k n=>have e:=i9 I;cases op<;>simp[unI] at E<;>subst E;{exact Gives.pure h (by simp[execOp,e,Op.unary,Op.intArith]<;>rfl) rfl};{exact Gives.pure h (by simp[execOp,e,Op.unary,Op.intBits]<;>rfl) rfl}|bool b=>have e:=mj I;cases op<;>simp[unI] at E;subst E;exact Gives.pure h (by simp[execOp,e,Op.unary]<;>rfl) rfl|_=>simp[unI] at E};{cases q}
def aa9(h:Rel P g0 μ H.get H.n w){k k0:IntKind}{s d:TypeId}{x:Operand}(hs:P.underlying s=some (.int k0))(hd:P.underlying d=some (.int k))(q:ev1 (.conv k) xs lo H=some (v,H'))(hx:VRs μ xs [ρ x]):Gives P g0 lo μ H w (execOp ρ ⟨dst,.convert s d x,type,pos,after,guard⟩) v H':=by simp only[ev1] at q;split at q;{rename_i Q n;injection q with q;injection q with F I;subst F I;obtain⟨y,E,O⟩:=cw hx;injection E with E;subst E;exact Gives.pure h (by simp[execOp,i9 O,convert,run_underlying hs,run_underlying hd,Conv.intToInt]<;>rfl) rfl};{cases q}
def aa6(h:Rel P g0 μ H.get H.n w){f:FuncId}{q cap:Array Operand}(E:ev1 (.mkfn f q.size) xs lo H=some (v,H'))(hx:VRs μ xs ((q++cap).toList.map ρ)):Gives P g0 lo μ H w (execOp ρ ⟨dst,.makeFunc (.func f) q cap,type,pos,after,guard⟩) v H':=by simp only[ev1] at E;injection E with E;injection E with F I;subst F I;refine Gives.pure h (v':=.func (.func f) (q.map ρ) (cap.map ρ)) (by simp[execOp,Instr.makeFunc]) ⟨_,_,rfl,?_,?_⟩;{have:=hx.take q.size;simp_all[List.take,List.map_take,List.take_append]};{have:=hx.drop q.size;simp_all[List.drop,List.drop_append]}
def O9(h:Rel P g0 μ H.get H.n w){i:Nat}{x:Operand}(q:ev1 (.extract i) xs lo H=some (v,H'))(hx:VRs μ xs [ρ x]):Gives P g0 lo μ H w (execOp ρ ⟨dst,.extract x i,type,pos,after,guard⟩) v H':=by simp only[ev1] at q;split at q;{rename_i l;cases E:l[i]? with|none=>rw[E] at q;cases q|some r=>rw[E] at q;injection q with q;injection q with Q T;subst Q T;obtain⟨y,O,Z⟩:=cw hx;injection O with O;subst O;obtain⟨l',e,U⟩:=Z;obtain⟨u,V,I⟩:=U.get E;have F:l'[i]? =some u:=by{simpa using V};exact Gives.pure h (v':=u) (by simp[execOp,e,Instr.extract,F]) I};{cases q}
end
section
variable {P:Program}{g0 lo:Nat}{μ:Mu}{H:Heap}{w:World}{ρ:Operand->Value}{type:TypeId}{pos:String}{dst:Option Tmp}{after:Array Edge}{guard:Option (Nat×Bool)}{xs:List IV}{v:IV}{H':Heap}
def wR{t:TypeId}{n:Option Nat}(h:xZ P t=some n):(n=none/\(∀w:World,(isAgg t).run P w=.ok false w))\/(∃k,n=some k/\bi P t=some k/\(∀w:World,(isAgg t).run P w=.ok true w)):=by unfold xZ at h;cases q:P.underlying t with|none=>simp[q] at h|some d=>cases hs:bi P t with|none=>cases d<;>simp[q,hs] at h|some k=>cases d<;>simp[q,hs] at h<;>subst h<;> first|exact .inl ⟨rfl,λw=>by simp[isAgg,run_underlying q]⟩|exact .inr ⟨k,rfl,rfl,λw=>by simp[isAgg,run_underlying q]⟩
def K3{t:TypeId}{n:Option Nat}(U:xZ P t=some n){cs:List IV}{F:Array Value}(Q:VRs μ cs F.toList){off:Nat}{r:IV}(I:off+n.getD 1<=cs.length)(E:aj n ((cs.drop off).take (n.getD 1))=some r):∃T:Value,(part t F off).run P w=.ok T w/\VR μ r T:=by rcases wR U with⟨rfl,q⟩|⟨k,rfl,hs,q⟩;{simp only[EV] at E I;have O:off<cs.length:=Om;have e:(cs.drop off).take 1=[cs[off]]:=by{rw[fU O];rfl};rw[e] at E;injection E with E;subst E;obtain⟨y,Z,V⟩:=Q.get (i:=off) (x:=cs[off]) (ct O);simp_all[part]};{injection E with E;subst E;refine⟨.agg (F.extract off (off+k)),by simp[part,q,bO hs],_,rfl,?_⟩;have:=(Q.drop off).take k;simp_all[E4]}
def FB{t:TypeId}{i:Nat}{f:Field}(h:uO P t i=some f):∃fs:Array Field,P.underlying t=some (.struct fs)/\fs[i]? =some f:=by grind[uO]
theorem yL(c p n:Nat):(⟨c,p,none⟩:Addr).add n=⟨c,p+n,none⟩:=by grind[Addr.add]
def LocR.add{b o n:Nat}{a:Addr}(h:LocR μ b o a):LocR μ b (o+n) (a.add n):=by grind[LocR,yL,Nat.add_assoc]
def Hk(h:Rel P g0 μ H.get H.n w){t:TypeId}{x:Operand}{i:Nat}{f:Field}{n:Nat}(O:uO P t i=some f)(hs:bi P f.type=some n)(hn:n≠0)(q:ev1 (.fieldAddr f.offset) xs lo H=some (v,H'))(hx:VRs μ xs [ρ x]):Gives P g0 lo μ H w (execOp ρ ⟨dst,.fieldAddr t x i,type,pos,after,guard⟩) v H':=by obtain⟨fs,T,hi⟩:=FB O;simp only[ev1] at q;split at q;{rename_i b o;injection q with q;injection q with F I;subst F I;obtain⟨y,E,a,e,Q⟩:=cw hx;injection E with E;subst E;exact Gives.pure h (v':=.pointer (some (a.add f.offset))) (by simp_all[execOp,Instr.fieldAt,run_underlying,Instr.sureAddr,fieldPlace,bO]) ⟨_,rfl,Q.add⟩};{cases q}
def SlR.loc{b o cap:Nat}{ex:Bool}{a:Addr}(h:SlR μ b o ex cap a)(q:cap≠0):LocR μ b o a:=by grind[SlR,LocR]
def Xf(h:Rel P g0 μ H.get H.n w){t e:TypeId}{x i:Operand}{n:Nat}(Z:P.underlying t=some (.slice e))(hs:bi P e=some n)(q:ev1 (.idxSl n) xs lo H=some (v,H'))(hx:VRs μ xs [ρ x,ρ i]):Gives P g0 lo μ H w (execOp ρ ⟨dst,.indexAddr t x i,type,pos,after,guard⟩) v H':=by simp only[ev1] at q;split at q;{rename_i b o len lb ex k j;split at q;{rename_i U;injection q with q;injection q with F O;subst F O;obtain⟨y1,y2,I,⟨a,cap,F,T,V⟩,Q⟩:=cv hx;simp only[il,and_true] at I;obtain⟨rfl,rfl⟩:=I;have E:cap≠0:=by{obtain⟨c1,c2,_⟩:=T;omega};exact Gives.pure h (v':=.pointer (some (a.add (j.toNat*n)))) (by simp[execOp,Instr.indexAt,i9 Q,asIntOf,run_underlying Z,F,U,bO hs]) ⟨_,rfl,(V.loc E).add⟩};{cases q}};{cases q}
def EC(h:Rel P g0 μ H.get H.n w){t e:TypeId}{x i:Operand}{len n:Nat}(U:P.underlying t=some (.array len e))(hs:bi P e=some n)(q:ev1 (.idxArrAddr len n) xs lo H=some (v,H'))(hx:VRs μ xs [ρ x,ρ i]):Gives P g0 lo μ H w (execOp ρ ⟨dst,.indexAddr t x i,type,pos,after,guard⟩) v H':=by simp only[ev1] at q;split at q;{rename_i b o k j;split at q;{rename_i Q;injection q with q;injection q with E I;subst E I;obtain⟨V,Z,F,⟨a,E,T⟩,O⟩:=cv hx;simp only[il,and_true] at F;obtain⟨rfl,rfl⟩:=F;exact Gives.pure h (v':=.pointer (some (a.add (j.toNat*n)))) (by simp[execOp,Instr.indexAt,i9 O,asIntOf,run_underlying U,E,Instr.sureAddr,Q,bO hs]) ⟨_,rfl,T.add⟩};{cases q}};{cases q}
def Ti(h:Rel P g0 μ H.get H.n w){t e:TypeId}{x i:Operand}{len k:Nat}{n:Option Nat}(hu:P.underlying t=some (.array len e))(hs:bi P e=some k)(ha:xZ P e=some n)(q:ev1 (.idxArr len k n) xs lo H=some (v,H'))(hx:VRs μ xs [ρ x,ρ i]):Gives P g0 lo μ H w (execOp ρ ⟨dst,.index t x i,type,pos,after,guard⟩) v H':=by simp only[ev1] at q;split at q;{rename_i cs kd j;split at q;{rename_i hj;obtain⟨O,Q,E⟩:=hj;cases T:aj n ((cs.drop (j.toNat*k)).take (n.getD 1)) with|none=>rw[T] at q;cases q|some r=>rw[T] at q;injection q with q;injection q with I V;subst I V;obtain⟨y1,y2,U,⟨l',I,hl⟩,Z⟩:=cv hx;simp only[il,and_true] at U;obtain⟨rfl,rfl⟩:=U;obtain⟨r',F,hv⟩:=K3 (P:=P) (w:=w) ha hl E T;exact Gives.pure h (v':=r') (by simp[execOp,Instr.index,i9 Z,asIntOf,run_underlying hu,I,O,Q,bO hs,F]) hv};{cases q}};{cases q}
def Xe(h:Rel P g0 μ H.get H.n w){t e:TypeId}{args:Array Operand}{ts:Array TypeId}(O:ts=#[t])(Q:P.underlying t=some (.slice e))(E:ev1 .lenSl xs lo H=some (v,H'))(hx:VRs μ xs (args.toList.map ρ)):Gives P g0 lo μ H w (execOp ρ ⟨dst,.call ⟨.builtin .len,args,ts⟩,type,pos,after,guard⟩) v H':=by simp only[ev1] at E;split at E;{rename_i x;obtain⟨y,U,T⟩:=cw hx;have q:args.map ρ=#[y]:=by{grind};subst O;cases x with|ns=>injection E with E;injection E with F I;subst F I;cases T;exact Gives.pure h (v':=.int .i64 0) (by simp[execOp,resolve,invoke,builtin,q,Builtin.len_,run_underlying Q,goInt]) rfl|slice b o n lb ex=>injection E with E;injection E with F I;subst F I;obtain⟨a,c,rfl,_⟩:=T;exact Gives.pure h (v':=.int .i64 n) (by simp[execOp,resolve,invoke,builtin,q,Builtin.len_,run_underlying Q,goInt]) rfl|_=>simp at E};{cases E}
def aes(h:Rel P g0 μ H.get H.n w){t e:TypeId}{args:Array Operand}{ts:Array TypeId}(O:ts=#[t])(Q:P.underlying t=some (.slice e))(E:ev1 .cap xs lo H=some (v,H'))(hx:VRs μ xs (args.toList.map ρ)):Gives P g0 lo μ H w (execOp ρ ⟨dst,.call ⟨.builtin .cap,args,ts⟩,type,pos,after,guard⟩) v H':=by simp only[ev1] at E;split at E;{rename_i x;obtain⟨y,V,T⟩:=cw hx;have q:args.map ρ=#[y]:=by{grind};subst O;cases x with|ns=>injection E with E;injection E with F I;subst F I;cases T;exact Gives.pure h (v':=.int .i64 0) (by simp[execOp,resolve,invoke,builtin,q,Builtin.cap_,run_underlying Q,goInt]) rfl|slice b o n lb ex=>(cases ex with|false=>simp at E|true=>injection E with E;injection E with F I;subst F I;obtain⟨a,c,rfl,U,_⟩:=T;have:c=lb:=U.2.2.2 rfl;subst this;exact Gives.pure h (v':=.int .i64 c) (by simp[execOp,resolve,invoke,builtin,q,Builtin.cap_,run_underlying Q,goInt]) rfl)|_=>simp at E};{cases E}
def aeq(h:Rel P g0 μ H.get H.n w){args:Array Operand}{ts:Array TypeId}(q:ev1 .min xs lo H=some (v,H'))(hx:VRs μ xs (args.toList.map ρ)):Gives P g0 lo μ H w (execOp ρ ⟨dst,.call ⟨.builtin .min,args,ts⟩,type,pos,after,guard⟩) v H':=by simp only[ev1] at q;split at q;{rename_i k a T b;split at q;{injection q with q;injection q with F I;subst F I;obtain⟨V,Z,U,O,Q⟩:=cv hx;cases O;cases Q;have E:args.map ρ=#[.int k a,.int T b]:=by{grind};exact Gives.pure h (v':=.int k (if b<a then b else a)) (by simp[execOp,resolve,invoke,builtin,E,Builtin.min_,Builtin.min2]) rfl};{cases q}};{cases q}
def aer(h:Rel P g0 μ H.get H.n w){args:Array Operand}{ts:Array TypeId}(q:ev1 .max xs lo H=some (v,H'))(hx:VRs μ xs (args.toList.map ρ)):Gives P g0 lo μ H w (execOp ρ ⟨dst,.call ⟨.builtin .max,args,ts⟩,type,pos,after,guard⟩) v H':=by simp only[ev1] at q;split at q;{rename_i k a T b;split at q;{injection q with q;injection q with F I;subst F I;obtain⟨V,Z,U,O,Q⟩:=cv hx;cases O;cases Q;have E:args.map ρ=#[.int k a,.int T b]:=by{grind};exact Gives.pure h (v':=.int k (if b>a then b else a)) (by simp[execOp,resolve,invoke,builtin,E,Builtin.max_,Builtin.max2]) rfl};{cases q}};{cases q}
def eP{y i:Nat}{x:IV}{u:Value}(h:bP y x=some i)(E:VR μ x u)(c:BoundsCode)(q:Nat)(I:y<=q)(w:World):(Instr.sliceBound u q c).run P w=.ok i w/\i<=y:=by cases x with|int k n=>cases E;simp only[bP] at h;split at h;{rename_i hn;injection h with h;subst h;have F:0<=n/\n<=(q:Int):=Om;simp_all[Instr.sliceBound,asIntOf]};{cases h}|_=>simp[bP] at h
def BC{isSl:Bool}{len top cap:Nat}{l:List IV}{a b:Nat}{m:Option Nat}{Z hi mx:Option Operand}(E:aX len top Z.isSome hi.isSome mx.isSome l=some (a,b,m))(ad:len<=top)(hc:top<=cap)(hv:VRs μ l ((Z.toArray++hi.toArray++mx.toArray).toList.map ρ))(w:World):(Instr.sliceBounds isSl len cap (Z.map ρ) (hi.map ρ) (mx.map ρ)).run P w=.ok (a,b,m.getD cap) w/\a<=b/\b<=m.getD top/\(∀k,m=some k->k<=top):=by cases Z with|none=>(cases hi with|none=>(cases mx with|none=>(match l,E with|[],E=>injection E with E;simp only[kc] at E;obtain⟨rfl,rfl,rfl⟩:=E;exact⟨by simp[Instr.sliceBounds],Om,by simpa using ad,λ_ h=>by cases h⟩)|some z=>simp[aX] at E)|some y=>cases mx with|none=>(match l,E with|[x1],E=>obtain⟨u,Q,I⟩:=cw hv;simp at Q;subst Q;simp only[aX,vY,Ae] at E;cases F:bP top x1 with|none=>rw[F] at E;cases E|some i=>rw[F] at E;injection E with E;simp only[kc] at E;obtain⟨rfl,rfl,rfl⟩:=E;have V:=eP (P:=P) F I;exact⟨by simp_all[Instr.sliceBounds],Om,by simpa using (V .index cap hc w).2,λ_ h=>by cases h⟩)|some z=>match l,E with|[x1,x2],E=>obtain⟨u,u2,Q,I,O⟩:=cv hv;simp at Q;obtain⟨rfl,rfl⟩:=Q;simp only[aX,vY,Ae] at E;cases T:bP top x2 with|none=>rw[T] at E;cases E|some j=>rw[T] at E;simp only[bN] at E;cases F:bP j x1 with|none=>rw[F] at E;cases E|some i=>rw[F] at E;injection E with E;simp only[kc] at E;obtain⟨rfl,rfl,rfl⟩:=E;have V:=eP (P:=P) F I;have U:=eP (P:=P) T O;exact⟨by simp_all[Instr.sliceBounds,ao],Om,by simpa using (V .index j (ao _) w).2,λk h=>by injection h with h;subst h;exact(U .index cap hc w).2⟩)|some q=>cases hi with|none=>(cases mx with|none=>(match l,E with|[x1],E=>obtain⟨u,Q,I⟩:=cw hv;simp at Q;subst Q;simp only[aX,vY,Ae] at E;cases F:bP len x1 with|none=>rw[F] at E;cases E|some i=>rw[F] at E;injection E with E;simp only[kc] at E;obtain⟨rfl,rfl,rfl⟩:=E;have V:=eP (P:=P) F I;exact⟨by simp_all[Instr.sliceBounds,ao],by simpa using (V .index len (ao _) w).2,by simpa using ad,λ_ h=>by cases h⟩)|some z=>simp[aX] at E)|some y=>cases mx with|none=>(match l,E with|[x1,x2],E=>obtain⟨u,u2,Q,I,O⟩:=cv hv;simp at Q;obtain⟨rfl,rfl⟩:=Q;simp only[aX,vY,Ae] at E;cases T:bP top x2 with|none=>rw[T] at E;cases E|some j=>rw[T] at E;simp only[bN] at E;cases F:bP j x1 with|none=>rw[F] at E;cases E|some i=>rw[F] at E;injection E with E;simp only[kc] at E;obtain⟨rfl,rfl,rfl⟩:=E;have V:=eP (P:=P) F I;have U:=eP (P:=P) T O;exact⟨by simp_all[Instr.sliceBounds,ao],(V .index j (ao _) w).2,by simpa using (U .index cap hc w).2,λ_ h=>by cases h⟩)|some z=>match l,E with|[x1,x2,x3],E=>obtain⟨u,u2,u3,Q,I,O,ag⟩:=pq hv;simp at Q;obtain⟨rfl,rfl,rfl⟩:=Q;simp only[aX,vY,Ae] at E;cases h3:bP top x3 with|none=>rw[h3] at E;cases E|some k=>rw[h3] at E;simp only[bN] at E;cases T:bP k x2 with|none=>rw[T] at E;cases E|some j=>rw[T] at E;simp only[bN] at E;cases F:bP j x1 with|none=>rw[F] at E;cases E|some i=>rw[F] at E;injection E with E;simp only[kc] at E;obtain⟨rfl,rfl,rfl⟩:=E;have V:=eP (P:=P) F I;have U:=eP (P:=P) T O;have an:=eP (P:=P) h3 ag;exact⟨by simp_all[Instr.sliceBounds,ao],(V .index j (ao _) w).2,by simpa using (U .index k (ao _) w).2,λk' h=>by injection h with h;subst h;exact(an .index cap hc w).2⟩
end
section
variable {P:Program}{g0 lo:Nat}{μ:Mu}{H:Heap}{w:World}{ρ:Operand->Value}{type:TypeId}{pos:String}{dst:Option Tmp}{after:Array Edge}{guard:Option (Nat×Bool)}{xs:List IV}{v:IV}{H':Heap}
def BU(t:TypeId)(x:Operand)(a b c:Option Operand):(Op.slice t x a b c).operands.toList.map ρ=ρ x::((a.toArray++b.toArray++c.toArray).toList.map ρ):=by simp[Op.operands]
def Qn(h:Rel P g0 μ H.get H.n w){b c p ez z size:Nat}(q:kG H b size=true)(I:μ b=.at c p ez z):ez=0\/ez=size:=by unfold kG at q;obtain⟨o,O,E⟩:=h.obj b c p ez z I;rw[O] at q;cases o with|cells Q e F cs=>cases Q;{simp at q;right;rw[E.2.1,q]};{left;exact E.1}|_=>simp at q
def aep(h:Rel P g0 μ H.get H.n w){t e:TypeId}{x:Operand}{a b c:Option Operand}{n:Nat}(hu:P.underlying t=some (.slice e))(hs:bi P e=some n)(E:ev1 (.slc n a.isSome b.isSome c.isSome) xs lo H=some (v,H'))(hx:VRs μ xs ((Op.slice t x a b c).operands.toList.map ρ)):Gives P g0 lo μ H w (execOp ρ ⟨dst,.slice t x a b c,type,pos,after,guard⟩) v H':=by rw[BU] at hx;simp only[ev1] at E;split at E;{rename_i s l;obtain⟨y,ys,hy,hv,hl⟩:=hx;simp only[il] at hy;obtain⟨rfl,rfl⟩:=hy;cases s with|ns=>(simp only at E;cases hb:aX 0 0 a.isSome b.isSome c.isSome l with|none=>rw[hb] at E;cases E|some r=>obtain⟨i,j,m⟩:=r;rw[hb] at E;simp only[bN] at E;split at E;{rename_i a0;obtain⟨rfl,rfl⟩:=a0;injection E with E;injection E with Z U;subst Z U;obtain⟨O,_,_,hm⟩:=BC (P:=P) (isSl:=true) hb (ao _) (ao 0) hl w;have a3:m.getD 0=0:=by{cases m with|none=>rfl|some k=>have:=hm k rfl;simp;omega};rw[a3] at O;have a6:ρ x=.slice none 0 0:=hv;exact Gives.pure h (v':=.slice none 0 0) (by simp[execOp,Instr.sliceAt,run_underlying hu,Instr.slice,a6,O,bO hs]) rfl};{cases E})|slice bl o len lb ex=>simp only at E;split at E;{rename_i aS;cases hb:aX len lb a.isSome b.isSome c.isSome l with|none=>rw[hb] at E;cases E|some r=>obtain⟨i,j,m⟩:=r;rw[hb] at E;obtain⟨ad,cap,a1,⟨c1,c2,c3,c4⟩,I⟩:=hv;obtain⟨O,a0,Q,hm⟩:=BC (P:=P) (isSl:=true) hb c1 c2 hl w;have F:(execOp ρ ⟨dst,.slice t x a b c,type,pos,after,guard⟩).run P w=.ok (.value (.slice (some (if m.getD cap=i then ad else ad.add (i*n))) (j - i) (m.getD cap - i))) w:=by{simp only[execOp];simp[Instr.sliceAt,run_underlying hu,Instr.slice,a1,O,bO hs];split<;>rfl};have T:∀ex':Bool,(ex'=false->ex=false/\m=none)->SlR μ bl (o+i*n) ex' (m.getD cap - i) (if m.getD cap=i then ad else ad.add (i*n)):=by{intro ex' ay;unfold SlR at I⊢;cases ag:μ bl with|no=>rw[ag] at I;exact I|dead=>trivial|«at» q p ez z=>rw[ag] at I;simp only at I⊢;refine⟨?_,λZ U=>?_⟩;{by_cases a4:m.getD cap=i;{left;omega};{right;rw[if_neg a4];have a9:m.getD cap<=cap:=by{cases m with|none=>exact ao _|some k=>have:=hm k rfl;simp;omega};have a2:i<=m.getD cap:=by{cases m with|none=>simp at Q⊢;omega|some k=>simp at Q⊢;omega};have an:cap≠0:=Om;rw[I.1.resolve_left an,yL,gv]}};{obtain⟨aE,a5⟩:=ay Z;subst aE a5;simp only[oH] at aS;rcases Qn h aS ag with h0|h0;{exact absurd h0 U};{subst h0;have:=I.2 rfl U;simp only[EV] at Q⊢;have a2:i<=cap:=Om;have:(cap - i)*ez+i*ez=cap*ez:=by{rw[<-oC];congr 1;omega};omega}}};cases m with|none=>simp only[dC] at E;injection E with E;injection E with Z U;subst Z U;have V:=T ex λe=>⟨e,rfl⟩;simp only[EV] at F V Q;exact Gives.pure h F ⟨_,_,rfl,⟨Om,Om,Om,λe=>by have:=c4 e;omega⟩,V⟩|some k=>simp only[dC] at E;injection E with E;injection E with Z U;subst Z U;simp only[ew] at F T Q;have:=hm k rfl;exact Gives.pure h F ⟨_,_,rfl,⟨Om,ao _,Om,λ_=>rfl⟩,T true λe=>by cases e⟩};{cases E}|_=>simp at E};{cases E}
end
section
variable {P:Program}{g0 lo:Nat}{μ:Mu}{H:Heap}{w:World}{ρ:Operand->Value}{type:TypeId}{pos:String}{dst:Option Tmp}{after:Array Edge}{guard:Option (Nat×Bool)}{xs:List IV}{v:IV}{H':Heap}
theorem dx:∀(cs:List IV)(o:Nat)(vs:List IV),o+vs.length<=cs.length->aD cs o vs=cs.take o++vs++cs.drop (o+vs.length)|[],o,vs,h=>by have q:o=0:=by{rw[cZ] at h;omega};have E:vs=[]:=by{rw[cZ] at h;exact List.length_eq_zero_iff.1 Om};subst q E;rfl|c::cs,0,[],_=>by simp[aD]|c::cs,0,v::vs,h=>by simp only[aD];rw[dx cs 0 vs (by simp at h;omega)];simp|c::cs,o+1,vs,h=>by simp only[aD];rw[dx cs o vs (by simp at h;omega)];simp[Nat.add_right_comm]
theorem sk(cs:List IV)(o:Nat)(vs:List IV)(h:o+vs.length<=cs.length):(aD cs o vs).length=cs.length:=by grind[dx]
def IT(off:Nat):∀(vs:List Value)(k:Nat)(cells:Array Value),off+k+vs.length<=cells.size->((vs.zipIdx k).foldl (λcs x=>cs.setIfInBounds (off+x.2) x.1) cells).toList=cells.toList.take (off+k)++vs++cells.toList.drop (off+k+vs.length)|[],k,cells,_=>by simp|v::vs,k,cells,h=>by simp only[List.zipIdx_cons,ik];rw[IT off vs (k+1) _ (by simp at h⊢;omega)];have e:=list_seg_step cells.toList (off+k) v vs (by simp at h⊢;omega);simpa [xo,gv] using e
def qz(place:Nat->Option (Nat×Nat)):∀(parts:List (Nat×Operand))(F:List (Nat×Nat))(xs cs r:List IV)(q:Array Value),parts.mapM (λp=>place p.1)=some F->VRs μ xs (parts.map λp=>ρ p.2)->VRs μ cs q.toList->dO F xs cs=some r->∃r':Array Value,Instr.fill place q (parts.map λp=>(p.1,ρ p.2))=some r'/\VRs μ r r'.toList:=by intro parts;induction parts with|nil=>(intro F xs cs r q I hx T O;simp at I;subst I;cases xs with|nil=>simp[dO] at O;subst O;exact⟨q,rfl,T⟩|cons=>simp[dO] at O)|cons p parts ih=>intro F xs cs r q I hx T O;simp only[sK] at I;cases hp:place p.1 with|none=>rw[hp] at I;cases I|some pl=>obtain⟨off,size⟩:=pl;rw[hp] at I;cases Z:parts.mapM (λp=>place p.1) with|none=>rw[Z] at I;cases I|some Q=>rw[Z] at I;injection I with I;subst I;cases xs with|nil=>simp[dO] at O|cons x xs=>obtain⟨y,ys,hy,hv,ad⟩:=hx;simp only[aO,il] at hy;obtain⟨rfl,rfl⟩:=hy;simp only[dO] at O;split at O;{rename_i ay;have E:=hv.cells_;have hl:=E.length;have V:x.cells.length=(ρ p.2).cells.size:=by{simpa using hl};have ag:cs.length=q.size:=by{simpa using T.length};have U:VRs μ (aD cs off x.cells) ((ρ p.2).cells.zipIdx.foldl (λcs x=>cs.setIfInBounds (off+x.2) x.1) q).toList:=by{rw[<-Array.foldl_toList,Array.toList_zipIdx,IT off _ 0 q (by simp;omega),dx cs off x.cells Om];simp only[mB];rw[show off+(ρ p.2).cells.toList.length=off+x.cells.length by simp[V]];exact((T.take off).append E).append (T.drop _)};obtain⟨r',an,aE⟩:=ih Q xs _ r _ Z ad U O;simp_all[aO,Instr.fill,if_neg]};{cases O}
def Iq{α q:Type}(F:α->Sem q)(G:α->q)(w:World):∀l:List α,(∀f∈l,(F f).run P w=.ok (G f) w)->(l.mapM F).run P w=.ok (l.map G) w|[],_=>by simp|f::l,h=>by have E:=h f (by simp);have I:=Iq F G w l λg O=>h g (by simp[O]);simp[E,I]
def K2{fs:Array Field}(hall:(fs.all fun f=>(bi P f.type).isSome)=true)(F:Field→Sem (Nat×Nat))(hF:∀f,F f=(do pure (f.offset,←sizeOf f.type)))(w:World):
  (fs.mapM F).run P w=.ok (fs.map fun f=>(f.offset,(bi P f.type).getD 0)) w:=by
 rw[Array.mapM_eq_mapM_toList]
 have hk:=Iq (P:=P) F (fun f=>(f.offset,(bi P f.type).getD 0)) w fs.toList (fun f hf=>by
  rw[Array.all_eq_true_iff_forall_mem] at hall;have h1:=hall f (by simpa using hf)
  cases hs:bi P f.type with
  | none=>rw[hs] at h1;cases h1
  | some n=>rw[hF];simp[bO hs])
 simp[hk];apply sH;simp
def Xh(h:Rel P g0 μ H.get H.n w){t:TypeId}{Q:Array (Nat×Operand)}{kd:Kd}(q:dg P (.build t Q)=some kd)(F:ev1 kd xs lo H=some (v,H'))(hx:VRs μ xs ((Op.build t Q).operands.toList.map ρ)):Gives P g0 lo μ H w (execOp ρ ⟨dst,.build t Q,type,pos,after,guard⟩) v H':=by have an:(Op.build t Q).operands.toList.map ρ=Q.toList.map λp=>ρ p.2:=by{simp[Op.operands]};rw[an] at hx;simp only[dg] at q;cases hu:P.underlying t with|none=>rw[hu] at q;cases q|some d=>rw[hu] at q;cases d with|struct fs=>simp only at q;split at q;{rename_i ag;cases U:sT (λi=>(fs[i]?).bind λf=>(bi P f.type).map λn=>(f.offset,n)) Q with|none=>rw[U] at q;cases q|some E=>rw[U] at q;cases Z:iH P t with|none=>simp[Z] at q|some z=>simp[Z] at q;subst q;simp only[ev1] at F;cases T:dO E xs z.cells with|none=>rw[T] at F;cases F|some cs=>rw[T] at F;injection F with F;injection F with e1 e2;subst e1 e2;obtain⟨i,zv,hi,ad,V⟩:=jo Z;obtain⟨r',O,hv⟩:=qz (ρ:=ρ) (μ:=μ) (λi=>(fs[i]?).bind λf=>(bi P f.type).map λn=>(f.offset,n)) Q.toList E xs z.cells cs zv.cells U hx (V μ).cells_ T;have I:(λi:Nat=>(fs[i]?).bind λf=>(bi P f.type).map λn=>(f.offset,n))=λi:Nat=>Option.map (λf:Field=>(f.offset,(bi P f.type).getD 0)) fs[i]?:=by{funext i;cases aE:fs[i]? with|none=>rfl|some f=>have:(bi P f.type).isSome=true:=by{grind};cases hs:bi P f.type with|none=>rw[hs] at this;cases this|some n=>simp[hs]};rw[I] at O;refine Gives.pure h (v':=.agg r') ?_ ⟨r',rfl,hv⟩;have ay:=K2 ag (λf=>Prod.mk f.offset <$>sizeOf f.type) (λf=>by simp) w;simp only[execOp,Instr.build];simp[zeroValue,typeInfo,hi,ad,run_underlying hu,ay,O]};{cases q}|array k e=>(simp only at q;cases hs:bi P e with|none=>rw[hs] at q;cases q|some n=>rw[hs] at q;simp only[bN] at q;cases U:sT (λi=>some (i*n,n)) Q with|none=>rw[U] at q;cases q|some E=>rw[U] at q;cases Z:iH P t with|none=>simp[Z] at q|some z=>simp[Z] at q;subst q;simp only[ev1] at F;cases T:dO E xs z.cells with|none=>rw[T] at F;cases F|some cs=>rw[T] at F;injection F with F;injection F with e1 e2;subst e1 e2;obtain⟨i,zv,hi,ad,V⟩:=jo Z;obtain⟨r',O,hv⟩:=qz (ρ:=ρ) (μ:=μ) (λi=>some (i*n,n)) Q.toList E xs z.cells cs zv.cells U hx (V μ).cells_ T;refine Gives.pure h (v':=.agg r') ?_ ⟨r',rfl,hv⟩;simp only[execOp,Instr.build];simp[zeroValue,typeInfo,hi,ad,run_underlying hu,bO hs,O])|_=>simp at q
def ace{E:Bool}{e ez:Nat}{cs:List IV}{q:Array Value}(F:VRs μ cs q.toList)(O:E=false):ObjR P μ (.cells E e ez cs) 0 ez q.size (some (.cells q e (0,0))):=by subst O;have I:=F.length;refine⟨rfl,rfl,q,rfl,rfl,by simp at I;omega,?_⟩;grind
def rF(h:Rel P g0 μ H.get H.n w){e ez:Nat}{cs:List IV}{q:Array Value}(U:VRs μ cs q.toList){w':World}(V:w'.heap=w.heap.push (.cells q e (0,0)))(I:w'.os=w.os)(O:w'.tape=w.tape)(Q:w'.output=w.output)(T:w.drawn<=w'.drawn:=by first|exact ao _|exact oD _|assumption|(simp;done)|omega):∃E:Mu,μ.le E/\E H.n=.at w.heap.size 0 ez q.size/\Rel P g0 E (H.new (.cells false e ez cs)).get (H.new (.cells false e ez cs)).n w'/\ Post lo μ H.get H.n w E (H.new (.cells false e ez cs)).get (H.new (.cells false e ez cs)).n w':=by have F:=μ.le_upd (.at w.heap.size 0 ez q.size) h.fresh;obtain⟨a,b⟩:=h.alloc (lo:=lo) (o:=.cells false e ez cs) (ez:=ez) (z:=q.size) V (ace (VRs.mono F _ _ U) rfl) I O Q T;grind[aI]
def ND{q:Mu}{c ez z n:Nat}(h:q n=.at c 0 ez z):VR q (.ptr n 0) (.pointer (some ⟨c,0,none⟩)):=⟨_,rfl,by unfold LocR;rw[h]⟩
def Xi(h:Rel P g0 μ H.get H.n w){e n:Nat}{z:IV}(V:iH P e=some z)(q:ev1 (.alloc e n z.cells) xs lo H=some (v,H')):Gives P g0 lo μ H w (execOp ρ ⟨dst,.alloc e,type,pos,after,guard⟩) v H':=by simp only[ev1] at q;split at q;{injection q with q;injection q with I O;subst I O;obtain⟨i,zv,hi,Z,E⟩:=jo V;obtain⟨F,Q,hn,U,T⟩:=rF (lo:=lo) (e:=e) (ez:=n) h (E μ).cells_ (w':={w with heap:=w.heap.push (.cells zv.cells e (0,0))}) rfl rfl rfl rfl;exact⟨_,_,_,F,by simp_all[execOp,Instr.alloc,zeroValue,typeInfo,newVar,newRow,newObj,Sem.run],.inl rfl,U,T,ND hn⟩};{cases q}
end
end Go.Iso
