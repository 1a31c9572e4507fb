/-
  values, heaps, the evaluator of isolated heaps, and its first operations: each run of the evaluator stands for a run of the model.
-/
import Derived.Orders
import Derived.Laws.CopyRow
import Derived.Laws.AppendOwn
import Derived.Deep.AppendSrc
import Derived.Laws.MakeOwn
import Derived.ChangeKeysEq
import Derived.Laws.Strings
import Derived.Lib.SmallJoins
import Derived.Lib.Split
set_option linter.unusedSimpArgs false
set_option linter.unusedVariables false
set_option linter.defProp false
namespace Go.Iso
def CB{A B C D E F:Sort _}{a:A}{b:B}{c:C}{d:D}{e:E}{f:F}:a=a/\b=b/\c=c/\d=d/\e=e/\f=f:=⟨rfl,rfl,rfl,rfl,rfl,rfl⟩
abbrev ao:=@Nat.le_refl
abbrev an:=@And.intro
abbrev aM:=@List.getElem_mem.{0}
abbrev aU:=@List.length_append.{0}
abbrev bQ:=@List.getD_eq_getElem?_getD.{0}
abbrev aN:=@List.length_map.{0,0}
abbrev aI:=@List.map_cons.{0,0}
abbrev bW:=@List.getElem?_eq_getElem.{0}
abbrev eH:=@List.take_succ_eq_append_getElem.{0}
abbrev cH:=@List.take_of_length_le.{0}
abbrev aT:=@List.length_set.{0}
abbrev aK:=@List.map_nil.{0,0}
abbrev bB:=@Option.bind_some.{0,0}
abbrev bH:=@List.length_take.{0}
abbrev bI:=@List.length_cons.{0}
abbrev bS:=@List.append_assoc.{0}
abbrev aV:=@Nat.mul_one
abbrev bR:=@Bool.and_eq_true
abbrev ct:=@Nat.lt_of_lt_of_le
abbrev cg:=@List.getElem_map.{0,0}
abbrev bG:=@Nat.zero_add
abbrev dx:=@List.mem_cons_of_mem.{0}
abbrev cG:=@List.length_drop.{0}
abbrev eX:=@Option.bind_eq_some_iff.{0,0}
abbrev eW:=@Option.map_eq_some_iff.{0,0}
abbrev cV:=@List.length_nil.{0}
abbrev eN:=@Array.length_toList.{0}
abbrev dj:=@Option.map_some.{0,0}
abbrev ju:=@List.mem_or_eq_of_mem_set.{0}
abbrev gE:=@List.getElem_set_self.{0}
abbrev eD:=@Option.getD_some.{0}
abbrev jX:=@List.drop_eq_getElem_cons.{0}
abbrev dY:=@List.map_append.{0,0}
abbrev gC:=@List.getElem_set_ne.{0}
abbrev cU:=@Nat.lt_or_ge
abbrev fk:=@List.getElem?_map.{0,0}
abbrev di:=@Nat.le_trans
abbrev gz:=@Bool.false_eq_true
abbrev ik:=@List.flatten_append.{0}
abbrev jt:=@List.length_singleton.{0}
abbrev eV:=@List.append_nil.{0}
abbrev iW:=@List.mem_map_of_mem.{0,0}
abbrev nZ:=@List.take_append_of_le_length.{0}
abbrev dh:=@Nat.zero_le
abbrev jW:=@List.getElem?_eq_none.{0}
abbrev jV:=@List.take_append_drop.{0}
abbrev gu:=@List.cons_append.{0}
abbrev gq:=@List.ext_getElem.{0}
abbrev fP:=@List.cons.injEq.{0}
abbrev dX:=@Nat.succ_mul
abbrev jU:=@Nat.mul_le_mul_right
abbrev nW:=@List.getElem?_append_right.{0}
abbrev js:=@List.flatten_cons.{0}
abbrev ij:=@List.nil_append.{0}
abbrev fK:=@Nat.le_of_lt
abbrev kM:=@Option.some.injEq.{0}
abbrev ii:=@Nat.add_assoc
abbrev sK:=@Array.toList_setIfInBounds.{0}
abbrev sJ:=@Array.getElem?_eq_getElem.{0}
abbrev jT:=@Nat.min_eq_left
abbrev iV:=@Prod.mk.injEq.{0,0}
abbrev nV:=@List.length_reverse.{0}
abbrev qB:=@List.mem_of_mem_take.{0}
abbrev sI:=@List.drop_of_length_le.{0}
abbrev nU:=@List.mem_cons_self.{0}
abbrev lK:=@Bool.or_eq_true
abbrev qA:=@List.getElem_mapIdx.{0,0}
abbrev vJ:=@Nat.add_sub_cancel_left
abbrev mZ:=@List.foldl_cons.{0,0}
abbrev yv:=@List.getElem?_append_left.{0}
abbrev yu:=@List.getElem_append_right.{0}
abbrev sH:=@Array.toList_append.{0}
abbrev sG:=@Option.bind_eq_bind.{0}
abbrev lJ:=@List.all_cons.{0}
abbrev vI:=@Array.getElem?_toList.{0}
abbrev yt:=@List.getElem?_cons_zero.{0}
abbrev LG:=@Array.getElem?_setIfInBounds_self_of_lt.{0}
abbrev nT:=@List.drop_drop.{0}
abbrev sF:=@List.nodup_append.{0}
abbrev BB:=@List.pairwise_iff_getElem.{0}
abbrev sE:=@List.filter_cons.{0}
abbrev vH:=@Nat.lt_or_gt_of_ne
abbrev vG:=@List.filter_append.{0}
abbrev BA:=@List.getElem_append_left.{0}
abbrev yr:=@List.pairwise_append.{0}
abbrev Bz:=@List.pairwise_mergeSort.{0}
abbrev vF:=@List.foldl_append.{0,0}
abbrev FU:=@Array.getD_eq_getD_getElem?.{0}
abbrev sD:=@List.mem_append.{0}
abbrev yq:=@List.mergeSort_perm.{0}
abbrev nS:=@Nat.add_zero
abbrev nR:=@Bool.or_true
abbrev nO:=@List.map_set.{0,0}
abbrev qz:=@Bool.and_self
abbrev vE:=@List.all_eq_true.{0}
abbrev By:=@List.length_filter_le.{0}
abbrev Bx:=@List.eq_nil_or_concat.{0}
abbrev Bw:=@List.concat_eq_append.{0}
abbrev nM:=@Nat.le_succ
abbrev qx:=@Nat.sub_self
abbrev lq:=@List.set_set.{0}
abbrev mw:=@List.mem_cons.{0}
abbrev yR:=@List.getElem?_replicate.{0}
abbrev uI:=@List.getD_cons_zero.{0}
abbrev uH:=@List.getD_cons_succ.{0}
abbrev oj:=@List.take_left.{0}
abbrev oi:=@List.take_zero.{0}
abbrev yQ:=@List.getElem_replicate.{0}
abbrev uG:=@Option.isSome_none.{0}
abbrev uF:=@List.mem_singleton.{0}
abbrev DR:=@List.sublist_flatten_of_mem.{0}
abbrev yP:=@List.length_replicate.{0}
abbrev yO:=@List.Perm.append_left.{0}
abbrev yN:=@List.perm_append_comm.{0}
abbrev yM:=@List.mem_append_right.{0}
abbrev uE:=@List.ext_getElem?.{0}
abbrev uD:=@List.length_range
abbrev uC:=@Int.toNat_natCast
abbrev DQ:=@List.extract_eq_take_drop.{0}
abbrev mv:=@Nat.add_mul
abbrev Jw:=@List.set_eq_take_append_cons_drop.{0}
abbrev qT:=@List.mapM_cons.{0,0,0}
abbrev qS:=@List.take_take.{0}
abbrev qR:=@List.drop_zero.{0}
abbrev uA:=@List.take_length.{0}
abbrev og:=@Nat.le_of_eq
abbrev uz:=@Bool.not_eq_true
abbrev DP:=@List.eq_of_mem_replicate.{0}
abbrev Jv:=@Array.getElem?_setIfInBounds_ne.{0}
abbrev DO:=@List.getElem?_cons_succ.{0}
abbrev qQ:=@Bool.and_true
abbrev qP:=@Nat.lt_irrefl
abbrev yL:=@Option.isSome_some.{0}
abbrev uy:=@Option.pure_def.{0}
abbrev yK:=@List.set_cons_succ.{0}
abbrev yJ:=@List.size_toArray.{0}
abbrev yI:=@Bool.not_eq_true'
abbrev yH:=@Nat.lt_trichotomy
abbrev yG:=@List.getElem_take.{0}
abbrev qO:=@Nat.zero_mul
abbrev qN:=@Nat.add_comm
abbrev DN:=@Array.getElem?_modify.{0}
abbrev DM:=@List.length_mergeSort.{0}
abbrev yF:=@List.drop_append.{0}
abbrev oe:=@Array.ext'.{0}
abbrev DL:=@List.mem_of_getElem?.{0}
abbrev DK:=@List.mem_of_mem_drop.{0}
abbrev yE:=@List.any_eq_true.{0}
abbrev yD:=@List.map_flatten.{0,0}
abbrev yC:=@List.getElem_inj.{0}
abbrev Ju:=@Nat.lt_of_mul_lt_mul_right
abbrev ux:=@Bool.true_and
abbrev DJ:=@List.getElem?_range
abbrev DI:=@List.replicate_succ.{0}
abbrev DH:=@List.flatMap_append.{0,0}
abbrev DG:=@List.map_congr_left.{0,0}
abbrev DF:=@Array.getElem?_push.{0}
abbrev yB:=@List.range_succ
abbrev yA:=@List.nodup_cons.{0}
abbrev uw:=@Nat.sub_zero
abbrev DE:=@List.pairwise_cons.{0}
abbrev DD:=@List.getElem?_take.{0}
abbrev uv:=@List.map_map.{0,0,0}
abbrev DC:=@List.set_cons_zero.{0}
abbrev DB:=@List.length_mapIdx.{0,0}
abbrev DA:=@List.append_of_mem.{0}
abbrev yz:=@List.mem_range
abbrev yy:=@Bool.not_false
abbrev Dz:=@List.any_eq_false.{0}
abbrev yx:=@Bool.false_or
abbrev yw:=@List.sum_cons.{0}
abbrev Dy:=@Option.getD_none.{0}
abbrev Dx:=@List.range'_succ
abbrev Dw:=@Nat.le_max_right
abbrev Dv:=@Nat.lt_of_not_le
abbrev Jt:=@Nat.le_of_ble_eq_true
abbrev Js:=@List.range_eq_range'
abbrev Jr:=@List.getElem?_set_ne.{0}
abbrev Jq:=@Bool.or_eq_false_iff
abbrev Du:=@Nat.le_max_left
abbrev Jp:=@List.getElem_reverse.{0}
abbrev Dt:=@Option.some.inj.{0}
abbrev Ds:=@Bool.false_and
def Om{p:Prop}(h:p:=by omega):p:=h
def Oh{q p:Prop}(h:q)(k:q->p:=by intro;omega):p:=k h
def Rr{p:Prop}(h:p:=by repeat' first|rfl|constructor):p:=h
def iN{c:Prop}[Decidable c]{α:Type}{a b:α}(h:¬c:=by omega):(if c then a else b)=b:=if_neg h
def iP{c:Prop}[Decidable c]{α:Type}{a b:α}(h:c:=by omega):(if c then a else b)=a:=if_pos h
inductive IV where
 | bool (b:Bool)
 | int (k:IntKind) (n:Int)
 | str (s:List UInt8)
 | ptr (b o:Nat)
 | nilPtr
 | slice (b o len lb:Nat) (ex:Bool)
 | nilSlice
 | map (b:Nat)
 | nilMap
 | fn (f:FuncId) (first cap:List IV)
 | yield (l:Nat)
 | nilFunc
 | iface (t:TypeId) (v:IV)
 | nilIface
 | agg (cs:List IV)
 | tuple (cs:List IV)
 deriving Inhabited
def UN:IV:=.tuple []
inductive Loc where
 | no
 | dead
 | at (c p ez z:Nat)
abbrev Mu:=Nat->Loc
def LocR(μ:Mu)(b o:Nat)(a:Addr):Prop:=match μ b with|.at c p _ _=>a=⟨c,p+o,none⟩|.dead=>True|.no=>False
def SlR(μ:Mu)(b o:Nat)(ex:Bool)(cap:Nat)(a:Addr):Prop:=match μ b with|.at c p ez z=>(cap=0\/a=⟨c,p+o,none⟩)/\(ex=false->ez≠0->o+cap*ez<=z)|.dead=>True|.no=>False
def agK(n lb:Nat)(ex:Bool)(cap:Nat):Prop:=n<=lb/\lb<=cap/\cap<2^63/\(ex=true->cap=lb)
mutual
def VR(μ:Mu):IV->Value->Prop|.bool b,v=>v=.bool b|.int k n,v=>v=.int k n|.str l,v=>v=.string ⟨⟨l⟩⟩|.ptr b o,v=>∃a:Addr,v=.pointer (some a)/\LocR μ b o a|.nilPtr,v=>v=.pointer none|.slice b o n lb ex,v=>∃(a:Addr) (cap:Nat),v=.slice (some a) n cap/\agK n lb ex cap/\SlR μ b o ex cap a|.nilSlice,v=>v=.slice none 0 0|.map b,v=>∃r:Nat,v=.map (some r)/\LocR μ b 0 ⟨r,0,none⟩|.nilMap,v=>v=.map none|.fn f l r,v=>∃q A:Array Value,v=.func (.func f) q A/\VRs μ l q.toList/\VRs μ r A.toList|.yield b,v=>∃r:Nat,v=.func (.yield r) #[] #[]/\LocR μ b 0 ⟨r,0,none⟩|.nilFunc,v=>v=.nilFunc|.iface t x,v=>∃E:Value,v=.iface t E/\VR μ x E|.nilIface,v=>v=.nilIface|.agg l,v=>∃q:Array Value,v=.agg q/\VRs μ l q.toList|.tuple l,v=>∃q:Array Value,v=.tuple q/\VRs μ l q.toList
def VRs(μ:Mu):List IV->List Value->Prop|[],l=>l=[]|x::xs,l=>∃(y:Value) (ys:List Value),l=y::ys/\VR μ x y/\VRs μ xs ys
end
def Mu.le(μ q:Mu):Prop:=∀b,μ b≠.no->q b=μ b\/q b=.dead
def Mu.le_refl(μ:Mu):μ.le μ:=λ_ _=>.inl rfl
def Mu.le_trans{a b c:Mu}(h:a.le b)(k:b.le c):a.le c:=λx hx=>by rcases h x hx with e|e;{rw[<-e];exact k x (by rw[e];exact hx)};{rcases k x (by rw[e];exactλh=>by cases h) with q|q<;>grind}
def LocR.mono{μ q:Mu}{b o:Nat}{a:Addr}(hl:μ.le q)(h:LocR μ b o a):LocR q b o a:=by unfold LocR at *;have hn:μ b≠.no:=by{intro e;rw[e] at h;exact h};rcases hl b hn with e|e<;>grind
def SlR.mono{μ q:Mu}{b o cap:Nat}{ex:Bool}{a:Addr}(hl:μ.le q)(h:SlR μ b o ex cap a):SlR q b o ex cap a:=by unfold SlR at *;have hn:μ b≠.no:=by{intro e;rw[e] at h;exact h};rcases hl b hn with e|e<;>grind
mutual
def VR.mono{μ A:Mu}(hl:μ.le A):∀(x:IV)(v:Value),VR μ x v->VR A x v|.bool _,_,h=>h|.int _ _,_,h=>h|.str _,_,h=>h|.ptr _ _,_,h=>by obtain⟨a,e,k⟩:=h;exact⟨a,e,k.mono hl⟩|.nilPtr,_,h=>h|.slice _ _ _ _ _,_,h=>by obtain⟨a,c,e,k,l⟩:=h;exact⟨a,c,e,k,l.mono hl⟩|.nilSlice,_,h=>h|.map _,_,h=>by obtain⟨a,e,k⟩:=h;exact⟨a,e,k.mono hl⟩|.nilMap,_,h=>h|.fn _ l r,_,h=>by obtain⟨q,I,e,E,F⟩:=h;exact⟨q,I,e,VRs.mono hl l _ E,VRs.mono hl r _ F⟩|.yield _,_,h=>by obtain⟨a,e,k⟩:=h;exact⟨a,e,k.mono hl⟩|.nilFunc,_,h=>h|.iface _ x,_,h=>by obtain⟨O,e,k⟩:=h;exact⟨O,e,VR.mono hl x _ k⟩|.nilIface,_,h=>h|.agg l,_,h=>by obtain⟨q,e,k⟩:=h;exact⟨q,e,VRs.mono hl l _ k⟩|.tuple l,_,h=>by obtain⟨q,e,k⟩:=h;exact⟨q,e,VRs.mono hl l _ k⟩
def VRs.mono{μ q:Mu}(hl:μ.le q):∀(x:List IV)(v:List Value),VRs μ x v->VRs q x v|[],_,h=>h|x::xs,_,h=>by obtain⟨y,ys,e,k,ks⟩:=h;exact⟨y,ys,e,VR.mono hl x _ k,VRs.mono hl xs _ ks⟩
end
section
variable {μ:Mu}
def VRs.length:∀{l:List IV}{q:List Value},VRs μ l q->l.length=q.length|[],_,h=>by cases h;rfl|_::_,_,h=>by obtain⟨y,ys,rfl,_,k⟩:=h;simp[VRs.length k]
def VRs.get:∀{l:List IV}{q:List Value}{i:Nat}{x:IV},VRs μ l q->l[i]? =some x->∃y,q[i]? =some y/\VR μ x y|[],_,_,_,_,h=>by simp at h|a::A,_,0,x,h,e=>by obtain⟨y,ys,rfl,k,_⟩:=h;simp at e;subst e;exact⟨y,by simp,k⟩|a::A,_,i+1,x,h,e=>by obtain⟨y,ys,rfl,_,k⟩:=h;obtain⟨z,F,E⟩:=VRs.get k (i:=i) (by simpa using e);exact⟨z,by simpa using F,E⟩
def VRs.append:∀{l:List IV}{q:List Value}{r:List IV}{A:List Value},VRs μ l q->VRs μ r A->VRs μ (l++r) (q++A)|[],_,_,_,h,k=>by cases h;simpa using k|_::_,_,_,_,h,k=>by obtain⟨y,ys,rfl,a,b⟩:=h;exact⟨y,_,rfl,a,b.append k⟩
def VRs.take:∀{l:List IV}{q:List Value}(n:Nat),VRs μ l q->VRs μ (l.take n) (q.take n)|[],_,n,h=>by cases h;simp[VRs]|_::_,_,0,_=>by simp[VRs]|_::_,_,n+1,h=>by obtain⟨y,ys,rfl,a,b⟩:=h;exact⟨y,_,rfl,a,b.take n⟩
def VRs.drop:∀{l:List IV}{q:List Value}(n:Nat),VRs μ l q->VRs μ (l.drop n) (q.drop n)|[],_,n,h=>by cases h;simp[VRs]|_::_,_,0,h=>h|_::_,_,n+1,h=>by obtain⟨y,ys,rfl,a,b⟩:=h;exact b.drop n
def VRs.set:∀{l:List IV}{q:List Value}(i:Nat){x:IV}{y:Value},VRs μ l q->VR μ x y->VRs μ (l.set i x) (q.set i y)|[],_,_,_,_,h,_=>by cases h;simp[VRs]|_::_,_,0,_,y,h,k=>by obtain⟨z,ys,rfl,a,b⟩:=h;exact⟨y,ys,rfl,k,b⟩|_::_,_,i+1,_,_,h,k=>by obtain⟨z,ys,rfl,a,b⟩:=h;exact⟨z,_,rfl,a,b.set i k⟩
def Az:∀{l:List IV}{q:List Value},l.length=q.length->(∀(i:Nat)(x:IV)(y:Value),l[i]? =some x->q[i]? =some y->VR μ x y)->VRs μ l q|[],[],_,_=>rfl|[],_::_,h,_=>by simp at h|_::_,[],h,_=>by simp at h|x::xs,y::ys,h,k=>⟨y,ys,rfl,k 0 x y rfl rfl,Az (by simpa using h) λi a b A E=>k (i+1) a b (by simpa using A) (by simpa using E)⟩
end
inductive Tr(α:Type)where
 | leaf
 | node (v:Option α) (l r:Tr α)
def Tr.get{α:Type}:Tr α->Nat->Option α|.leaf,_=>none|.node v l r,i=>match i with|0=>v|j+1=>if j%2=0 then l.get (j / 2) else r.get (j / 2)
def Tr.setF{α:Type}:Nat->Tr α->Nat->α->Tr α|0,t,_,_=>t|f+1,t,i,x=>match t,i with|.leaf,0=>.node (some x) .leaf .leaf|.node _ l r,0=>.node (some x) l r|.leaf,j+1=>if j%2=0 then .node none (Tr.setF f .leaf (j / 2) x) .leaf else .node none .leaf (Tr.setF f .leaf (j / 2) x)|.node v l r,j+1=>if j%2=0 then .node v (Tr.setF f l (j / 2) x) r else .node v l (Tr.setF f r (j / 2) x)
def Tr.set{α:Type}(t:Tr α)(i:Nat)(x:α):Tr α:=Tr.setF (i+1) t i x
theorem pG{α:Type}(i:Nat):(Tr.leaf:Tr α).get i=none:=by unfold Tr.get;rfl
def Ic{α:Type}:∀(f:Nat)(t:Tr α)(i j:Nat)(x:α),i<f->(Tr.setF f t i x).get j=if i=j then some x else t.get j:=by intro f;induction f with|zero=>intro t i j x h;omega|succ f E=>intro t i j x h;cases t with|leaf=>(cases i with|zero=>cases j<;>simp[Tr.setF,Tr.get]|succ i=>have hi:i / 2<f:=Om;by_cases q:i%2=0;{cases j with|zero=>simp[Tr.setF,q,Tr.get]|succ j=>by_cases A:j%2=0;{simp only[Tr.setF,q,if_true,Tr.get,A,E _ _ _ _ hi];grind};{simp only[Tr.setF,q,if_true,Tr.get,A,if_false];grind}};{cases j with|zero=>simp[Tr.setF,q,Tr.get]|succ j=>by_cases A:j%2=0;{simp only[Tr.setF,q,if_false,Tr.get,A,if_true];grind};{simp only[Tr.setF,q,if_false,Tr.get,A,E _ _ _ _ hi];grind}})|node v l r=>cases i with|zero=>cases j<;>simp[Tr.setF,Tr.get]|succ i=>have hi:i / 2<f:=Om;by_cases q:i%2=0;{cases j with|zero=>simp[Tr.setF,q,Tr.get]|succ j=>by_cases A:j%2=0;{simp only[Tr.setF,q,if_true,Tr.get,A,E _ _ _ _ hi];grind};{simp only[Tr.setF,q,if_true,Tr.get,A,if_false];grind}};{cases j with|zero=>simp[Tr.setF,q,Tr.get]|succ j=>by_cases A:j%2=0;{simp only[Tr.setF,q,if_false,Tr.get,A,if_true];grind};{simp only[Tr.setF,q,if_false,Tr.get,A,E _ _ _ _ hi];grind}}
def rF{α:Type}(t:Tr α)(i j:Nat)(x:α):(t.set i x).get j=if i=j then some x else t.get j:=Ic _ _ _ _ _ (Nat.lt_succ_self i)
inductive IA where
 | tmp (t:Nat)
 | val (v:IV)
 | glob (g:Nat)
 deriving Inhabited
inductive Pk where
 | bool | int | str
 deriving DecidableEq,Inhabited
inductive Nk where
 | ptr | sl | map | fn
 deriving DecidableEq,Inhabited
inductive Kd where
 | move
 | pick
 | alloc (e ez:Nat) (zs:List IV)
 | box (e ez:Nat)
 | build (zs:List IV) (offs:List (Nat×Nat))
 | buildSl (e ez n:Nat) (zs:List IV) (offs:List (Nat×Nat))
 | load (n:Option Nat)
 | store (n:Nat)
 | nilCheck
 | bin (op:BinOp)
 | eqBool (neg:Bool)
 | eqFlat (neg:Bool) (ds:List Pk)
 | eqNil (neg:Bool) (k:Nk)
 | un (op:UnOp)
 | conv (k:IntKind)
 | mkfn (f:FuncId) (k:Nat)
 | mkmap
 | mksl (e ez bytes:Nat) (zs:List IV)
 | slc (size:Nat) (lo hi mx:Bool)
 | fieldAddr (off:Nat)
 | field (off:Nat) (n:Option Nat)
 | idxSl (size:Nat)
 | idxArrAddr (len size:Nat)
 | idxArr (len size:Nat) (n:Option Nat)
 | lookup (t:TypeId) (ky:Bool×List Pk) (zero:IV) (ok:Bool)
 | mapUpd (ky:Bool×List Pk)
 | mapEntry (t:TypeId) (ky:Bool×List Pk) (zero:IV)
 | entryStore
 | delete (ky:Bool×List Pk)
 | lenSl
 | lenMap
 | cap
 | append (e size bytes:Nat)
 | copy (size:Nat)
 | min
 | max
 | extract (i:Nat)
 | clear (zs:List IV)
 | rangeM
 | nextM
 | entryM
 | call
 deriving Inhabited
structure IOp where
 dst:Option Nat
 kd:Kd
 args:List IA
 guard:Option (Nat×Bool)
 amb:Bool
 idx:Nat
 mask:Nat
 deriving Inhabited
inductive Sg where
 | seq | free
 deriving DecidableEq,Inhabited
inductive IC where
 | skip
 | ops (l:List (Sg×List IOp))
 | seq (a b:IC)
 | cond (c:IA) (a b:IC)
 | block (id:Nat) (c:IC)
 | scope (c:IC)
 | loop (c:IC)
 | rfn (f:IA) (ps:List Nat) (asg body:IC)
 | exit (id:Nat)
 | ret
 deriving Inhabited
inductive Jmp where
 | exit (id:Nat)
 | ret
inductive IObj where
 | cells (ro:Bool) (e ez:Nat) (cs:List IV)
 | map (es:List (IV×IV×Nat)) (clock:Nat)
 | loop (st:LoopState) (pend:Option Jmp) (tm:List IV) (ps:List Nat) (asg body:IC) (df:Nat)
 | deferred
 | taken
 | iter (m:Option Nat) (since:Nat) (seen:List Nat) (last:Nat)
 | dead
structure Heap where
 n:Nat
 t:Tr IObj
def Heap.get(H:Heap)(b:Nat):Option IObj:=H.t.get b
def Heap.put(H:Heap)(b:Nat)(o:IObj):Heap:=⟨H.n,H.t.set b o⟩
def Heap.new(H:Heap)(o:IObj):Heap:=⟨H.n+1,H.t.set H.n o⟩
def aa(H:Heap)(b b':Nat)(o:IObj):(H.put b o).get b'=if b=b' then some o else H.get b':=rF _ _ _ _
def ak(H:Heap)(b':Nat)(o:IObj):(H.new o).get b'=if H.n=b' then some o else H.get b':=rF _ _ _ _
theorem ae(H:Heap)(b:Nat)(o:IObj):(H.put b o).n=H.n:=rfl
theorem ac(H:Heap)(o:IObj):(H.new o).n=H.n+1:=rfl
def IV.cells:IV->List IV|.agg l=>l|v=>[v]
def ay:List IV->Nat->List IV->List IV|[],_,_=>[]|c::cs,0,[]=>c::cs|_::cs,0,v::vs=>v::ay cs 0 vs|c::cs,o+1,vs=>c::ay cs o vs
def Heap.read(H:Heap)(b o n:Nat):Option (List IV):=match H.get b with|some (.cells _ _ _ cs)=>if o+n<=cs.length then some ((cs.drop o).take n) else none|_=>none
def IV.one:IV->Bool|.agg _|.tuple _=>false|_=>true
def Heap.write(H:Heap)(lo b o:Nat)(vs:List IV):Option Heap:=match H.get b with|some (.cells false e ez cs)=>if lo<=b/\o+vs.length<=cs.length/\vs.all IV.one then some (H.put b (.cells false e ez (ay cs o vs))) else none|_=>none
def aj(n:Option Nat)(l:List IV):Option IV:=match n,l with|some _,l=>some (.agg l)|none,[v]=>some v|none,_=>none
def du:List (Nat×Nat)->List IV->List IV->Option (List IV)|[],[],cs=>some cs|(off,size)::q,v::vs,cs=>if v.cells.length=size/\off+size<=cs.length then du q vs (ay cs off v.cells) else none|_,_,_=>none
def J8:Pk->IV->IV->Option Bool|.bool,.bool a,.bool b=>some (a==b)|.int,.int k a,.int q b=>if k=q then some (a==b) else none|.str,.str a,.str b=>some (a==b)|_,_,_=>none
def ig:List Pk->List IV->List IV->Option Bool|[],[],[]=>some true|d::ds,x::xs,y::ys=>(match J8 d x y,ig ds xs ys with|some a,some b=>some (a&&b)|_,_=>none)|_,_,_=>none
def VD:Pk->IV->Bool|.bool,.bool _=>true|.int,.int _ _=>true|.str,.str _=>true|_,_=>false
def tn:List Pk->List IV->Bool|[],[]=>true|d::ds,x::xs=>VD d x&&tn ds xs|_,_=>false
def nm(op:BinOp):IV->IV->Option IV|.int k a,.int q b=>(match op with|.shl=>if b<0 then none else some (.int k (k.wrap (a*2^(Min.min b.toNat k.bits))))|.shr=>if b<0 then none else some (.int k (a.fdiv (2^(Min.min b.toNat k.bits))))|_=>if k=q then match op with|.add=>some (.int k (k.wrap (a+b)))|.sub=>some (.int k (k.wrap (a - b)))|.mul=>some (.int k (k.wrap (a*b)))|.quo=>if b=0 then none else some (.int k (k.wrap (a.tdiv b)))|.rem=>if b=0 then none else some (.int k (a.tmod b))|.and=>some (.int k (k.wrap (BitVec.ofInt k.bits a&&& BitVec.ofInt k.bits b).toNat))|.or=>some (.int k (k.wrap (BitVec.ofInt k.bits a||| BitVec.ofInt k.bits b).toNat))|.xor=>some (.int k (k.wrap (BitVec.ofInt k.bits a^^^BitVec.ofInt k.bits b).toNat))|.andNot=>some (.int k (k.wrap (BitVec.ofInt k.bits a&&& ~~~(BitVec.ofInt k.bits b)).toNat))|.eql=>some (.bool (a==b))|.neq=>some (.bool (a !=b))|.lss=>some (.bool (decide (a<b)))|.leq=>some (.bool (decide (a<=b)))|.gtr=>some (.bool (decide (a>b)))|.geq=>some (.bool (decide (a>=b)))|_=>none else none)|.str a,.str b=>(match op with|.add=>if a.length+b.length<2^40 then some (.str (a++b)) else none|.eql=>some (.bool (a==b))|.neq=>some (.bool !(a==b))|.lss=>some (.bool (Op.bytesLess a b))|.leq=>some (.bool (Op.bytesLess a b||a==b))|.gtr=>some (.bool !(Op.bytesLess a b||a==b))|.geq=>some (.bool !(Op.bytesLess a b))|_=>none)|_,_=>none
def XT(op:UnOp):IV->Option IV|.int k n=>(match op with|.neg=>some (.int k (k.wrap (0 - n)))|.xor=>some (.int k (k.wrap (BitVec.ofInt k.bits (if k.signed then -1 else k.max)^^^BitVec.ofInt k.bits n).toNat))|_=>none)|.bool b=>(match op with|.not=>some (.bool !b)|_=>none)|_=>none
def jC:Nk->IV->Option Bool|.ptr,.nilPtr|.sl,.nilSlice|.map,.nilMap|.fn,.nilFunc=>some true|.ptr,.ptr _ _|.sl,.slice _ _ _ _ _|.map,.map _|.fn,.fn _ _ _=>some false|_,_=>none
def bM(y:Nat):IV->Option Nat|.int _ n=>if 0<=n/\n<=(y:Int) then some n.toNat else none|_=>none
def bi(len top:Nat)(lo hi q:Bool)(l:List IV):Option (Nat×Nat×Option Nat):=match lo,hi,q,l with|false,false,false,[]=>some (0,len,none)|true,false,false,[a]=>(bM len a).map λa=>(a,len,none)|false,true,false,[b]=>(bM top b).map λb=>(0,b,none)|true,true,false,[a,b]=>(bM top b).bind λb=>(bM b a).map λa=>(a,b,none)|false,true,true,[b,c]=>(bM top c).bind λc=>(bM c b).map λb=>(0,b,some c)|true,true,true,[a,b,c]=>(bM top c).bind λc=>(bM c b).bind λb=>(bM b a).map λa=>(a,b,some c)|_,_,_,_=>none
def br(q:Bool):IV->Bool|.agg _=>q|_=>!q
def cW(ky:Bool×List Pk)(k:IV):Bool:=br ky.1 k&&tn ky.2 k.cells
def dK(ky:Bool×List Pk)(k q:IV):Option Bool:=if br ky.1 k&&br ky.1 q then ig ky.2 k.cells q.cells else none
def aO(ky:Bool×List Pk)(k:IV):List (IV×IV×Nat)->Nat->Option (Option (Nat×IV))|[],_=>some none|(A,v,_)::q,i=>match dK ky k A with|some true=>some (some (i,v))|some false=>aO ky k q (i+1)|none=>none
def fF(H:Heap)(size n:Nat):IV->Option (List IV)|.nilSlice=>if n=0 then some [] else none|.slice b o _ _ _=>if n=0 then some [] else H.read b o (n*size)|.str s=>if n<=s.length/\size=1 then some ((s.take n).map λc=>.int .u8 c.toNat) else none|_=>none
def lA:IV->Option Nat|.nilSlice=>some 0|.slice _ _ n _ _=>some n|.str s=>some s.length|_=>none
def jr:Nat->List IV->List IV|0,_=>[]|n+1,zs=>zs++jr n zs
def cS(e size bytes:Nat)(s:IV)(xs:List IV)(n lo:Nat)(H:Heap):Option (IV×Heap):=if xs.all IV.one=false then none else match s with|.nilSlice=>if n=0 then some (.nilSlice,H) else if n*(bytes+1)<=2^40 then some (.slice H.n 0 n n false,H.new (.cells false e size xs)) else none|.slice b o len lb ex=>if n=0 then some (.slice b o len lb ex,H) else if len+n<=lb then(H.write lo b (o+len*size) xs).map λH'=>(.slice b o (len+n) lb ex,H') else if (len+n)*(bytes+1)<=2^40 then if ex then(fF H size len s).map λold=>(.slice H.n 0 (len+n) (len+n) false,H.new (.cells false e size (old++xs))) else match H.get b with|some (.cells false q ez cs)=>if q=e/\ez=size/\0<size/\o=0/\lo<=b/\len*size<=cs.length then some (.slice H.n 0 (len+n) (len+n) false,(H.put b .dead).new (.cells false e size (cs.take (len*size)++xs))) else none|_=>none else none|_=>none
def dR{α:Type}:List α->Nat->List α|[],_=>[]|_::l,0=>l|x::l,i+1=>x::dR l i
def eu(key val:IV):List (IV×IV×Nat)->Nat->List (IV×IV×Nat)|[],_=>[]|(_,_,s)::l,0=>(key,val,s)::l|x::l,i+1=>x::eu key val l i
def eC(val:IV)(born:Int):List (IV×IV×Nat)->Option (List (IV×IV×Nat))|[]=>none|(k,v,s)::l=>if (s:Int)=born then some ((k,val,s)::l) else(eC val born l).map ((k,v,s)::·)
def aL(H:Heap)(b:Nat):Option (List (IV×IV×Nat)×Nat):=match H.get b with|some (.map q c)=>some (q,c)|_=>none
def stepM(H:Heap)(r:Nat):Option (IV×Option IObj):=match H.get r with|some (.iter none _ _ _)=>some (.tuple [.bool false],none)|some (.iter (some b) q seen E)=>(match aL H b with|none=>none|some (F,A)=>if seen≠[]/\F≠[]/\(F.all λe=>decide (E<=e.2.2))=true then none else match F.filter λe=>!seen.contains e.2.2 with|[]=>some (.tuple [.bool false],none)|[(k,v,s)]=>if s<q then some (.tuple [.bool true,k,v],some (.iter (some b) q (seen++[s]) A)) else none|_=>none)|_=>none
def zP(H:Heap)(r:Nat):Option IV:=match H.get r with|some (.iter (some b) _ seen A)=>(match seen.getLast? with|none=>none|some s=>match aL H b with|none=>none|some (E,q)=>if q=A then(E.find? λe=>e.2.2==s).map λe=>.tuple [e.1,e.2.1] else none)|_=>none
def mM(H:Heap)(b size:Nat):Bool:=match H.get b with|some (.cells q _ ez _)=>q||ez==size|_=>false
def mQ:IV->Option Nat|.nilSlice=>some 0|.slice _ _ n _ _=>some n|_=>none
def ev1(kd:Kd)(xs:List IV)(lo:Nat)(H:Heap):Option (IV×Heap):=match kd with|.move=>(match xs with|[x]=>some (x,H)|_=>none)|.pick=>(match xs with|[.bool c,a,b]=>some (if c then a else b,H)|_=>none)|.alloc e ez zs=>(match xs with|[]=>some (.ptr H.n 0,H.new (.cells false e ez zs))|_=>none)|.box e ez=>(match xs with|[x]=>some (.ptr H.n 0,H.new (.cells false e ez x.cells))|_=>none)|.build zs F=>(match xs with|xs=>(du F xs zs).map λcs=>(.agg cs,H))|.buildSl e ez n zs F=>(match xs with|xs=>(du F xs zs).map λcs=>(.slice H.n 0 n n true,H.new (.cells false e ez cs)))|.load n=>(match xs with|[.ptr b o]=>(H.read b o (n.getD 1)).bind λcs=>(aj n cs).map λv=>(v,H)|_=>none)|.store n=>(match xs with|[.ptr b o,x]=>if x.cells.length=n then(H.write lo b o x.cells).map λH'=>(UN,H') else none|_=>none)|.nilCheck=>(match xs with|[x]=>(match x with|.nilPtr|.nilIface|.nilFunc|.yield _=>none|x=>some (x,H))|_=>none)|.bin op=>(match xs with|[x,y]=>(nm op x y).map (·,H)|_=>none)|.eqBool neg=>(match xs with|[.bool a,.bool b]=>some (.bool (neg !=(a==b)),H)|_=>none)|.eqFlat neg ds=>(match xs with|[.agg x,.agg y]=>(ig ds x y).map λr=>(.bool (neg !=r),H)|_=>none)|.eqNil neg V=>(match xs with|[x,y]=>(match jC V x,jC V y with|some true,some r=>some (.bool (neg !=r),H)|some r,some true=>some (.bool (neg !=r),H)|_,_=>none)|_=>none)|.un op=>(match xs with|[x]=>(XT op x).map (·,H)|_=>none)|.conv k=>(match xs with|[.int _ n]=>some (.int k (k.wrap n),H)|_=>none)|.mkfn f k=>(match xs with|xs=>some (.fn f (xs.take k) (xs.drop k),H))|.mkmap=>(match xs with|[]=>some (.map H.n,H.new (.map [] 0))|[.int _ _]=>some (.map H.n,H.new (.map [] 0))|_=>none)|.rangeM=>(match xs with|[.nilMap]=>some (.ptr H.n 0,H.new (.iter none 0 [] 0))|[.map b]=>(aL H b).map λp=>(.ptr H.n 0,H.new (.iter (some b) p.2 [] p.2))|_=>none)|.entryM=>(match xs with|[.ptr r 0]=>(zP H r).map (·,H)|_=>none)|.nextM=>(match xs with|[.ptr r 0]=>if lo<=r then(stepM H r).map λp=>(p.1,match p.2 with|none=>H|some o=>H.put r o) else none|_=>none)|.mksl e ez bytes zs=>(match xs with|[.int _ l,.int _ c]=>if 0<=l/\l<=c/\c*(bytes+1)<=2^40 then some (.slice H.n 0 l.toNat c.toNat true,H.new (.cells false e ez (jr c.toNat zs))) else none|_=>none)|.slc size lo hi U=>(match xs with|s::l=>(match s with|.nilSlice=>(bi 0 0 lo hi U l).bind λ(a,b,_)=>if a=0/\b=0 then some (.nilSlice,H) else none|.slice b o len lb ex=>if ex||mM H b size then (bi len lb lo hi U l).map λ(a,h,m)=>match m with|some m=>(.slice b (o+a*size) (h - a) (m - a) true,H)|none=>(.slice b (o+a*size) (h - a) (lb - a) ex,H) else none|_=>none)|_=>none)|.fieldAddr off=>(match xs with|[.ptr b o]=>some (.ptr b (o+off),H)|_=>none)|.field off n=>(match xs with|[.agg cs]=>if off+n.getD 1<=cs.length then(aj n ((cs.drop off).take (n.getD 1))).map λv=>(v,H) else none|_=>none)|.idxSl size=>(match xs with|[.slice b o len _ _,.int _ i]=>if 0<=i/\i<(len:Int) then some (.ptr b (o+i.toNat*size),H) else none|_=>none)|.idxArrAddr len size=>(match xs with|[.ptr b o,.int _ i]=>if 0<=i/\i<(len:Int) then some (.ptr b (o+i.toNat*size),H) else none|_=>none)|.idxArr len size n=>(match xs with|[.agg cs,.int _ i]=>if 0<=i/\i<(len:Int)/\i.toNat*size+n.getD 1<=cs.length then(aj n ((cs.drop (i.toNat*size)).take (n.getD 1))).map λv=>(v,H) else none|_=>none)|.lookup _ ky E ok=>(match xs with|[m,k]=>(match (match m with|.nilMap=>some []|.map b=>(aL H b).map (·.1)|_=>none) with|none=>none|some A=>if cW ky k then match aO ky k A 0 with|none=>none|some r=>let (v,I):IV×Bool:=match r with|some (_,v)=>(v,true)|none=>(E,false);some (if ok then .tuple [v,.bool I] else v,H) else none)|_=>none)|.mapUpd ky=>(match xs with|[.map b,k,v]=>(match aL H b with|none=>none|some (A,q)=>if lo<=b/\cW ky k then match aO ky k A 0 with|none=>none|some (some (i,_))=>some (UN,H.put b (.map (eu k v A i) q))|some none=>some (UN,H.put b (.map (A++[(k,v,q)]) (q+1))) else none)|_=>none)|.mapEntry _ ky E=>(match xs with|[.map b,k]=>(match aL H b with|none=>none|some (A,q)=>if lo<=b/\cW ky k then match aO ky k A 0 with|none=>none|some (some (i,v))=>(A[i]?).map λe=>(.tuple [v,.int .i64 e.2.2],H.put b (.map (eu k v A i) q))|some none=>some (.tuple [E,.int .i64 q],H.put b (.map (A++[(k,E,q)]) (q+1))) else none)|_=>none)|.entryStore=>(match xs with|[.map b,.int _ s,v]=>(match aL H b with|none=>none|some (A,q)=>if lo<=b then(eC v s A).map λO=>(UN,H.put b (.map O q)) else none)|_=>none)|.delete ky=>(match xs with|[.map b,k]=>(match aL H b with|none=>none|some (A,q)=>if lo<=b/\cW ky k then match aO ky k A 0 with|none=>none|some (some (i,_))=>some (UN,H.put b (.map (dR A i) q))|some none=>some (UN,H) else none)|_=>none)|.lenSl=>(match xs with|[x]=>(match x with|.nilSlice=>some (.int .i64 0,H)|.slice _ _ n _ _=>some (.int .i64 n,H)|_=>none)|_=>none)|.lenMap=>(match xs with|[m]=>(match m with|.nilMap=>some (.int .i64 0,H)|.map b=>(aL H b).map λ(A,_)=>(.int .i64 A.length,H)|_=>none)|_=>none)|.cap=>(match xs with|[x]=>(match x with|.nilSlice=>some (.int .i64 0,H)|.slice _ _ _ c true=>some (.int .i64 c,H)|_=>none)|_=>none)|.append e size bytes=>(match xs with|[s,x]=>(lA x).bind λn=>(fF H size n x).bind λxs=>cS e size bytes s xs n lo H|_=>none)|.copy size=>(match xs with|[d,s]=>(match mQ d,lA s with|some n,some m=>(let k:=Min.min m n;if k=0 then some (.int .i64 0,H) else(fF H size k s).bind λxs=>match d with|.slice b o _ _ _=>(H.write lo b o xs).map λH'=>(.int .i64 k,H')|_=>none)|_,_=>none)|_=>none)|.min=>(match xs with|[.int k a,.int T b]=>if k=T then some (.int k (if b<a then b else a),H) else none|_=>none)|.max=>(match xs with|[.int k a,.int T b]=>if k=T then some (.int k (if b>a then b else a),H) else none|_=>none)|.clear zs=>(match xs with|[x]=>(match x with|.nilSlice=>some (.tuple [],H)|.slice b o n _ _=>if n=0 then some (.tuple [],H) else(H.write lo b o (jr n zs)).map λH'=>(.tuple [],H')|_=>none)|_=>none)|.extract i=>(match xs with|[.tuple l]=>(l[i]?).map (·,H)|_=>none)|.call=>none
structure IFn where
 ntmps:Nat
 results:List (Nat×Option (Option Nat))
 body:IC
structure Fr where
 tm:List IV
 marks:List Nat
inductive Ex where
 | normal
 | jmp (j:Jmp)
inductive Fp where
 | none
 | rd (b o n:Nat)
 | wr (b o n:Nat)
 | wb (b:Nat)
 | lk (t:TypeId) (ky:Bool×List Pk) (b:Nat) (k:IV)
 | me (t:TypeId) (ky:Bool×List Pk) (b:Nat) (k:IV)
abbrev dv:=List (Nat×Fp)
inductive Task where
 | code (c:IC) (rd:Option Nat) (fr:Fr)
 | segs (l:List (Sg×List IOp)) (rd:Option Nat) (fr:Fr)
 | ops (free:Option dv) (l:List IOp) (rd:Option Nat) (fr:Fr)
 | call (f:FuncId) (args:List IV)
 | apply (f:IV) (args:List IV)
inductive Out where
 | ex (e:Ex) (fr:Fr)
 | val (v:IV)
structure Env where
 fns:FuncId→Option IFn
 sums:FuncId→Option (List IV→Nat→Heap→Option (IV×Heap))
 g0:Nat
def IA.eval(g0:Nat)(tm:List IV):IA->Option IV|.tmp t=>some (tm.getD t UN)|.val v=>some v|.glob g=>if g<g0 then some (.ptr g 0) else none
def b9(g0:Nat)(tm:List IV):List IA->Option (List IV)|[]=>some []|x::xs=>match x.eval g0 tm with|none=>none|some v=>match b9 g0 tm xs with|none=>none|some vs=>some (v::vs)
def Fr.put(fr:Fr)(dst:Option Nat)(v:IV):Fr:=match dst with|none=>fr|some d=>{fr with tm:=fr.tm.set d v}
def dc(tm:List IV):Option (Nat×Bool)->Bool|none=>true|some (t,q)=>match tm.getD t UN with|.bool b=>b==q|_=>false
def lH(H:Heap)(tm:List IV):Nat×Option (Option Nat)->Option IV|(t,none)=>some (tm.getD t UN)|(t,some n)=>match tm.getD t UN with|.ptr b o=>(H.read b o (n.getD 1)).bind (aj n)|_=>none
def aR(H:Heap)(tm:List IV):List (Nat×Option (Option Nat))->Option (List IV)|[]=>some []|r::rs=>match lH H tm r,aR H tm rs with|some v,some vs=>some (v::vs)|_,_=>none
def fE:List IV->IV|[v]=>v|l=>.tuple l
def cK(lo:Nat):List Nat->Heap->Option Heap|[],H=>some H|r::rs,H=>match H.get r with|some .deferred=>if lo<=r then cK lo rs (H.put r .taken) else none|_=>none
def ff:List IV->List Nat->List IV->List IV|tm,p::q,v::vs=>ff (tm.set p v) q vs|tm,_,_=>tm
def dp:Nat->List IV|0=>[]|n+1=>UN::dp n
def Kd.pure:Kd->Bool|.move|.pick|.build _ _|.nilCheck|.bin _|.eqBool _|.eqFlat _ _|.eqNil _ _|.un _|.conv _|.mkfn _ _|.fieldAddr _|.field _ _|.idxSl _|.idxArrAddr _ _|.idxArr _ _ _|.lenSl|.cap|.min|.max|.extract _=>true|_=>false
def Kd.isStore:Kd->Bool|.store _=>true|_=>false
def iJ(b o n b' o' q:Nat):Bool:=b≠b'||o+n<=o'||o'+q<=o
def bx:Fp->Fp->Bool|.rd b o n,.wr b' o' q|.wr b o n,.rd b' o' q|.wr b o n,.wr b' o' q=>iJ b o n b' o' q|.wb b,.rd b' _ _|.rd b' _ _,.wb b|.wb b,.wr b' _ _|.wr b' _ _,.wb b|.wb b,.wb b'|.wb b,.lk _ _ b' _|.lk _ _ b' _,.wb b|.wb b,.me _ _ b' _|.me _ _ b' _,.wb b=>b≠b'|.lk _ _ b _,.wr b' _ _|.wr b' _ _,.lk _ _ b _|.rd b _ _,.me _ _ b' _|.me _ _ b' _,.rd b _ _|.wr b _ _,.me _ _ b' _|.me _ _ b' _,.wr b _ _|.me _ _ b' _,.me _ _ b _=>b≠b'|.lk t ky b k,.me E _ b' A|.me E _ b' A,.lk t ky b k=>b≠b'||(t==E&&(match dK ky k A with|some true=>true|_=>false))|_,_=>true
def AZ:IV->Fp|.slice b _ _ _ false=>.rd b 0 0|_=>.none
def eT(o:IOp)(xs:List IV):Option Fp:=match o.kd,xs with|.slc _ _ _ _,s::_=>some (AZ s)|.store n,[.ptr b a,_]=>some (.wr b a n)|.store _,_=>none|.load n,[.ptr b a]=>some (.rd b a (n.getD 1))|.load _,_=>none|.lookup t ky _ false,[.map b,k]=>some (.lk t ky b k)|.lookup _ _ _ false,[.nilMap,_]=>some .none|.lookup _ _ _ false,_=>none|.append _ _ _,.slice b _ _ _ _::_=>some (if o.amb then .wb b else .none)|.mapEntry t ky _,[.map b,k]=>some (if o.amb then .me t ky b k else .none)|_,_=>some .none
def lS(q:dv)(o:IOp)(xs:List IV):Option dv:=match eT o xs with|none=>none|some f=>if q.all λp=>o.mask.testBit p.1||bx p.2 f then some ((o.idx,f)::q) else none
def eY(free:Option dv)(o:IOp)(lo:Nat)(H:Heap):Nat:=match free with|none=>lo|some _=>if o.amb then lo else H.n
def bE(free:Option dv)(o:IOp)(xs:List IV):Option (Option dv):=match free with|none=>some none|some q=>(lS q o xs).map some
def iG(rd:Option Nat)(H:Heap):Option (Nat×List Nat×Heap):=match rd with|none=>some (H.n,[H.n],H.new .deferred)|some l=>match H.get l with|some (.loop _ _ _ _ _ _ q)=>some (q,[],H)|_=>none
def jo(l:Nat)(H:Heap):Option Heap:=match H.get l with|some (.loop .ready pend tm E q body A)=>some (H.put l (.loop .busy pend tm E q body A))|_=>none
def A2(l:Nat)(e:Ex)(H:Heap):Option (Out×Heap):=match H.get l with|some (.loop _ _ tm E q body A)=>(match e with|.normal=>some (.val (.bool true),H.put l (.loop .ready none tm E q body A))|.jmp j=>some (.val (.bool false),H.put l (.loop .done (some j) tm E q body A)))|_=>none
def run(E:Env):Nat->Task->Nat->Heap->Option (Out×Heap)|0,_,_,_=>none|n+1,t,lo,H=>match t with|.code c rd fr=>(match c with|.skip=>some (.ex .normal fr,H)|.exit id=>some (.ex (.jmp (.exit id)) fr,H)|.ret=>some (.ex (.jmp .ret) fr,H)|.ops l=>run E n (.segs l rd fr) lo H|.seq a b=>(match run E n (.code a rd fr) lo H with|some (.ex .normal q,H')=>run E n (.code b rd q) lo H'|r=>r)|.cond c a b=>(match c.eval E.g0 fr.tm with|some (.bool true)=>run E n (.code a rd fr) lo H|some (.bool false)=>run E n (.code b rd fr) lo H|_=>none)|.block id c=>(match run E n (.code c rd fr) lo H with|some (.ex (.jmp (.exit U)) q,H')=>some (.ex (if U=id then .normal else .jmp (.exit U)) q,H')|r=>r)|.loop c=>(match run E n (.code c rd fr) lo H with|some (.ex .normal q,H')=>run E n (.code (.loop c) rd q) lo H'|r=>r)|.scope c=>run E n (.code c rd fr) lo H|.rfn f O A body=>match f.eval E.g0 fr.tm,iG rd H with|some g,some (Z,marks,H1)=>(match run E n (.apply g [.yield H1.n]) lo (H1.new (.loop .ready none fr.tm O A body Z)) with|some (.val _,V)=>(match V.get H1.n with|some (.loop st pend tm O A body Z)=>(if st=.busy\/H1.n<lo then none else let Y:=V.put H1.n (.loop .exhausted pend tm O A body Z);let q:Fr:={fr with marks:=marks++fr.marks};match pend with|none=>some (.ex .normal q,Y)|some j=>some (.ex (.jmp j) q,Y))|_=>none)|_=>none)|_,_=>none)|.segs l rd fr=>(match l with|[]=>some (.ex .normal fr,H)|(k,os)::l=>match run E n (.ops (match k with|.seq=>none|.free=>some []) os rd fr) lo H with|some (.ex .normal q,H')=>run E n (.segs l rd q) lo H'|_=>none)|.ops free l rd fr=>(match l with|[]=>some (.ex .normal fr,H)|o::l=>if dc fr.tm o.guard then match b9 E.g0 fr.tm o.args with|none=>none|some xs=>match bE free o xs with|none=>none|some F=>match o.kd with|.call=>(match xs with|f::xs=>(match run E n (.apply f xs) (eY free o lo H) H with|some (.val v,H')=>run E n (.ops F l rd (fr.put o.dst v)) lo H'|_=>none)|[]=>none)|kd=>match ev1 kd xs (eY free o lo H) H with|some (v,H')=>run E n (.ops F l rd (fr.put o.dst v)) lo H'|none=>none else run E n (.ops free l rd (fr.put o.dst UN)) lo H)|.apply f args=>(match f with|.fn f I cap=>run E n (.call f (I++args++cap)) lo H|.yield l=>(match H.get l with|some (.loop _ _ tm O A body _)=>if args.length=O.length/\lo<=l then match run E n (.code A (some l) ⟨ff tm O args,[]⟩) lo H with|some (.ex .normal fr,H1)=>(match jo l H1 with|some V=>(match run E n (.code body (some l) fr) lo V with|some (.ex e _,Y)=>A2 l e Y|_=>none)|none=>none)|_=>none else none|_=>none)|_=>none)|.call f args=>match E.sums f with|some s=>(s args lo H).map λ(v,H')=>(.val v,H')|none=>match E.fns f with|none=>none|some fn=>match run E n (.code fn.body none ⟨args++dp (fn.ntmps - args.length),[]⟩) lo H with|some (.ex e fr,H')=>(match e with|.jmp (.exit _)=>none|_=>match cK lo fr.marks H' with|none=>none|some T=>(aR T fr.tm fn.results).map λvs=>(.val (fE vs),T))|_=>none
def qG:Nat->Value->Option IV|0,_=>none|n+1,v=>match v with|.bool b=>some (.bool b)|.int k n=>some (.int k n)|.string s=>some (.str s.data.toList)|.pointer none=>some .nilPtr|.slice none 0 0=>some .nilSlice|.map none=>some .nilMap|.nilFunc=>some .nilFunc|.nilIface=>some .nilIface|.agg cs=>(cs.toList.mapM (qG n)).map .agg|_=>none
def m8:Operand->Option IA|.tmp t=>some (.tmp t)|.const v=>(qG 3 v).map .val|.global g=>some (.glob g)|.func f=>some (.val (.fn f [] []))
section
variable (P:Program)
def bj(t:TypeId):Option Nat:=(P.info? t).map (·.size)
def lD(t:TypeId):Option Nat:=(P.info? t).map (·.bytes)
def rE(t:TypeId):Option (Option Nat):=match P.underlying t,bj P t with|some (.struct _),some n=>some (some n)|some (.array _ _),some n=>some (some n)|some (.struct _),none=>none|some (.array _ _),none=>none|some _,some _=>some none|_,_=>none
def gg(t:TypeId):Option IV:=((P.info? t).bind (·.zero)).bind (qG 3)
def mJ(ax:TypeId->Option (List Pk)):List Field->Nat->Option (List Pk)|[],_=>some []|f::fs,off=>match ax f.type with|some l=>if f.name≠"_"/\f.offset=off/\bj P f.type=some l.length then(mJ ax fs (off+l.length)).map (l++·) else none|none=>none
def cM:Nat->TypeId->Option (List Pk)|0,_=>none|d+1,t=>match P.underlying t with|some .bool=>some [.bool]|some (.int _)=>some [.int]|some .string=>some [.str]|some (.struct fs)=>if P.stoodInHeld t then none else mJ P (cM d) fs.toList 0|some (.array n e)=>(match cM d e with|some l=>if bj P e=some l.length then some (List.replicate n l).flatten else none|none=>none)|_=>none
def lP(k:TypeId):Option (Bool×List Pk):=(cM P 8 k).map λds=>(match P.underlying k with|some (.struct _)|some (.array _ _)=>true|_=>false,ds)
def mU(l:List Operand):Option (List IA):=l.mapM m8
def kZ(t:TypeId)(i:Nat):Option Field:=match P.underlying t with|some (.struct fs)=>fs[i]?|_=>none
def jw(e:TypeId):Option (Nat×List IV):=match bj P e,gg P e with|some n,some z=>if z.cells.length=n then some (n,z.cells) else none|_,_=>none
def aY(b:Builtin)(ts:List TypeId):Option Kd:=match b,ts with|.len,[t]=>(match P.underlying t with|some (.slice _)=>some .lenSl|some (.map _ _)=>some .lenMap|_=>none)|.cap,[t]=>(match P.underlying t with|some (.slice _)=>some .cap|_=>none)|.append,[t,u]=>(match P.underlying t,P.underlying u with|some (.slice e),some (.slice _)=>(jw P e).bind λz=>(lD P e).map λb=>.append e z.1 b|some (.slice e),some .string=>(jw P e).bind λz=>(lD P e).map λb=>.append e z.1 b|_,_=>none)|.copy,t::_=>(match P.underlying t with|some (.slice e)=>(bj P e).map .copy|_=>none)|.delete,t::_=>(match P.underlying t with|some (.map k _)=>(lP P k).map .delete|_=>none)|.clear,t::_=>(match P.underlying t with|some (.slice e)=>(jw P e).map λz=>.clear z.2|_=>none)|.min,_=>some .min|.max,_=>some .max|_,_=>none
def GC(op:BinOp)(t:TypeId):Option Kd:=match op with|.eql|.neq=>(let neg:=op matches .neq;match P.underlying t with|some .bool=>some (.eqBool neg)|some (.int _)|some .string=>some (.bin op)|some (.struct _)|some (.array _ _)=>if P.eqGuardType P.depth t then none else(cM P 8 t).map (.eqFlat neg)|some (.pointer _)=>some (.eqNil neg .ptr)|some (.slice _)=>some (.eqNil neg .sl)|some (.map _ _)=>some (.eqNil neg .map)|some (.func _ _ _)=>some (.eqNil neg .fn)|_=>none)|_=>some (.bin op)
def qX(place:Nat->Option (Nat×Nat))(q:Array (Nat×Operand)):Option (List (Nat×Nat)):=q.toList.mapM λp=>place p.1
def cI(op:Op):Option Kd:=match op with|.move _|.assign _=>some .move|.pick _ _ _=>some .pick|.alloc e=>(bj P e).bind λn=>(gg P e).map λz=>.alloc e n z.cells|.box e _=>(bj P e).map λn=>.box e n|.build t E=>(match P.underlying t with|some (.struct fs)=>if fs.all λf=>(bj P f.type).isSome then (qX (λi=>(fs[i]?).bind λf=>(bj P f.type).map λn=>(f.offset,n)) E).bind λq=>(gg P t).map λz=>.build z.cells q else none|some (.array _ e)=>(bj P e).bind λn=>(qX (λi=>some (i*n,n)) E).bind λq=>(gg P t).map λz=>.build z.cells q|_=>none)|.buildSlice t len E=>(match P.underlying t with|some (.slice e)=>(jw P e).bind λz=>(qX (λi=>some (i*z.1,z.1)) E).bind λq=>if len*z.1<=2^24/\len<2^40 then some (.buildSl e z.1 len (jr len z.2) q) else none|_=>none)|.load t _=>(rE P t).map .load|.store t _ _=>(bj P t).map .store|.nilCheck _=>some .nilCheck|.binOp op t _ _ _=>GC P op t|.unOp op _ _=>some (.un op)|.convert I dst _=>(match P.underlying I,P.underlying dst with|some (.int _),some (.int k)=>some (.conv k)|_,_=>none)|.makeFunc (.func f) A _=>some (.mkfn f A.size)|.makeMap t _=>(match P.underlying t with|some (.map _ _)=>some .mkmap|_=>none)|.makeSlice t _ _=>(match P.underlying t with|some (.slice e)=>(jw P e).bind λz=>(lD P e).map λb=>.mksl e z.1 b z.2|_=>none)|.slice t _ lo hi O=>(match P.underlying t with|some (.slice e)=>(bj P e).map λn=>.slc n lo.isSome hi.isSome O.isSome|_=>none)|.fieldAddr t _ i=>(kZ P t i).bind λf=>(bj P f.type).bind λn=>if n=0 then none else some (.fieldAddr f.offset)|.field t _ i=>(kZ P t i).bind λf=>(rE P f.type).map λn=>.field f.offset n|.indexAddr t _ _=>(match P.underlying t with|some (.slice e)=>(bj P e).map .idxSl|some (.array n e)=>(bj P e).map λk=>.idxArrAddr n k|_=>none)|.index t _ _=>(match P.underlying t with|some (.array n e)=>(bj P e).bind λk=>(rE P e).map λa=>.idxArr n k a|_=>none)|.lookup t _ _ ok=>(match P.underlying t with|some (.map k e)=>(lP P k).bind λky=>(gg P e).map λz=>.lookup t ky z ok|_=>none)|.mapUpdate t _ _ _|.insert t _ _ _=>(match P.underlying t with|some (.map F _)=>(lP P F).map .mapUpd|_=>none)|.mapEntry t _ _=>(match P.underlying t with|some (.map F e)=>(lP P F).bind λky=>(gg P e).map λz=>.mapEntry t ky z|_=>none)|.entryStore _ _ _ _=>some .entryStore|.range t _=>(match P.underlying t with|some (.map _ _)=>some .rangeM|_=>none)|.next _ false=>some .nextM|.entry _=>some .entryM|.extract _ i=>some (.extract i)|.call c=>(match c.callee with|.value _=>some .call|.builtin b=>aY P b c.argTypes.toList|_=>none)|_=>none
def Tj(o:Oper):Option (Kd×List IA):=do
 let kd←cI P o.op
 let as←mU o.op.operands.toList
 pure (kd,as)
def Em:List Oper->Nat->Bool|[],_=>true|o::os,i=>(o.after.all λe=>!Region.binds .any e||decide (e.on<i))&&Em os (i+1)
def mask(q:List Nat)(o:Oper):Nat:=o.after.toList.foldl (λs e=>if Region.binds .any e then s||| 2^e.on||| q.getD e.on 0 else s) 0
def fl:List Oper->List Nat->List Nat|[],q=>q|o::os,q=>fl os (q++[mask q o])
def fC(ms:List Nat)(i j:Nat):Bool:=(ms.getD (Max.max i j) 0).testBit (Min.min i j)
def xj:IA->Option Nat|.tmp t=>some t|_=>none
def IOp.names(o:IOp):List Nat:=o.dst.toList++o.args.filterMap xj++(o.guard.map (·.1)).toList
def qJ(a b:IOp):Bool:=(match a.dst with|some d=>!b.names.contains d|none=>true)&& (match b.dst with|some d=>!a.names.contains d|none=>true)
def lX(ms:List Nat)(i:Nat)(a:IOp):List IOp->Nat->Bool|[],_=>true|b::l,j=>(fC ms i j||qJ a b)&&lX ms i a l (j+1)
def pD(ms:List Nat):List IOp->Nat->Bool|[],_=>true|a::l,i=>lX ms i a l (i+1)&&pD ms l (i+1)
def gV(ops:Array Oper)(o:Oper):Option IOp:=do
 let (kd,args)←Tj P o
 let guard←match o.guard with
  | none=>pure none
  | some (j,want)=>do pure (some (←(ops[j]?).bind (·.dst),want))
 pure {dst:=o.dst,kd,args,guard,amb:=true,idx:=0,mask:=0}
def Cb(ms:List Nat)(i:Nat):Bool:=(ms.drop i).all λm=>m%2^i=2^i - 1
def mm(l:List IOp):Sg:=if l.length<=1 then .seq else .free
def Kd.isLoad:Kd->Bool|.load _|.slc _ _ _ _=>true|_=>false
def Kd.isLook:Kd->Bool|.lookup _ _ _ false=>true|_=>false
def Kd.light(k:Kd):Bool:=k.pure||k.isLoad||k.isLook
def Kd.isWr:Kd->Bool|.append _ _ _|.mapEntry _ _ _=>true|_=>false
def jK(ms:List Nat)(i:Nat)(ok:Kd->Bool):List IOp->Nat->Bool|[],_=>true|b::l,j=>(i==j||fC ms i j||ok b.kd)&&jK ms i ok l (j+1)
def HW(ms:List Nat)(l:List IOp)(i:Nat)(k:Kd):Bool:=k.isStore||jK ms i Kd.pure l 0||(k.isWr&&jK ms i Kd.light l 0)
def iC(ms:List Nat)(all:List IOp):List IOp->Nat->List IOp|[],_=>[]|o::l,i=>{o with amb:=HW ms all i o.kd,idx:=i,mask:=ms.getD i 0}::iC ms all l (i+1)
def ki(a b:IOp):Bool:=a.kd.light||b.kd.light||(a.kd.isStore&&b.kd.isStore)||(!a.amb&&!b.amb)
def jO(ms:List Nat)(i:Nat)(a:IOp):List IOp->Nat->Bool|[],_=>true|b::l,j=>(fC ms i j||ki a b)&&jO ms i a l (j+1)
def lG(ms:List Nat):List IOp->Nat->Bool|[],_=>true|a::l,i=>jO ms i a l (i+1)&&lG ms l (i+1)
def parts(ms:List Nat):List IOp->Nat->List IOp->List (Sg×List IOp)|[],_,[]=>[]|[],_,q=>[(mm q.reverse,q.reverse)]|o::l,i,q=>if Cb ms (i+1) then(mm (o::q).reverse,(o::q).reverse)::parts ms l (i+1) [] else parts ms l (i+1) (o::q)
def C8(md:Region.Mode)(ops:Array Oper):List Nat->List Nat->Bool|[],seen=>(List.range ops.size).all seen.contains|i::l,seen=>(match ops[i]? with|some o=>o.after.all (λe=>!Region.binds md e||seen.contains e.on)|none=>false)&&C8 md ops l (i::seen)
def ug(ops:Array Oper):Bool:=C8 .any ops (List.range ops.size) []&& (!Region.departs ops||(C8 .text ops (List.range ops.size) []&&C8 .gc ops (Region.linearise .gc ops 0) []))
def cO(ops:Array Oper)(draw:Bool):Option (List (Sg×List IOp)):=do
 let l←ops.toList.mapM (gV P ops)
 if draw then
  let ms:=fl ops.toList []
  let l:=iC ms l l 0
  if ug ops&&Em ops.toList 0&&pD ms l 0&&lG ms l 0 then pure (parts ms l 0 []) else none
 else pure [(.seq,l)]
def aZ:Code→Option IC
 | .skip=>some .skip
 | .region _ ops draw=>(cO P ops draw).map .ops
 | .seq a b=>do pure (.seq (←aZ a) (←aZ b))
 | .cond c a b=>do pure (.cond (←m8 c) (←aZ a) (←aZ b))
 | .block id c=>do pure (.block id (←aZ c))
 | .scope c=>do pure (.scope (←aZ c))
 | .label _=>some .skip
 | .loop c=>do pure (.loop (←aZ c))
 | .rangeFunc f ps asg body=>do pure (.rfn (←m8 f) ps.toList (←aZ asg) (←aZ body))
 | .exit id=>some (.exit id)
 | .ret=>some .ret
 | _=>none
def vY:ResultVar->Option (Nat×Option (Option Nat))|.tmp t=>some (t,none)|.cell a t=>(rE P t).map λn=>(a,some n)
def fU(f:FuncId):Option IFn:=
 match P.funcs[f]? with
 | none=>none
 | some fn=>
   if fn.name=="runtime.NumGoroutine" then none else
   match fn.body with
   | none=>none
   | some c=>do pure ⟨fn.ntmps,←fn.results.toList.mapM (vY P),←aZ P c⟩
end
def IObj.owned:IObj->Bool|.cells true _ _ _=>false|.dead=>false|_=>true
def jD:Jmp->Code|.exit id=>.exit id|.ret=>.ret
def EsR(μ:Mu):List (IV×IV×Nat)->List MapEntry->Prop|[],l=>l=[]|(k,v,s)::A,l=>∃(e:MapEntry) (q:List MapEntry),l=e::q/\VR μ k e.key/\VR μ v e.val/\e.born=s/\EsR μ A q
def EsR.mono{μ q:Mu}(hl:μ.le q):∀{A:List (IV×IV×Nat)}{l:List MapEntry},EsR μ A l->EsR q A l|[],_,h=>h|(k,v,_)::_,_,h=>by obtain⟨e,E,a,b,c,d,f⟩:=h;exact⟨e,E,a,VR.mono hl k _ b,VR.mono hl v _ c,d,EsR.mono hl f⟩
def ObjR(P:Program)(μ:Mu)(o:IObj)(p ez z:Nat)(h:Option Obj):Prop:=match o with|.cells true _ _ cs=>ez=0/\∃(q:Array Value) (e:TypeId) (Z:Nat×Nat),h=some (.cells q e Z)/\p+cs.length<=q.size/\VRs μ cs ((q.toList.drop p).take cs.length)|.cells false e T cs=>p=0/\ez=T/\∃q:Array Value,h=some (.cells q e (0,0))/\q.size=z/\cs.length<=z/\VRs μ cs (q.toList.take cs.length)|.map Y A=>p=0/\∃F:Array MapEntry,h=some (.map F A)/\EsR μ Y F.toList|.loop st pend tm ps O body V=>p=0/\∃L:Loop,h=some (.loop L)/\L.state=st/\L.pending=pend.map jD/\VRs μ tm L.tmps.toList/\L.params.toList=ps/\ aZ P L.assign=some O/\aZ P L.body=some body/\LocR μ V 0 ⟨L.defers,0,none⟩|.deferred=>p=0/\h=some (.deferred (some []))|.taken=>p=0/\h=some (.deferred none)|.iter m E seen I=>p=0/\∃U:Option Nat,h=some (.mapIter U E seen.toArray I)/\VR μ (match m with|none=>.nilMap|some b=>.map b) (.map U)|.dead=>False
def ObjR.mono{P:Program}{μ A:Mu}{o:IObj}{p ez z:Nat}{h:Option Obj}(hl:μ.le A)(k:ObjR P μ o p ez z h):ObjR P A o p ez z h:=by cases o with|cells ro e V cs=>cases ro;{obtain⟨a,b,q,c,d,F,f⟩:=k;exact⟨a,b,q,c,d,F,VRs.mono hl _ _ f⟩};{obtain⟨a,q,F,Y,b,c,f⟩:=k;exact⟨a,q,F,Y,b,c,VRs.mono hl _ _ f⟩}|map es E=>obtain⟨a,I,b,c⟩:=k;exact⟨a,I,b,EsR.mono hl c⟩|loop st pend tm ps U body df=>obtain⟨a,L,b,c,d,e,f,g,i,j⟩:=k;exact⟨a,L,b,c,d,VRs.mono hl _ _ e,f,g,i,j.mono hl⟩|deferred=>exact k|taken=>exact k|iter m O seen T=>obtain⟨a,Z,b,c⟩:=k;exact⟨a,Z,b,VR.mono hl _ _ c⟩|dead=>exact k
def ObjR.some_{P:Program}{μ:Mu}{o:IObj}{p ez z:Nat}{h:Option Obj}(k:ObjR P μ o p ez z h):∃x,h=some x:=by cases o with|cells U e T cs=>cases U;{obtain⟨_,_,A,c,_⟩:=k;exact⟨_,c⟩};{obtain⟨_,A,Y,fz,b,_⟩:=k;exact⟨_,b⟩}|map Z q=>obtain⟨_,O,b,_⟩:=k;exact⟨_,b⟩|loop st pend tm ps I body V=>obtain⟨_,L,b,_⟩:=k;exact⟨_,b⟩|deferred=>exact⟨_,k.2⟩|taken=>exact⟨_,k.2⟩|iter m E seen F=>obtain⟨_,m',b,_⟩:=k;exact⟨_,b⟩|dead=>exact k.elim
abbrev Gt:=Nat->Option IObj
def bu(g:Gt)(b:Nat):Prop:=∃o,g b=some o/\o.owned=true
structure Rel(P:Program)(g0:Nat)(μ:Mu)(g:Gt)(n:Nat)(w:World):Prop where
 lt:∀b,μ b≠.no→b < n
 inj:∀b b' c p ez z p' ez' z',μ b=.at c p ez z→μ b'=.at c p' ez' z'→bu g b→b=b'
 obj:∀b c p ez z,μ b=.at c p ez z→∃o,g b=some o∧ObjR P μ o p ez z w.heap[c]?
 glob:∀i,i < g0→μ i=.at i 0 0 0
 ded:∀b,μ b=.dead→g b=some .dead
structure Post(lo:Nat)(μ:Mu)(g:Gt)(n:Nat)(w:World)(μ':Mu)(g':Gt)(n':Nat)(w':World):Prop where
 le:μ.le μ'
 hn:n≤n'
 old:∀b,b < n→μ b=.no→μ' b=.no
 low:∀b,b < lo→b < n→μ' b=μ b∧g' b=g b
 own:∀b,b < n→bu g' b→bu g b
 new:∀b c p ez z,n≤b→μ' b=.at c p ez z→w.heap.size≤c∨∃b0 p0 ez0 z0,lo≤b0∧b0 < n∧bu g b0∧μ b0=.at c p0 ez0 z0
 full:∀b,n≤b→b < n'→μ' b≠.no
 size:w.heap.size≤w'.heap.size
 frame:∀c,c < w.heap.size→(∀b p ez z,lo≤b→b < n→bu g b→μ b≠.at c p ez z)→w'.heap[c]? =w.heap[c]?
 os:w'.os=w.os
 tape:w'.tape=w.tape
 output:w'.output=w.output
 drawn:w.drawn≤w'.drawn
section
variable {P:Program}{g0 lo n:Nat}{μ:Mu}{g:Gt}{w:World}
def Rel.clt(h:Rel P g0 μ g n w){b c p ez z:Nat}(q:μ b=.at c p ez z):c<w.heap.size:=by obtain⟨o,_,ho⟩:=h.obj b c p ez z q;obtain⟨x,hx⟩:=ho.some_;grind
def Rel.heap_eq{w':World}(h:Rel P g0 μ g n w)(e:w'.heap=w.heap):Rel P g0 μ g n w':=⟨h.lt,h.inj,λb c p ez z q=>by rw[e];exact h.obj b c p ez z q,h.glob,h.ded⟩
def Rel.congr{F:Gt}(h:Rel P g0 μ g n w)(e:∀b,μ b≠.no->F b=g b):Rel P g0 μ F n w where lt:=h.lt;inj:=λb b' c p ez z O A T q E ho=>h.inj b b' c p ez z O A T q E (by obtain⟨o,U,I⟩:=ho;exact⟨o,by grind,I⟩);obj:=λb c p ez z q=>by{rw[e b (by grind)];exact h.obj b c p ez z q};glob:=h.glob;ded:=λb q=>by rw[e b (by grind)];exact h.ded b q
def Rel.more{q:Nat}(h:Rel P g0 μ g n w)(hn:n<=q):Rel P g0 μ g q w:=⟨λb A=>ct (h.lt b A) hn,h.inj,h.obj,h.glob,h.ded⟩
theorem Post.refl(h:Rel P g0 μ g n w):Post lo μ g n w μ g n w where le:=μ.le_refl;hn:=ao _;old:=λ_ _ h=>h;low:=λ_ _ _=>⟨rfl,rfl⟩;own:=λ_ _ h=>h;new:=λb c p ez z E e=>absurd (h.lt b (by grind)) Om;full:=λb q A=>Om;size:=ao _;frame:=λ_ _ _=>rfl;os:=rfl;tape:=rfl;output:=rfl;drawn:=ao _
def Post.trans{n1 n2:Nat}{O ag:Mu}{g1 g2:Gt}{w1 w2:World}(h:Post lo μ g n w O g1 n1 w1)(k:Post lo O g1 n1 w1 ag g2 n2 w2):Post lo μ g n w ag g2 n2 w2 where le:=Mu.le_trans h.le k.le;hn:=di h.hn k.hn;old:=λb F e=>k.old b (ct F h.hn) (h.old b F e);low:=λb hl F=>by{obtain⟨a1,a2⟩:=h.low b hl F;obtain⟨b1,b2⟩:=k.low b hl (ct F h.hn);grind};own:=λb F o=>h.own b F (k.own b (ct F h.hn) o);new:=λb c p ez z F e=>by{have key:∀b0 T A U,lo<=b0->b0<n1->bu g1 b0->O b0=.at c T A U->w.heap.size<=c\/∃b0 T A U,lo<=b0/\b0<n/\bu g b0/\μ b0=.at c T A U:=by{intro b0 T A U V aE ho Y;by_cases q:b0<n;{have E:μ b0≠.no:=λZ=>by{rw[h.old b0 q Z] at Y;cases Y};rcases h.le b0 E with I|I;{exact .inr ⟨b0,T,A,U,V,q,h.own b0 q ho,by rw[<-I];exact Y⟩};{rw[I] at Y;cases Y}};{exact h.new b0 c T A U Om Y}};by_cases q:b<n1;{have E:O b≠.no:=λZ=>by{rw[k.old b q Z] at e;cases e};rcases k.le b E with I|I;{exact h.new b c p ez z F (by rw[<-I];exact e)};{rw[I] at e;cases e}};{rcases k.new b c p ez z Om e with hc|⟨b0,T,A,U,h1,h2,h3,h4⟩;{exact .inl (di h.size hc)};grind}};full:=λb h1 h2=>by{by_cases F:b<n1;{have E:=h.full b h1 F;rcases k.le b E with e|e<;>grind};{exact k.full b Om h2}};size:=di h.size k.size;frame:=λc hc ad=>by{refine(k.frame c (ct hc h.size) λb p ez z V aE ho e=>?_).trans (h.frame c hc ad);by_cases q:b<n;{have E:μ b≠.no:=λZ=>by{rw[h.old b q Z] at e;cases e};rcases h.le b E with I|I;{exact ad b p ez z V q (h.own b q ho) (by rw[<-I];exact e)};{rw[I] at e;cases e}};{rcases h.new b c p ez z Om e with aS|⟨b0,T,A,U,h1,h2,h3,h4⟩<;>grind}};os:=k.os.trans h.os;tape:=k.tape.trans h.tape;output:=k.output.trans h.output;drawn:=di h.drawn k.drawn
def Post.lower{q n1:Nat}{A:Mu}{g1:Gt}{I:World}(hl:lo<=q)(h:Post q μ g n w A g1 n1 I):Post lo μ g n w A g1 n1 I where le:=h.le;hn:=h.hn;old:=h.old;low:=λb a c=>h.low b Om c;own:=h.own;new:=λb c p ez z T e=>by{rcases h.new b c p ez z T e with F|⟨b0,p0,O,z0,V,Y,Z,h4⟩<;>grind};full:=h.full;size:=h.size;frame:=λc F E=>h.frame c F λb p ez z U=>E b p ez z Om;os:=h.os;tape:=h.tape;output:=h.output;drawn:=h.drawn
def Post.same{w':World}(h:Rel P g0 μ g n w)(e:w'.heap=w.heap)(q:w'.os=w.os)(A:w'.tape=w.tape)(E:w'.output=w.output)(F:w.drawn<=w'.drawn:=by first|exact ao _|exact nM _|assumption|(simp;done)|omega):Post lo μ g n w μ g n w' where le:=μ.le_refl;hn:=ao _;old:=λ_ _ h=>h;low:=λ_ _ _=>⟨rfl,rfl⟩;own:=λ_ _ h=>h;new:=λb c p ez z T e=>absurd (h.lt b (by grind)) Om;full:=λb I O=>Om;size:=by{rw[e];exact ao _};frame:=λ_ _ _=>by{rw[e]};os:=q;tape:=A;output:=E;drawn:=F
def Mu.upd(μ:Mu)(b:Nat)(l:Loc):Mu:=λx=>if x=b then l else μ x
theorem aD(μ:Mu)(b:Nat)(l:Loc):μ.upd b l b=l:=by simp[Mu.upd]
theorem aH(μ:Mu){b x:Nat}(l:Loc)(h:x≠b):μ.upd b l x=μ x:=by simp[Mu.upd,h]
def Mu.le_upd(μ:Mu){b:Nat}(l:Loc)(h:μ b=.no):μ.le (μ.upd b l):=λx hx=>by left;refine aH _ _ λe=>hx (by rw[e];exact h)
def Mu.le_kill(μ:Mu)(b:Nat):μ.le (μ.upd b .dead):=λx hx=>by grind[aD,aH]
def Rel.fresh(h:Rel P g0 μ g n w):μ n=.no:=by cases e:μ n with|no=>rfl|dead=>exact absurd (h.lt n (by grind)) Om|«at» c p ez z=>exact absurd (h.lt n (by grind)) Om
theorem Vd(h:Array Obj)(ob:Obj):(h.push ob)[h.size]? =some ob:=by simp
def FV(h:Array Obj)(ob:Obj){c:Nat}(q:c<h.size):(h.push ob)[c]? =h[c]?:=by grind
def Rel.alloc{H:Heap}(h:Rel P g0 μ H.get H.n w){w':World}{ob:Obj}{o:IObj}{ez z:Nat}(Y:w'.heap=w.heap.push ob)(ho:ObjR P (μ.upd H.n (.at w.heap.size 0 ez z)) o 0 ez z (some ob))(Z:w'.os=w.os)(e2:w'.tape=w.tape)(e3:w'.output=w.output)(e4:w.drawn<=w'.drawn:=by first|exact ao _|exact nM _|assumption|(simp;done)|omega):Rel P g0 (μ.upd H.n (.at w.heap.size 0 ez z)) (H.new o).get (H.new o).n w'/\ Post lo μ H.get H.n w (μ.upd H.n (.at w.heap.size 0 ez z)) (H.new o).get (H.new o).n w':=by have O:=h.fresh;have I:=μ.le_upd (.at w.heap.size 0 ez z) O;have old:∀b,b≠H.n->(H.new o).get b=H.get b:=λb q=>by{rw[ak,if_neg (Ne.symm q)]};have ad:(H.new o).get H.n=some o:=by{rw[ak,if_pos rfl]};refine⟨⟨λb q=>?_,?_,?_,λi hi=>?_,λb q=>?_⟩,⟨I,by rw[ac];omega,λb q e=>?_,λb _ q=>?_,λb q ho=>?_,λb c p ez z q e=>?_,λb h1 h2=>?_,?_,λc hc _=>?_,Z,e2,e3,e4⟩⟩;{rw[ac];by_cases e:b=H.n;{omega};{rw[aH _ _ e] at q;have:=h.lt b q;omega}};{intro b b' c p ez z p' E V q A T;by_cases e:b=H.n;{subst e;rw[aD] at q;by_cases F:b'=H.n;{exact F.symm};{rw[aH _ _ F] at A;have:=h.clt A;grind}};{rw[aH _ _ e] at q;by_cases F:b'=H.n;{subst F;rw[aD] at A;have:=h.clt q;grind};{rw[aH _ _ F] at A;refine h.inj b b' c p ez z p' E V q A ?_;obtain⟨x,hx,U⟩:=T;exact⟨x,by rw[<-old b e];exact hx,U⟩}}};{intro b c p E V q;by_cases e:b=H.n;{grind[aD,Vd]};{rw[aH _ _ e] at q;obtain⟨x,hx,hr⟩:=h.obj b c p E V q;refine⟨x,by rw[old b e];exact hx,?_⟩;rw[Y,FV _ _ (h.clt q)];exact hr.mono I}};{have hn:μ i≠.no:=by{rw[h.glob i hi];exactλx=>by cases x};rw[aH _ _ (Oh (h.lt i hn))];exact h.glob i hi};{by_cases e:b=H.n;{grind[aD]};{rw[aH _ _ e] at q;rw[old b e];exact h.ded b q}};{grind[aH]};{grind[aH]};{obtain⟨x,hx,U⟩:=ho;exact⟨x,by grind,U⟩};{by_cases eb:b=H.n;{grind[aD]};{rw[aH _ _ eb] at e;exact absurd (h.lt b (by grind)) Om}};{grind[ac,aD]};{grind};{rw[Y,FV _ _ hc]}
def Rel.update{H:Heap}(h:Rel P g0 μ H.get H.n w){w':World}{b c p ez z:Nat}{o:IObj}(T:μ b=.at c p ez z)(aS:lo<=b)(F:bu H.get b)(a5:w'.heap.size=w.heap.size)(A:∀c',c'≠c->w'.heap[c']? =w.heap[c']?)(ho:ObjR P μ o p ez z w'.heap[c]?)(e1:w'.os=w.os)(e2:w'.tape=w.tape)(e3:w'.output=w.output)(e4:w.drawn<=w'.drawn:=by first|exact ao _|exact nM _|assumption|(simp;done)|omega):Rel P g0 μ (H.put b o).get (H.put b o).n w'/\Post lo μ H.get H.n w μ (H.put b o).get (H.put b o).n w':=by have old:∀x,x≠b->(H.put b o).get x=H.get x:=λx hx=>by{rw[aa,if_neg (Ne.symm hx)]};have ad:(H.put b o).get b=some o:=by{rw[aa,if_pos rfl]};have ag:b<H.n:=h.lt b (by rw[T];exactλx=>by cases x);have E:∀x,bu (H.put b o).get x->bu H.get x:=λx hx=>by{by_cases e:x=b;{subst e;exact F};{obtain⟨y,Z,hz⟩:=hx;exact⟨y,by rw[<-old x e];exact Z,hz⟩}};refine⟨⟨h.lt,λx x' c1 I q O p2 U z2 hx Y V=>h.inj x x' c1 I q O p2 U z2 hx Y (E x V),λx c1 I q O hx=>?_,h.glob,λx hx=>by rw[old x (λe=>by subst e;rw[T] at hx;cases hx)];exact h.ded x hx⟩,⟨μ.le_refl,ao _,λ_ _ e=>e,λx a6 _=>⟨rfl,old x Om⟩,λx _ hx=>E x hx,λx c1 I q O hx e=>absurd (h.lt x (by rw[e];exactλy=>by cases y)) Om,λx h1 h2=>by rw[ae] at h2;omega,Om,λc1 aE a0=>A c1 λe=>?_,e1,e2,e3,e4⟩⟩;{by_cases e:x=b;{subst e;rw[T] at hx;injection hx with a1 a2 a3 a4;subst a1 a2 a3 a4;exact⟨o,ad,ho⟩};{obtain⟨y,Z,hr⟩:=h.obj x c1 I q O hx;refine⟨y,by rw[old x e];exact Z,?_⟩;rw[A c1 λec=>e ?_];{exact hr};{subst ec;exact(h.inj b x c1 p ez z I q O T hx F).symm}}};grind
def Rel.kill{H:Heap}(h:Rel P g0 μ H.get H.n w){b:Nat}(ad:lo<=b)(hg:g0<=b)(Z:μ b≠.no):Rel P g0 (μ.upd b .dead) (H.put b .dead).get (H.put b .dead).n w/\Post lo μ H.get H.n w (μ.upd b .dead) (H.put b .dead).get (H.put b .dead).n w:=by have old:∀x,x≠b->(H.put b .dead).get x=H.get x:=λx hx=>by{rw[aa,if_neg (Ne.symm hx)]};have I:(H.put b .dead).get b=some .dead:=by{rw[aa,if_pos rfl]};have T:b<H.n:=h.lt b Z;have F:=μ.le_kill b;have q:∀x c p ez z,μ.upd b .dead x=.at c p ez z->x≠b/\μ x=.at c p ez z:=λx c p ez z hx=>by{by_cases e:x=b;{subst e;rw[aD] at hx;cases hx};{rw[aH _ _ e] at hx;exact⟨e,hx⟩}};have A:∀x,bu (H.put b .dead).get x->bu H.get x:=λx hx=>by{by_cases e:x=b;{subst e;obtain⟨y,E,V⟩:=hx;rw[I] at E;injection E with E;subst E;cases V};{obtain⟨y,E,V⟩:=hx;exact⟨y,by rw[<-old x e];exact E,V⟩}};refine⟨⟨λx hx=>?_,λx x' c p ez z p' O z' hx U ho=>h.inj x x' c p ez z p' O z' (q _ _ _ _ _ hx).2 (q _ _ _ _ _ U).2 (A x ho),λx c p ez z hx=>?_,λi hi=>?_,λx hx=>?_⟩,⟨F,ao _,λx hx e=>?_,λx ag hx=>⟨aH _ _ Om,old x Om⟩,λx _ hx=>A x hx,λx c p ez z hx e=>absurd (h.lt x (by rw[(q _ _ _ _ _ e).2];exactλy=>by cases y)) Om,λx h1 Y=>by rw[ae] at Y;omega,ao _,λ_ _ _=>rfl,rfl,rfl,rfl,ao _⟩⟩;{by_cases e:x=b;{subst e;exact T};{rw[aH _ _ e] at hx;exact h.lt x hx}};{obtain⟨e,hx⟩:=q _ _ _ _ _ hx;obtain⟨y,E,hr⟩:=h.obj x c p ez z hx;exact⟨y,by rw[old x e];exact E,hr.mono F⟩};{rw[aH _ _ Om];exact h.glob i hi};{by_cases e:x=b;{subst e;exact I};{rw[aH _ _ e] at hx;rw[old x e];exact h.ded x hx}};grind[absurd,aH]
def Rel.regrow{H:Heap}(h:Rel P g0 μ H.get H.n w){w':World}{b c ez z:Nat}{o:IObj}(hb:μ b=.at c 0 ez z)(a0:lo<=b)(hg:g0<=b)(O:bu H.get b)(bc:w'.heap.size=w.heap.size)(U:∀c',c'≠c->w'.heap[c']? =w.heap[c']?)(ho:ObjR P ((μ.upd b .dead).upd H.n (.at c 0 ez z)) o 0 ez z w'.heap[c]?)(e1:w'.os=w.os)(e2:w'.tape=w.tape)(e3:w'.output=w.output)(e4:w.drawn<=w'.drawn:=by first|exact ao _|exact nM _|assumption|(simp;done)|omega):Rel P g0 ((μ.upd b .dead).upd H.n (.at c 0 ez z)) ((H.put b .dead).new o).get ((H.put b .dead).new o).n w'/\ Post lo μ H.get H.n w ((μ.upd b .dead).upd H.n (.at c 0 ez z)) ((H.put b .dead).new o).get ((H.put b .dead).new o).n w':=by have aS:b<H.n:=h.lt b (by rw[hb];exactλx=>by cases x);have old:∀x,x≠b->x≠H.n->((H.put b .dead).new o).get x=H.get x:=λx hx I=>by{rw[ak,if_neg (by rw[ae];exact Ne.symm I),aa,if_neg (Ne.symm hx)]};have a7:((H.put b .dead).new o).get H.n=some o:=by{rw[ak,ae,if_pos rfl]};have aE:((H.put b .dead).new o).get b=some .dead:=by{rw[ak,ae,iN,aa,if_pos rfl]};have mb:(μ.upd b .dead).upd H.n (.at c 0 ez z) b=.dead:=by{rw[aH _ _ Om,aD]};have mn:(μ.upd b .dead).upd H.n (.at c 0 ez z) H.n=.at c 0 ez z:=aD _ _ _;have Z:∀x,x≠b->x≠H.n->(μ.upd b .dead).upd H.n (.at c 0 ez z) x=μ x:=λx hx I=>by{rw[aH _ _ I,aH _ _ hx]};have ag:μ.le ((μ.upd b .dead).upd H.n (.at c 0 ez z)):=λx hx=>by{by_cases e:x=b;{subst e;exact .inr mb};{exact .inl (Z x e λE=>by subst E;exact hx h.fresh)}};have q:∀x c' p' T z',(μ.upd b .dead).upd H.n (.at c 0 ez z) x=.at c' p' T z'->(x=H.n/\c'=c/\p'=0/\T=ez/\z'=z)\/(x≠b/\x≠H.n/\μ x=.at c' p' T z'):=by{intro x c' p' T z' hx;by_cases e:x=H.n;{subst e;rw[mn] at hx;injection hx with A a2 a3 a4;exact .inl ⟨rfl,A.symm,a2.symm,a3.symm,a4.symm⟩};{by_cases E:x=b;{subst E;rw[mb] at hx;cases hx};{rw[Z x E e] at hx;exact .inr ⟨E,e,hx⟩}}};have V:∀x,x<H.n->bu ((H.put b .dead).new o).get x->bu H.get x:=λx hx Y=>by{obtain⟨y,hy,hz⟩:=Y;by_cases e:x=b;{subst e;exact O};{exact⟨y,by rw[<-old x e Om];exact hy,hz⟩}};refine⟨⟨λx hx=>?_,λx x' c1 p1 F z1 p2 ad z2 hx I a6=>?_,λx c1 p1 F z1 hx=>?_,λi hi=>?_,λx hx=>?_⟩,⟨ag,by rw[ac,ae];omega,λx hx e=>?_,λx bd hx=>⟨Z x Om Om,old x Om Om⟩,λx hx Y=>V x hx Y,λx c1 p1 F z1 hx e=>?_,λx h1 h2=>?_,Om,λc1 a8 a9=>U c1 λe=>?_,e1,e2,e3,e4⟩⟩;{rw[ac,ae];by_cases e:x=H.n;{omega};{by_cases E:x=b;{omega};{rw[Z x E e] at hx;have:=h.lt x hx;omega}}};{rcases q _ _ _ _ _ hx with⟨a,A,-⟩|⟨a,a',A⟩;{rcases q _ _ _ _ _ I with⟨d,-⟩|⟨d,d',d1⟩;{rw[a,d]};{subst A;exact absurd (h.inj b x' c1 0 ez z p2 ad z2 hb d1 O).symm d}};{have a5:=h.lt x (by rw[A];exactλx=>by cases x);rcases q _ _ _ _ _ I with⟨d,d1,-⟩|⟨d,d',d1⟩;{subst d1;exact absurd (h.inj b x c1 0 ez z p1 F z1 hb A O).symm a};{exact h.inj x x' c1 p1 F z1 p2 ad z2 A d1 (V x a5 a6)}}};{rcases q _ _ _ _ _ hx with⟨a,A,a2,a3,a4⟩|⟨a,a',A⟩;{subst a A a2 a3 a4;exact⟨o,a7,ho⟩};{obtain⟨y,hy,hr⟩:=h.obj x c1 p1 F z1 A;refine⟨y,by rw[old x a a'];exact hy,?_⟩;rw[U c1 λec=>a ?_];{exact hr.mono ag};{subst ec;exact(h.inj b x c1 0 ez z p1 F z1 hb A O).symm}}};{have hn:μ i≠.no:=by{rw[h.glob i hi];exactλx=>by cases x};rw[Z i Om (Oh (h.lt i hn))];exact h.glob i hi};{by_cases e:x=b;{subst e;exact aE};{by_cases E:x=H.n;{subst E;rw[mn] at hx;cases hx};{rw[Z x e E] at hx;rw[old x e E];exact h.ded x hx}}};{by_cases E:x=b;{subst E;rw[hb] at e;cases e};{rw[Z x E Om];exact e}};{rcases q _ _ _ _ _ e with⟨a,A,-⟩|⟨a,a',A⟩;{subst A;exact .inr ⟨b,0,ez,z,a0,aS,O,hb⟩};{exact absurd (h.lt x (by rw[A];exactλy=>by cases y)) Om}};{have e:x=H.n:=by{rw[ac,ae] at h2;omega};subst e;rw[mn];exactλx=>by cases x};grind
end
section
variable {P:Program}{g0 lo:Nat}{μ:Mu}{H:Heap}{w:World}
def Gives(P:Program)(g0 lo:Nat)(μ:Mu)(H:Heap)(w:World)(s:Sem Next)(v:IV)(H':Heap):Prop:=∃(nx:Next) (v':Value) (w':World) (q:Mu),s.run P w=.ok nx w'/\(nx=.value v'\/(nx=.skip/\v'=undef))/\ Rel P g0 q H'.get H'.n w'/\Post lo μ H.get H.n w q H'.get H'.n w'/\VR q v v'
def Gives.pure(h:Rel P g0 μ H.get H.n w){s:Sem Next}{v:IV}{v':Value}(hr:s.run P w=.ok (.value v') w)(q:VR μ v v'):Gives P g0 lo μ H w s v H:=⟨_,v',w,μ,hr,.inl rfl,h,Post.refl h,q⟩
def bO{x:IV}{l:List Value}(h:VRs μ [x] l):∃a,l=[a]/\VR μ x a:=by obtain⟨a,l1,rfl,q,A⟩:=h;cases A;exact⟨a,rfl,q⟩
def bT{x y:IV}{l:List Value}(h:VRs μ [x,y] l):∃a b,l=[a,b]/\VR μ x a/\VR μ y b:=by obtain⟨a,l1,rfl,q,A⟩:=h;obtain⟨b,rfl,E⟩:=bO A;exact⟨a,b,rfl,q,E⟩
def mX{x y z:IV}{l:List Value}(h:VRs μ [x,y,z] l):∃a b c,l=[a,b,c]/\VR μ x a/\VR μ y b/\VR μ z c:=by obtain⟨a,l1,rfl,A,q⟩:=h;obtain⟨b,c,rfl,E,F⟩:=bT q;grind
def hZ{k:IntKind}{n:Int}{v:Value}(h:VR μ (.int k n) v):v=.int k n:=h
def km{b:Bool}{v:Value}(h:VR μ (.bool b) v):v=.bool b:=h
def MC{s:List UInt8}{v:Value}(h:VR μ (.str s) v):v=.string ⟨⟨s⟩⟩:=h
def bD{t:TypeId}{n:Nat}(h:bj P t=some n)(w:World):(sizeOf t).run P w=.ok n w:=by unfold bj at h;cases hi:P.info? t<;>simp_all[sizeOf,typeInfo]
def xU{t:TypeId}{n:Nat}(h:bj P t=some n):∃i,P.info? t=some i/\i.size=n:=by unfold bj at h;cases hi:P.info? t with|none=>rw[hi] at h;cases h|some i=>rw[hi] at h;injection h with h;exact⟨i,rfl,h⟩
def we{t:TypeId}{n:Nat}(h:lD P t=some n):∃i,P.info? t=some i/\i.bytes=n:=by unfold lD at h;cases hi:P.info? t with|none=>rw[hi] at h;cases h|some i=>rw[hi] at h;injection h with h;exact⟨i,rfl,h⟩
def vX:∀(n:Nat)(v:Value)(x:IV),qG n v=some x->∀μ:Mu,VR μ x v:=by intro n;induction n with|zero=>intro v x h;cases h|succ n E=>intro v x h μ;unfold qG at h;split at h;{injection h with h;subst h;rfl};{injection h with h;subst h;rfl};{injection h with h;subst h;rfl};{injection h with h;subst h;rfl};{injection h with h;subst h;rfl};{injection h with h;subst h;rfl};{injection h with h;subst h;rfl};{injection h with h;subst h;rfl};{rename_i cs;cases hm:List.mapM (qG n) cs.toList with|none=>rw[hm] at h;cases h|some l=>rw[hm] at h;injection h with h;subst h;refine⟨cs,rfl,?_⟩;have key:∀(vs:List Value)(l:List IV),vs.mapM (qG n)=some l->VRs μ l vs:=by{intro vs;induction vs with|nil=>intro l hl;simp at hl;subst hl;rfl|cons a vs A=>intro l hl;simp only[qT] at hl;cases q:qG n a with|none=>rw[q] at hl;cases hl|some x=>rw[q] at hl;cases hr:vs.mapM (qG n) with|none=>rw[hr] at hl;cases hl|some xs=>rw[hr] at hl;injection hl with hl;subst hl;exact⟨a,vs,rfl,E a x q μ,A xs hr⟩};exact key _ _ hm};{cases h}
def iz{t:TypeId}{z:IV}(h:gg P t=some z):∃i q,P.info? t=some i/\i.zero=some q/\∀μ:Mu,VR μ z q:=by unfold gg at h;cases hi:P.info? t with|none=>rw[hi] at h;cases h|some i=>rw[hi] at h;cases A:i.zero with|none=>simp[A] at h|some q=>simp[A] at h;exact⟨i,q,rfl,A,vX 3 q z h⟩
def VR.cells_{x:IV}{v:Value}(h:VR μ x v):VRs μ x.cells v.cells.toList:=by cases x with|agg l=>obtain⟨A,rfl,hl⟩:=h;exact hl|ptr b o=>obtain⟨a,rfl,q⟩:=h;exact⟨_,_,rfl,⟨a,rfl,q⟩,rfl⟩|slice b o n lb ex=>obtain⟨a,c,rfl,q⟩:=h;exact⟨_,_,rfl,⟨a,c,rfl,q⟩,rfl⟩|map b=>obtain⟨a,rfl,q⟩:=h;exact⟨_,_,rfl,⟨a,rfl,q⟩,rfl⟩|fn f a b=>obtain⟨l,r,rfl,q⟩:=h;exact⟨_,_,rfl,⟨l,r,rfl,q⟩,rfl⟩|yield b=>obtain⟨a,rfl,q⟩:=h;exact⟨_,_,rfl,⟨a,rfl,q⟩,rfl⟩|iface t x=>obtain⟨a,rfl,q⟩:=h;exact⟨_,_,rfl,⟨a,rfl,q⟩,rfl⟩|tuple l=>obtain⟨A,rfl,hl⟩:=h;exact⟨_,_,rfl,⟨A,rfl,hl⟩,rfl⟩|bool b=>cases h;exact⟨_,_,Rr⟩|int k n=>cases h;exact⟨_,_,Rr⟩|str s=>cases h;exact⟨_,_,Rr⟩|nilPtr=>cases h;exact⟨_,_,Rr⟩|nilSlice=>cases h;exact⟨_,_,Rr⟩|nilMap=>cases h;exact⟨_,_,Rr⟩|nilFunc=>cases h;exact⟨_,_,Rr⟩|nilIface=>cases h;exact⟨_,_,Rr⟩
def VR.one_cell{x:IV}{v:Value}(h:VR μ x v)(ho:x.one=true):v.oneCell'=true:=by cases x with|agg l=>cases ho|tuple l=>cases ho|ptr b o=>obtain⟨a,rfl,q⟩:=h;rfl|slice b o n lb ex=>obtain⟨a,c,rfl,q⟩:=h;rfl|map b=>obtain⟨a,rfl,q⟩:=h;rfl|fn f a b=>obtain⟨l,r,rfl,q⟩:=h;rfl|yield b=>obtain⟨a,rfl,q⟩:=h;rfl|iface t x=>obtain⟨a,rfl,q⟩:=h;rfl|_=>cases h;rfl
def VRs.one_cells:∀{l:List IV}{A:List Value},VRs μ l A->l.all IV.one=true->∀v∈A,v.oneCell'=true|[],_,h,_,v,q=>by cases h;cases q|x::xs,_,h,ho,v,q=>by obtain⟨y,ys,rfl,E,F⟩:=h;simp only[lJ,bR] at ho;cases q with|head=>exact E.one_cell ho.1|tail _ q=>exact VRs.one_cells F ho.2 v q
end
section
variable {P:Program}{g0 lo:Nat}{μ:Mu}{H:Heap}{w:World}{ρ:Operand->Value}{type:TypeId}{pos:String}{dst:Option Tmp}{after:Array Edge}{guard:Option (Nat×Bool)}{xs:List IV}{v:IV}{H':Heap}
def Q6(h:Rel P g0 μ H.get H.n w){x:Operand}(q:ev1 .move xs lo H=some (v,H'))(hx:VRs μ xs [ρ x]):Gives P g0 lo μ H w (execOp ρ ⟨dst,.move x,type,pos,after,guard⟩) v H'/\Gives P g0 lo μ H w (execOp ρ ⟨dst,.assign x,type,pos,after,guard⟩) v H':=by simp only[ev1] at q;split at q;{injection q with q;injection q with A E;subst A E;obtain⟨y,I,F⟩:=bO hx;simp_all[Gives.pure,execOp]};{cases q}
def X7(h:Rel P g0 μ H.get H.n w){c a b:Operand}(q:ev1 .pick xs lo H=some (v,H'))(hx:VRs μ xs [ρ c,ρ a,ρ b]):Gives P g0 lo μ H w (execOp ρ ⟨dst,.pick c a b,type,pos,after,guard⟩) v H':=by simp only[ev1] at q;split at q;{rename_i c1 U b1;injection q with q;injection q with F I;subst F I;obtain⟨V,Y,Z,E,A,O,T⟩:=mX hx;simp only[fP,and_true] at E;obtain⟨rfl,rfl,rfl⟩:=E;cases c1;{exact Gives.pure h (v':=ρ b) (by simp[execOp,km A,asBool]) (by simpa using T)};{exact Gives.pure h (v':=ρ a) (by simp[execOp,km A,asBool]) (by simpa using O)}};{cases q}
def Jf(h:Rel P g0 μ H.get H.n w){x:Operand}(A:ev1 .nilCheck xs lo H=some (v,H'))(hx:VRs μ xs [ρ x]):Gives P g0 lo μ H w (execOp ρ ⟨dst,.nilCheck x,type,pos,after,guard⟩) v H':=by simp only[ev1] at A;split at A;{rename_i a;obtain⟨y,E,q⟩:=bO hx;injection E with E;subst E;cases a<;>simp only[reduceCtorEq] at A<;>(injection A with A;injection A with F I;subst F I);(case fn f l r=>obtain⟨O,T,e,hl⟩:=q;exact Gives.pure h (v':=ρ x) (by simp[execOp,e]) ⟨O,T,e,hl⟩);(case ptr b o=>obtain⟨a,e,hl⟩:=q;exact Gives.pure h (v':=ρ x) (by simp[execOp,e]) ⟨a,e,hl⟩);(case slice b o n lb ex=>obtain⟨a,c,e,hl⟩:=q;exact Gives.pure h (v':=ρ x) (by simp[execOp,e]) ⟨a,c,e,hl⟩);(case map b=>obtain⟨a,e,hl⟩:=q;exact Gives.pure h (v':=ρ x) (by simp[execOp,e]) ⟨a,e,hl⟩);(case iface t u=>obtain⟨a,e,hl⟩:=q;exact Gives.pure h (v':=ρ x) (by simp[execOp,e]) ⟨a,e,hl⟩);(case agg l=>obtain⟨a,e,hl⟩:=q;exact Gives.pure h (v':=ρ x) (by simp[execOp,e]) ⟨a,e,hl⟩);(case tuple l=>obtain⟨a,e,hl⟩:=q;exact Gives.pure h (v':=ρ x) (by simp[execOp,e]) ⟨a,e,hl⟩);all_goals have e:ρ x=_:=q;exact Gives.pure h (v':=ρ x) (by simp[execOp,e]) e};{cases A}
def TA{op:BinOp}{k A:IntKind}{a b:Int}{r:IV}(hr:nm op (.int k a) (.int A b)=some r)(t:TypeId):∃E:Value,(binOp op t (.int k a) (.int A b)).run P w=.ok E w/\∀μ:Mu,VR μ r E:=by cases op<;>simp only[nm] at hr;(case shl=>by_cases q:b<0;{grind};{rw[if_neg q] at hr;injection hr with hr;subst hr;exact⟨_,by simp[binOp,Op.shift,q],λ_=>rfl⟩});(case shr=>by_cases q:b<0;{grind};{rw[if_neg q] at hr;injection hr with hr;subst hr;exact⟨_,by simp[binOp,Op.shift,q],λ_=>rfl⟩});all_goals by_cases F:k=A;{subst F;simp only[if_true] at hr;first|(injection hr with hr;subst hr;exact⟨_,by simp[binOp,Op.intArith,Op.intBits,Op.intCmp]<;>rfl,λ_=>rfl⟩)|(by_cases q:b=0;{grind};{rw[if_neg q] at hr;injection hr with hr;subst hr;exact⟨_,by simp[binOp,Op.intDiv,q]<;>rfl,λ_=>rfl⟩})};{grind}
def HL{s:ByteArray}{l:List UInt8}(h:s.data.toList=l):s=⟨⟨l⟩⟩:=by subst h;rfl
def MV(l:List UInt8):(ByteArray.mk (Array.mk l)).toList=l:=by rw[ByteArray.toList_eq]
def Tz{op:BinOp}{a b:List UInt8}{r:IV}(hr:nm op (.str a) (.str b)=some r)(t:TypeId):∃q:Value,(binOp op t (.string ⟨⟨a⟩⟩) (.string ⟨⟨b⟩⟩)).run P w=.ok q w/\∀μ:Mu,VR μ r q:=by cases op<;>simp only[nm,reduceCtorEq] at hr;(case add=>split at hr;{rename_i hl;injection hr with hr;subst hr;refine⟨.string (⟨⟨a⟩⟩++⟨⟨b⟩⟩),?_,λ_=>?_⟩;{have I:¬((((ByteArray.mk ⟨a⟩).size+(ByteArray.mk ⟨b⟩).size:Nat):Int)>IntKind.i64.max):=by{have A:(ByteArray.mk ⟨a⟩).size=a.length:=rfl;have E:(ByteArray.mk ⟨b⟩).size=b.length:=rfl;have F:IntKind.i64.max=9223372036854775807:=rfl;rw[A,E,F];omega};simp_all[binOp,Op.stringOp,if_neg]};{show Value.string _=Value.string _;exact congrArg Value.string (HL (by simp))}};{cases hr});all_goals injection hr with hr;subst hr;exact⟨_,by simp[binOp,Op.stringOp,MV]<;>rfl,λ_=>rfl⟩
def iF{op:BinOp}{t:TypeId}{x y:Operand}{a b:Value}(q:∀cs,a≠.agg cs)(A:a≠.nilIface):(eqGuard op t x y a b).run P w=.ok () w:=by simp_all[eqGuard]
def Rf(h:Rel P g0 μ H.get H.n w){op:BinOp}{t Y:TypeId}{x y:Operand}(A:ev1 (.bin op) xs lo H=some (v,H'))(hx:VRs μ xs [ρ x,ρ y]):Gives P g0 lo μ H w (execOp ρ ⟨dst,.binOp op t x y Y,type,pos,after,guard⟩) v H':=by simp only[ev1] at A;split at A;{rename_i a b;obtain⟨y1,y2,T,I,O⟩:=bT hx;simp only[fP,and_true] at T;obtain⟨rfl,rfl⟩:=T;cases hr:nm op a b with|none=>rw[hr] at A;cases A|some r=>rw[hr] at A;injection A with A;injection A with U V;subst U V;cases a with|int k n=>(cases b with|int Z m=>obtain⟨F,q,E⟩:=TA (P:=P) (w:=w) hr t;refine Gives.pure h (v':=F) ?_ (E μ);simp only[execOp,hZ I,hZ O];simp[iF,q]|_=>cases op<;>simp[nm] at hr)|str s=>(cases b with|str s'=>obtain⟨F,q,E⟩:=Tz (P:=P) (w:=w) hr t;refine Gives.pure h (v':=F) ?_ (E μ);simp only[execOp,MC I,MC O];simp[iF,q]|_=>cases op<;>simp[nm] at hr)|_=>cases op<;>simp[nm] at hr};{cases A}
def Ra(h:Rel P g0 μ H.get H.n w){op:BinOp}{neg:Bool}{t Z:TypeId}{x y:Operand}(Y:P.underlying t=some .bool)(F:op=.eql/\neg=false\/op=.neq/\neg=true)(A:ev1 (.eqBool neg) xs lo H=some (v,H'))(hx:VRs μ xs [ρ x,ρ y]):Gives P g0 lo μ H w (execOp ρ ⟨dst,.binOp op t x y Z,type,pos,after,guard⟩) v H':=by simp only[ev1] at A;split at A;{rename_i a b;injection A with A;injection A with U V;subst U V;obtain⟨y1,y2,T,I,O⟩:=bT hx;simp only[fP,and_true] at T;obtain⟨rfl,rfl⟩:=T;have E:∀d:Nat,(Op.equalIn (d+1) t (.bool a) (.bool b)).run P w=.ok (a==b) w:=λd=>by{simp[Op.equalIn,run_underlying Y]};have q:(Op.equal t (.bool a) (.bool b)).run P w=.ok (a==b) w:=E 9999;rcases F with⟨rfl,rfl⟩|⟨rfl,rfl⟩;{refine Gives.pure h (v':=.bool (a==b)) ?_ (by simp[VR]);simp only[execOp,km I,km O];simp[iF,binOp,q]};{refine Gives.pure h (v':=.bool (!(a==b))) ?_ (by simp[VR]);simp only[execOp,km I,km O];simp[iF,binOp,q]}};{cases A}
def adB(h:Rel P g0 μ H.get H.n w){op:UnOp}{t:TypeId}{x:Operand}(q:ev1 (.un op) xs lo H=some (v,H'))(hx:VRs μ xs [ρ x]):Gives P g0 lo μ H w (execOp ρ ⟨dst,.unOp op t x,type,pos,after,guard⟩) v H':=by simp only[ev1] at q;split at q;{rename_i a;obtain⟨y,A,E⟩:=bO hx;injection A with A;subst A;cases hr:XT op a with|none=>rw[hr] at q;cases q|some r=>rw[hr] at q;injection q with q;injection q with F I;subst F I;cases a with|int k n=>have e:=hZ E;cases op<;>simp[XT] at hr<;>subst hr;{exact Gives.pure h (by simp[execOp,e,Op.unary,Op.intArith]<;>rfl) rfl};{exact Gives.pure h (by simp[execOp,e,Op.unary,Op.intBits]<;>rfl) rfl}|bool b=>have e:=km E;cases op<;>simp[XT] at hr;subst hr;exact Gives.pure h (by simp[execOp,e,Op.unary]<;>rfl) rfl|_=>simp[XT] at hr};{cases q}
def Yc(h:Rel P g0 μ H.get H.n w){k k0:IntKind}{s d:TypeId}{x:Operand}(hs:P.underlying s=some (.int k0))(hd:P.underlying d=some (.int k))(q:ev1 (.conv k) xs lo H=some (v,H'))(hx:VRs μ xs [ρ x]):Gives P g0 lo μ H w (execOp ρ ⟨dst,.convert s d x,type,pos,after,guard⟩) v H':=by simp only[ev1] at q;split at q;{rename_i O n;injection q with q;injection q with E F;subst E F;obtain⟨y,A,I⟩:=bO hx;injection A with A;subst A;exact Gives.pure h (by simp[execOp,hZ I,convert,run_underlying hs,run_underlying hd,Conv.intToInt]<;>rfl) rfl};{cases q}
def X9(h:Rel P g0 μ H.get H.n w){f:FuncId}{q cap:Array Operand}(A:ev1 (.mkfn f q.size) xs lo H=some (v,H'))(hx:VRs μ xs ((q++cap).toList.map ρ)):Gives P g0 lo μ H w (execOp ρ ⟨dst,.makeFunc (.func f) q cap,type,pos,after,guard⟩) v H':=by simp only[ev1] at A;injection A with A;injection A with E F;subst E F;refine Gives.pure h (v':=.func (.func f) (q.map ρ) (cap.map ρ)) (by simp[execOp,Instr.makeFunc]) ⟨_,_,rfl,?_,?_⟩;{have:=hx.take q.size;simp_all[List.take,List.map_take,List.take_append]};{have:=hx.drop q.size;simp_all[List.drop,yF]}
def Np(h:Rel P g0 μ H.get H.n w){i:Nat}{x:Operand}(q:ev1 (.extract i) xs lo H=some (v,H'))(hx:VRs μ xs [ρ x]):Gives P g0 lo μ H w (execOp ρ ⟨dst,.extract x i,type,pos,after,guard⟩) v H':=by simp only[ev1] at q;split at q;{rename_i l;cases hl:l[i]? with|none=>rw[hl] at q;cases q|some r=>rw[hl] at q;injection q with q;injection q with I O;subst I O;obtain⟨y,F,U⟩:=bO hx;injection F with F;subst F;obtain⟨V,e,hr⟩:=U;obtain⟨u,T,E⟩:=hr.get hl;have A:V[i]? =some u:=by{simpa using T};exact Gives.pure h (v':=u) (by simp[execOp,e,Instr.extract,A]) E};{cases q}
end
section
variable {P:Program}{g0 lo:Nat}{μ:Mu}{H:Heap}{w:World}{ρ:Operand->Value}{type:TypeId}{pos:String}{dst:Option Tmp}{after:Array Edge}{guard:Option (Nat×Bool)}{xs:List IV}{v:IV}{H':Heap}
def vp{t:TypeId}{n:Option Nat}(h:rE P t=some n):(n=none/\(∀w:World,(isAgg t).run P w=.ok false w))\/(∃k,n=some k/\bj P t=some k/\(∀w:World,(isAgg t).run P w=.ok true w)):=by unfold rE at h;cases q:P.underlying t with|none=>simp[q] at h|some d=>cases hs:bj P t with|none=>cases d<;>simp[q,hs] at h|some k=>cases d<;>simp[q,hs] at h<;>subst h<;> first|exact .inl ⟨rfl,λw=>by simp[isAgg,run_underlying q]⟩|exact .inr ⟨k,rfl,rfl,λw=>by simp[isAgg,run_underlying q]⟩
def yX{t:TypeId}{n:Option Nat}(T:rE P t=some n){cs:List IV}{A:Array Value}(I:VRs μ cs A.toList){off:Nat}{r:IV}(E:off+n.getD 1<=cs.length)(hr:aj n ((cs.drop off).take (n.getD 1))=some r):∃O:Value,(part t A off).run P w=.ok O w/\VR μ r O:=by rcases vp T with⟨rfl,q⟩|⟨k,rfl,hs,q⟩;{simp only[Dy] at hr E;have F:off<cs.length:=Om;have e:(cs.drop off).take 1=[cs[off]]:=by{rw[jX F];rfl};rw[e] at hr;injection hr with hr;subst hr;obtain⟨y,V,U⟩:=I.get (i:=off) (x:=cs[off]) (bW F);simp_all[part]};{injection hr with hr;subst hr;refine⟨.agg (A.extract off (off+k)),by simp[part,q,bD hs],_,rfl,?_⟩;have:=(I.drop off).take k;simp_all[DQ]}
def tw{t:TypeId}{i:Nat}{f:Field}(h:kZ P t i=some f):∃fs:Array Field,P.underlying t=some (.struct fs)/\fs[i]? =some f:=by grind[kZ]
def U3(h:Rel P g0 μ H.get H.n w){t:TypeId}{x:Operand}{i:Nat}{f:Field}{n:Option Nat}(U:kZ P t i=some f)(T:rE P f.type=some n)(q:ev1 (.field f.offset n) xs lo H=some (v,H'))(hx:VRs μ xs [ρ x]):Gives P g0 lo μ H w (execOp ρ ⟨dst,.field t x i,type,pos,after,guard⟩) v H':=by obtain⟨fs,Z,hi⟩:=tw U;simp only[ev1] at q;split at q;{rename_i cs;split at q;{rename_i A;cases hr:aj n ((cs.drop f.offset).take (n.getD 1)) with|none=>rw[hr] at q;cases q|some r=>rw[hr] at q;injection q with q;injection q with I O;subst I O;obtain⟨y,E,l',e,hl⟩:=bO hx;injection E with E;subst E;obtain⟨Y,F,V⟩:=yX (P:=P) (w:=w) T hl A hr;exact Gives.pure h (v':=Y) (by simp_all[execOp,Instr.field,run_underlying,asAgg]) V};{cases q}};{cases q}
theorem xi(c p n:Nat):(⟨c,p,none⟩:Addr).add n=⟨c,p+n,none⟩:=by grind[Addr.add]
def LocR.add{b o n:Nat}{a:Addr}(h:LocR μ b o a):LocR μ b (o+n) (a.add n):=by grind[LocR,xi,Nat.add_assoc]
def FD(h:Rel P g0 μ H.get H.n w){t:TypeId}{x:Operand}{i:Nat}{f:Field}{n:Nat}(I:kZ P t i=some f)(hs:bj P f.type=some n)(hn:n≠0)(q:ev1 (.fieldAddr f.offset) xs lo H=some (v,H'))(hx:VRs μ xs [ρ x]):Gives P g0 lo μ H w (execOp ρ ⟨dst,.fieldAddr t x i,type,pos,after,guard⟩) v H':=by obtain⟨fs,O,hi⟩:=tw I;simp only[ev1] at q;split at q;{rename_i b o;injection q with q;injection q with E F;subst E F;obtain⟨y,A,a,e,hl⟩:=bO hx;injection A with A;subst A;exact Gives.pure h (v':=.pointer (some (a.add f.offset))) (by simp_all[execOp,Instr.fieldAt,run_underlying,Instr.sureAddr,fieldPlace,bD]) ⟨_,rfl,hl.add⟩};{cases q}
def SlR.loc{b o cap:Nat}{ex:Bool}{a:Addr}(h:SlR μ b o ex cap a)(q:cap≠0):LocR μ b o a:=by grind[SlR,LocR]
def U2(h:Rel P g0 μ H.get H.n w){t e:TypeId}{x i:Operand}{n:Nat}(V:P.underlying t=some (.slice e))(hs:bj P e=some n)(q:ev1 (.idxSl n) xs lo H=some (v,H'))(hx:VRs μ xs [ρ x,ρ i]):Gives P g0 lo μ H w (execOp ρ ⟨dst,.indexAddr t x i,type,pos,after,guard⟩) v H':=by simp only[ev1] at q;split at q;{rename_i b o len lb ex k j;split at q;{rename_i U;injection q with q;injection q with E I;subst E I;obtain⟨Y,Z,F,⟨a,cap,E,T,hl⟩,O⟩:=bT hx;simp only[fP,and_true] at F;obtain⟨rfl,rfl⟩:=F;have A:cap≠0:=by{obtain⟨c1,c2,_⟩:=T;omega};exact Gives.pure h (v':=.pointer (some (a.add (j.toNat*n)))) (by simp[execOp,Instr.indexAt,hZ O,asIntOf,run_underlying V,E,U,bD hs]) ⟨_,rfl,(hl.loc A).add⟩};{cases q}};{cases q}
def Dg(h:Rel P g0 μ H.get H.n w){t e:TypeId}{x i:Operand}{len n:Nat}(T:P.underlying t=some (.array len e))(hs:bj P e=some n)(q:ev1 (.idxArrAddr len n) xs lo H=some (v,H'))(hx:VRs μ xs [ρ x,ρ i]):Gives P g0 lo μ H w (execOp ρ ⟨dst,.indexAddr t x i,type,pos,after,guard⟩) v H':=by simp only[ev1] at q;split at q;{rename_i b o k j;split at q;{rename_i O;injection q with q;injection q with A F;subst A F;obtain⟨U,V,E,⟨a,A,hl⟩,I⟩:=bT hx;simp only[fP,and_true] at E;obtain⟨rfl,rfl⟩:=E;exact Gives.pure h (v':=.pointer (some (a.add (j.toNat*n)))) (by simp[execOp,Instr.indexAt,hZ I,asIntOf,run_underlying T,A,Instr.sureAddr,O,bD hs]) ⟨_,rfl,hl.add⟩};{cases q}};{cases q}
def Q9(h:Rel P g0 μ H.get H.n w){t e:TypeId}{x i:Operand}{len k:Nat}{n:Option Nat}(hu:P.underlying t=some (.array len e))(hs:bj P e=some k)(Y:rE P e=some n)(q:ev1 (.idxArr len k n) xs lo H=some (v,H'))(hx:VRs μ xs [ρ x,ρ i]):Gives P g0 lo μ H w (execOp ρ ⟨dst,.index t x i,type,pos,after,guard⟩) v H':=by simp only[ev1] at q;split at q;{rename_i cs kd j;split at q;{rename_i Z;obtain⟨I,O,A⟩:=Z;cases hr:aj n ((cs.drop (j.toNat*k)).take (n.getD 1)) with|none=>rw[hr] at q;cases q|some r=>rw[hr] at q;injection q with q;injection q with F U;subst F U;obtain⟨y1,y2,T,⟨l',F,hl⟩,V⟩:=bT hx;simp only[fP,and_true] at T;obtain⟨rfl,rfl⟩:=T;obtain⟨r',E,hv⟩:=yX (P:=P) (w:=w) Y hl A hr;exact Gives.pure h (v':=r') (by simp[execOp,Instr.index,hZ V,asIntOf,run_underlying hu,F,I,O,bD hs,E]) hv};{cases q}};{cases q}
def U1(h:Rel P g0 μ H.get H.n w){t e:TypeId}{args:Array Operand}{ts:Array TypeId}(I:ts=#[t])(O:P.underlying t=some (.slice e))(A:ev1 .lenSl xs lo H=some (v,H'))(hx:VRs μ xs (args.toList.map ρ)):Gives P g0 lo μ H w (execOp ρ ⟨dst,.call ⟨.builtin .len,args,ts⟩,type,pos,after,guard⟩) v H':=by simp only[ev1] at A;split at A;{rename_i x;obtain⟨y,U,T⟩:=bO hx;have q:args.map ρ=#[y]:=by{grind};subst I;cases x with|nilSlice=>injection A with A;injection A with E F;subst E F;cases T;exact Gives.pure h (v':=.int .i64 0) (by simp[execOp,resolve,invoke,builtin,q,Builtin.len_,run_underlying O,goInt]) rfl|slice b o n lb ex=>injection A with A;injection A with E F;subst E F;obtain⟨a,c,rfl,_⟩:=T;exact Gives.pure h (v':=.int .i64 n) (by simp[execOp,resolve,invoke,builtin,q,Builtin.len_,run_underlying O,goInt]) rfl|_=>simp at A};{cases A}
def abi(h:Rel P g0 μ H.get H.n w){t e:TypeId}{args:Array Operand}{ts:Array TypeId}(I:ts=#[t])(O:P.underlying t=some (.slice e))(A:ev1 .cap xs lo H=some (v,H'))(hx:VRs μ xs (args.toList.map ρ)):Gives P g0 lo μ H w (execOp ρ ⟨dst,.call ⟨.builtin .cap,args,ts⟩,type,pos,after,guard⟩) v H':=by simp only[ev1] at A;split at A;{rename_i x;obtain⟨y,V,T⟩:=bO hx;have q:args.map ρ=#[y]:=by{grind};subst I;cases x with|nilSlice=>injection A with A;injection A with E F;subst E F;cases T;exact Gives.pure h (v':=.int .i64 0) (by simp[execOp,resolve,invoke,builtin,q,Builtin.cap_,run_underlying O,goInt]) rfl|slice b o n lb ex=>(cases ex with|false=>simp at A|true=>injection A with A;injection A with E F;subst E F;obtain⟨a,c,rfl,U,_⟩:=T;have:c=lb:=U.2.2.2 rfl;subst this;exact Gives.pure h (v':=.int .i64 c) (by simp[execOp,resolve,invoke,builtin,q,Builtin.cap_,run_underlying O,goInt]) rfl)|_=>simp at A};{cases A}
def abg(h:Rel P g0 μ H.get H.n w){args:Array Operand}{ts:Array TypeId}(q:ev1 .min xs lo H=some (v,H'))(hx:VRs μ xs (args.toList.map ρ)):Gives P g0 lo μ H w (execOp ρ ⟨dst,.call ⟨.builtin .min,args,ts⟩,type,pos,after,guard⟩) v H':=by simp only[ev1] at q;split at q;{rename_i k a T b;split at q;{injection q with q;injection q with E F;subst E F;obtain⟨V,Y,U,I,O⟩:=bT hx;cases I;cases O;have A:args.map ρ=#[.int k a,.int T b]:=by{grind};exact Gives.pure h (v':=.int k (if b<a then b else a)) (by simp[execOp,resolve,invoke,builtin,A,Builtin.min_,Builtin.min2]) rfl};{cases q}};{cases q}
def abh(h:Rel P g0 μ H.get H.n w){args:Array Operand}{ts:Array TypeId}(q:ev1 .max xs lo H=some (v,H'))(hx:VRs μ xs (args.toList.map ρ)):Gives P g0 lo μ H w (execOp ρ ⟨dst,.call ⟨.builtin .max,args,ts⟩,type,pos,after,guard⟩) v H':=by simp only[ev1] at q;split at q;{rename_i k a T b;split at q;{injection q with q;injection q with E F;subst E F;obtain⟨V,Y,U,I,O⟩:=bT hx;cases I;cases O;have A:args.map ρ=#[.int k a,.int T b]:=by{grind};exact Gives.pure h (v':=.int k (if b>a then b else a)) (by simp[execOp,resolve,invoke,builtin,A,Builtin.max_,Builtin.max2]) rfl};{cases q}};{cases q}
def dU{y i:Nat}{x:IV}{u:Value}(h:bM y x=some i)(A:VR μ x u)(c:BoundsCode)(q:Nat)(F:y<=q)(w:World):(Instr.sliceBound u q c).run P w=.ok i w/\i<=y:=by cases x with|int k n=>cases A;simp only[bM] at h;split at h;{rename_i hn;injection h with h;subst h;have E:0<=n/\n<=(q:Int):=Om;simp_all[Instr.sliceBound,asIntOf]};{cases h}|_=>simp[bM] at h
def Au{isSl:Bool}{len top cap:Nat}{l:List IV}{a b:Nat}{m:Option Nat}{V hi Z:Option Operand}(A:bi len top V.isSome hi.isSome Z.isSome l=some (a,b,m))(ad:len<=top)(hc:top<=cap)(hv:VRs μ l ((V.toArray++hi.toArray++Z.toArray).toList.map ρ))(w:World):(Instr.sliceBounds isSl len cap (V.map ρ) (hi.map ρ) (Z.map ρ)).run P w=.ok (a,b,m.getD cap) w/\a<=b/\b<=m.getD top/\(∀k,m=some k->k<=top):=by cases V with|none=>(cases hi with|none=>(cases Z with|none=>(match l,A with|[],A=>injection A with A;simp only[iV] at A;obtain⟨rfl,rfl,rfl⟩:=A;exact⟨by simp[Instr.sliceBounds],Om,by simpa using ad,λ_ h=>by cases h⟩)|some z=>simp[bi] at A)|some y=>cases Z with|none=>(match l,A with|[Y],A=>obtain⟨u,O,F⟩:=bO hv;simp at O;subst O;simp only[bi,uG,yL] at A;cases E:bM top Y with|none=>rw[E] at A;cases A|some i=>rw[E] at A;injection A with A;simp only[iV] at A;obtain⟨rfl,rfl,rfl⟩:=A;have hr:=dU (P:=P) E F;exact⟨by simp_all[Instr.sliceBounds],Om,by simpa using (hr .index cap hc w).2,λ_ h=>by cases h⟩)|some z=>match l,A with|[Y,x2],A=>obtain⟨u,u2,O,F,I⟩:=bT hv;simp at O;obtain⟨rfl,rfl⟩:=O;simp only[bi,uG,yL] at A;cases T:bM top x2 with|none=>rw[T] at A;cases A|some j=>rw[T] at A;simp only[bB] at A;cases E:bM j Y with|none=>rw[E] at A;cases A|some i=>rw[E] at A;injection A with A;simp only[iV] at A;obtain⟨rfl,rfl,rfl⟩:=A;have hr:=dU (P:=P) E F;have U:=dU (P:=P) T I;exact⟨by simp_all[Instr.sliceBounds,ao],Om,by simpa using (hr .index j (ao _) w).2,λk h=>by injection h with h;subst h;exact(U .index cap hc w).2⟩)|some q=>cases hi with|none=>(cases Z with|none=>(match l,A with|[Y],A=>obtain⟨u,O,F⟩:=bO hv;simp at O;subst O;simp only[bi,uG,yL] at A;cases E:bM len Y with|none=>rw[E] at A;cases A|some i=>rw[E] at A;injection A with A;simp only[iV] at A;obtain⟨rfl,rfl,rfl⟩:=A;have hr:=dU (P:=P) E F;exact⟨by simp_all[Instr.sliceBounds,ao],by simpa using (hr .index len (ao _) w).2,by simpa using ad,λ_ h=>by cases h⟩)|some z=>simp[bi] at A)|some y=>cases Z with|none=>(match l,A with|[Y,x2],A=>obtain⟨u,u2,O,F,I⟩:=bT hv;simp at O;obtain⟨rfl,rfl⟩:=O;simp only[bi,uG,yL] at A;cases T:bM top x2 with|none=>rw[T] at A;cases A|some j=>rw[T] at A;simp only[bB] at A;cases E:bM j Y with|none=>rw[E] at A;cases A|some i=>rw[E] at A;injection A with A;simp only[iV] at A;obtain⟨rfl,rfl,rfl⟩:=A;have hr:=dU (P:=P) E F;have U:=dU (P:=P) T I;exact⟨by simp_all[Instr.sliceBounds,ao],(hr .index j (ao _) w).2,by simpa using (U .index cap hc w).2,λ_ h=>by cases h⟩)|some z=>match l,A with|[Y,x2,x3],A=>obtain⟨u,u2,u3,O,F,I,ag⟩:=mX hv;simp at O;obtain⟨rfl,rfl,rfl⟩:=O;simp only[bi,uG,yL] at A;cases h3:bM top x3 with|none=>rw[h3] at A;cases A|some k=>rw[h3] at A;simp only[bB] at A;cases T:bM k x2 with|none=>rw[T] at A;cases A|some j=>rw[T] at A;simp only[bB] at A;cases E:bM j Y with|none=>rw[E] at A;cases A|some i=>rw[E] at A;injection A with A;simp only[iV] at A;obtain⟨rfl,rfl,rfl⟩:=A;have hr:=dU (P:=P) E F;have U:=dU (P:=P) T I;have aE:=dU (P:=P) h3 ag;exact⟨by simp_all[Instr.sliceBounds,ao],(hr .index j (ao _) w).2,by simpa using (U .index k (ao _) w).2,λk' h=>by injection h with h;subst h;exact(aE .index cap hc w).2⟩
end
section
variable {P:Program}{g0 lo:Nat}{μ:Mu}{H:Heap}{w:World}{ρ:Operand->Value}{type:TypeId}{pos:String}{dst:Option Tmp}{after:Array Edge}{guard:Option (Nat×Bool)}{xs:List IV}{v:IV}{H':Heap}
def AP(t:TypeId)(x:Operand)(a b c:Option Operand):(Op.slice t x a b c).operands.toList.map ρ=ρ x::((a.toArray++b.toArray++c.toArray).toList.map ρ):=by simp[Op.operands]
def OI(h:Rel P g0 μ H.get H.n w){b c p ez z size:Nat}(q:mM H b size=true)(E:μ b=.at c p ez z):ez=0\/ez=size:=by unfold mM at q;obtain⟨o,ho,hr⟩:=h.obj b c p ez z E;rw[ho] at q;cases o with|cells F e A cs=>cases F;{simp at q;right;rw[hr.2.1,q]};{left;exact hr.1}|_=>simp at q
def abf(h:Rel P g0 μ H.get H.n w){t e:TypeId}{x:Operand}{a b c:Option Operand}{n:Nat}(hu:P.underlying t=some (.slice e))(hs:bj P e=some n)(A:ev1 (.slc n a.isSome b.isSome c.isSome) xs lo H=some (v,H'))(hx:VRs μ xs ((Op.slice t x a b c).operands.toList.map ρ)):Gives P g0 lo μ H w (execOp ρ ⟨dst,.slice t x a b c,type,pos,after,guard⟩) v H':=by rw[AP] at hx;simp only[ev1] at A;split at A;{rename_i s l;obtain⟨y,ys,hy,hv,hl⟩:=hx;simp only[fP] at hy;obtain⟨rfl,rfl⟩:=hy;cases s with|nilSlice=>(simp only at A;cases Z:bi 0 0 a.isSome b.isSome c.isSome l with|none=>rw[Z] at A;cases A|some r=>obtain⟨i,j,m⟩:=r;rw[Z] at A;simp only[bB] at A;split at A;{rename_i a2;obtain⟨rfl,rfl⟩:=a2;injection A with A;injection A with Y U;subst Y U;obtain⟨I,_,_,hm⟩:=Au (P:=P) (isSl:=true) Z (ao _) (ao 0) hl w;have a5:m.getD 0=0:=by{cases m with|none=>rfl|some k=>have:=hm k rfl;simp;omega};rw[a5] at I;have a8:ρ x=.slice none 0 0:=hv;exact Gives.pure h (v':=.slice none 0 0) (by simp[execOp,Instr.sliceAt,run_underlying hu,Instr.slice,a8,I,bD hs]) rfl};{cases A})|slice bl o len lb ex=>simp only at A;split at A;{rename_i a1;cases Z:bi len lb a.isSome b.isSome c.isSome l with|none=>rw[Z] at A;cases A|some r=>obtain⟨i,j,m⟩:=r;rw[Z] at A;obtain⟨ad,cap,a3,⟨c1,c2,c3,c4⟩,F⟩:=hv;obtain⟨I,a2,O,hm⟩:=Au (P:=P) (isSl:=true) Z c1 c2 hl w;have E:(execOp ρ ⟨dst,.slice t x a b c,type,pos,after,guard⟩).run P w=.ok (.value (.slice (some (if m.getD cap=i then ad else ad.add (i*n))) (j - i) (m.getD cap - i))) w:=by{simp only[execOp];simp[Instr.sliceAt,run_underlying hu,Instr.slice,a3,I,bD hs];split<;>rfl};have T:∀ex':Bool,(ex'=false->ex=false/\m=none)->SlR μ bl (o+i*n) ex' (m.getD cap - i) (if m.getD cap=i then ad else ad.add (i*n)):=by{intro ex' aS;unfold SlR at F⊢;cases ag:μ bl with|no=>rw[ag] at F;exact F|dead=>trivial|«at» q p ez z=>rw[ag] at F;simp only at F⊢;refine⟨?_,λY U=>?_⟩;{by_cases a6:m.getD cap=i;{left;omega};{right;rw[if_neg a6];have a9:m.getD cap<=cap:=by{cases m with|none=>exact ao _|some k=>have:=hm k rfl;simp;omega};have a4:i<=m.getD cap:=by{cases m with|none=>simp at O⊢;omega|some k=>simp at O⊢;omega};have aE:cap≠0:=Om;rw[F.1.resolve_left aE,xi,ii]}};{obtain⟨a0,a7⟩:=aS Y;subst a0 a7;simp only[yx] at a1;rcases OI h a1 ag with h0|h0;{exact absurd h0 U};{subst h0;have:=F.2 rfl U;simp only[Dy] at O⊢;have a4:i<=cap:=Om;have:(cap - i)*ez+i*ez=cap*ez:=by{rw[<-mv];congr 1;omega};omega}}};cases m with|none=>simp only[dj] at A;injection A with A;injection A with Y U;subst Y U;have V:=T ex λe=>⟨e,rfl⟩;simp only[Dy] at E V O;exact Gives.pure h E ⟨_,_,rfl,⟨Om,Om,Om,λe=>by have:=c4 e;omega⟩,V⟩|some k=>simp only[dj] at A;injection A with A;injection A with Y U;subst Y U;simp only[eD] at E T O;have:=hm k rfl;exact Gives.pure h E ⟨_,_,rfl,⟨Om,ao _,Om,λ_=>rfl⟩,T true λe=>by cases e⟩};{cases A}|_=>simp at A};{cases A}
end
section
variable {P:Program}{g0 lo:Nat}{μ:Mu}{H:Heap}{w:World}{ρ:Operand->Value}{type:TypeId}{pos:String}{dst:Option Tmp}{after:Array Edge}{guard:Option (Nat×Bool)}{xs:List IV}{v:IV}{H':Heap}
theorem cZ:∀(cs:List IV)(o:Nat)(vs:List IV),o+vs.length<=cs.length->ay cs o vs=cs.take o++vs++cs.drop (o+vs.length)|[],o,vs,h=>by have q:o=0:=by{rw[cV] at h;omega};have A:vs=[]:=by{rw[cV] at h;exact List.length_eq_zero_iff.1 Om};subst q A;rfl|c::cs,0,[],_=>by simp[ay]|c::cs,0,v::vs,h=>by simp only[ay];rw[cZ cs 0 vs (by simp at h;omega)];simp|c::cs,o+1,vs,h=>by simp only[ay];rw[cZ cs o vs (by simp at h;omega)];simp[Nat.add_right_comm]
theorem qu(cs:List IV)(o:Nat)(vs:List IV)(h:o+vs.length<=cs.length):(ay cs o vs).length=cs.length:=by grind[cZ]
def GQ(off:Nat):∀(vs:List Value)(k:Nat)(cells:Array Value),off+k+vs.length<=cells.size->((vs.zipIdx k).foldl (λcs x=>cs.setIfInBounds (off+x.2) x.1) cells).toList=cells.toList.take (off+k)++vs++cells.toList.drop (off+k+vs.length)|[],k,cells,_=>by simp|v::vs,k,cells,h=>by simp only[List.zipIdx_cons,mZ];rw[GQ off vs (k+1) _ (by simp at h⊢;omega)];have e:=list_seg_step cells.toList (off+k) v vs (by simp at h⊢;omega);simpa [sK,ii] using e
def oS(place:Nat->Option (Nat×Nat)):∀(parts:List (Nat×Operand))(E:List (Nat×Nat))(xs cs r:List IV)(q:Array Value),parts.mapM (λp=>place p.1)=some E->VRs μ xs (parts.map λp=>ρ p.2)->VRs μ cs q.toList->du E xs cs=some r->∃Z:Array Value,Instr.fill place q (parts.map λp=>(p.1,ρ p.2))=some Z/\VRs μ r Z.toList:=by intro parts;induction parts with|nil=>(intro E xs cs r q ho hx O F;simp at ho;subst ho;cases xs with|nil=>simp[du] at F;subst F;exact⟨q,rfl,O⟩|cons=>simp[du] at F)|cons p parts ih=>intro E xs cs r q ho hx O F;simp only[qT] at ho;cases hp:place p.1 with|none=>rw[hp] at ho;cases ho|some pl=>obtain⟨off,size⟩:=pl;rw[hp] at ho;cases hr:parts.mapM (λp=>place p.1) with|none=>rw[hr] at ho;cases ho|some I=>rw[hr] at ho;injection ho with ho;subst ho;cases xs with|nil=>simp[du] at F|cons x xs=>obtain⟨y,ys,hy,hv,Y⟩:=hx;simp only[aI,fP] at hy;obtain⟨rfl,rfl⟩:=hy;simp only[du] at F;split at F;{rename_i aE;have A:=hv.cells_;have hl:=A.length;have V:x.cells.length=(ρ p.2).cells.size:=by{simpa using hl};have ad:cs.length=q.size:=by{simpa using O.length};have U:((ρ p.2).cells.size≠size||off+(ρ p.2).cells.size>q.size)=false:=by{have h1:(ρ p.2).cells.size=size:=Om;simp[h1];omega};have T:VRs μ (ay cs off x.cells) ((ρ p.2).cells.zipIdx.foldl (λcs x=>cs.setIfInBounds (off+x.2) x.1) q).toList:=by{rw[<-Array.foldl_toList,Array.toList_zipIdx,GQ off _ 0 q (by simp;omega),cZ cs off x.cells Om];simp only[nS];rw[show off+(ρ p.2).cells.toList.length=off+x.cells.length by simp[V]];exact((O.take off).append A).append (O.drop _)};obtain⟨Z,ag,aS⟩:=ih I xs _ r _ hr Y T F;simp_all[aI,Instr.fill,if_neg]};{cases F}
def Gp{α q:Type}(F:α->Sem q)(G:α->q)(w:World):∀l:List α,(∀f∈l,(F f).run P w=.ok (G f) w)->(l.mapM F).run P w=.ok (l.map G) w|[],_=>by simp|f::l,h=>by have A:=h f (by simp);have E:=Gp F G w l λg I=>h g (by simp[I]);simp[A,E]
def Jz{fs:Array Field}(hall:(fs.all fun f=>(bj P f.type).isSome)=true)(F:Field→Sem (Nat×Nat))(hF:∀f,F f=(do pure (f.offset,←sizeOf f.type)))(w:World):
  (fs.mapM F).run P w=.ok (fs.map fun f=>(f.offset,(bj P f.type).getD 0)) w:=by
 rw[Array.mapM_eq_mapM_toList]
 have hk:=Gp (P:=P) F (fun f=>(f.offset,(bj P f.type).getD 0)) w fs.toList (fun f hf=>by
  rw[Array.all_eq_true_iff_forall_mem] at hall;have h1:=hall f (by simpa using hf)
  cases hs:bj P f.type with
  | none=>rw[hs] at h1;cases h1
  | some n=>rw[hF];simp[bD hs])
 simp[hk];apply oe;simp
def U5(h:Rel P g0 μ H.get H.n w){t:TypeId}{O:Array (Nat×Operand)}{kd:Kd}(q:cI P (.build t O)=some kd)(E:ev1 kd xs lo H=some (v,H'))(hx:VRs μ xs ((Op.build t O).operands.toList.map ρ)):Gives P g0 lo μ H w (execOp ρ ⟨dst,.build t O,type,pos,after,guard⟩) v H':=by have ad:(Op.build t O).operands.toList.map ρ=O.toList.map λp=>ρ p.2:=by{simp[Op.operands]};rw[ad] at hx;simp only[cI] at q;cases hu:P.underlying t with|none=>rw[hu] at q;cases q|some d=>rw[hu] at q;cases d with|struct fs=>simp only at q;split at q;{rename_i Z;cases ho:qX (λi=>(fs[i]?).bind λf=>(bj P f.type).map λn=>(f.offset,n)) O with|none=>rw[ho] at q;cases q|some A=>rw[ho] at q;cases V:gg P t with|none=>simp[V] at q|some z=>simp[V] at q;subst q;simp only[ev1] at E;cases T:du A xs z.cells with|none=>rw[T] at E;cases E|some cs=>rw[T] at E;injection E with E;injection E with e1 e2;subst e1 e2;obtain⟨i,zv,hi,Y,U⟩:=iz V;obtain⟨r',I,hv⟩:=oS (ρ:=ρ) (μ:=μ) (λi=>(fs[i]?).bind λf=>(bj P f.type).map λn=>(f.offset,n)) O.toList A xs z.cells cs zv.cells ho hx (U μ).cells_ T;have F:(λi:Nat=>(fs[i]?).bind λf=>(bj P f.type).map λn=>(f.offset,n))=λi:Nat=>Option.map (λf:Field=>(f.offset,(bj P f.type).getD 0)) fs[i]?:=by{funext i;cases aE:fs[i]? with|none=>rfl|some f=>have:(bj P f.type).isSome=true:=by{grind};cases hs:bj P f.type with|none=>rw[hs] at this;cases this|some n=>simp[hs]};rw[F] at I;refine Gives.pure h (v':=.agg r') ?_ ⟨r',rfl,hv⟩;have ag:=Jz Z (λf=>Prod.mk f.offset <$>sizeOf f.type) (λf=>by simp) w;simp only[execOp,Instr.build];simp[zeroValue,typeInfo,hi,Y,run_underlying hu,ag,I]};{cases q}|array k e=>(simp only at q;cases hs:bj P e with|none=>rw[hs] at q;cases q|some n=>rw[hs] at q;simp only[bB] at q;cases ho:qX (λi=>some (i*n,n)) O with|none=>rw[ho] at q;cases q|some A=>rw[ho] at q;cases V:gg P t with|none=>simp[V] at q|some z=>simp[V] at q;subst q;simp only[ev1] at E;cases T:du A xs z.cells with|none=>rw[T] at E;cases E|some cs=>rw[T] at E;injection E with E;injection E with e1 e2;subst e1 e2;obtain⟨i,zv,hi,Y,U⟩:=iz V;obtain⟨r',I,hv⟩:=oS (ρ:=ρ) (μ:=μ) (λi=>some (i*n,n)) O.toList A xs z.cells cs zv.cells ho hx (U μ).cells_ T;refine Gives.pure h (v':=.agg r') ?_ ⟨r',rfl,hv⟩;simp only[execOp,Instr.build];simp[zeroValue,typeInfo,hi,Y,run_underlying hu,bD hs,I])|_=>simp at q
def Zf{A:Bool}{e ez:Nat}{cs:List IV}{q:Array Value}(E:VRs μ cs q.toList)(hr:A=false):ObjR P μ (.cells A e ez cs) 0 ez q.size (some (.cells q e (0,0))):=by subst hr;have hl:=E.length;refine⟨rfl,rfl,q,rfl,rfl,by simp at hl;omega,?_⟩;grind
def pW(h:Rel P g0 μ H.get H.n w){e ez:Nat}{cs:List IV}{q:Array Value}(U:VRs μ cs q.toList){w':World}(V:w'.heap=w.heap.push (.cells q e (0,0)))(F:w'.os=w.os)(I:w'.tape=w.tape)(O:w'.output=w.output)(T:w.drawn<=w'.drawn:=by first|exact ao _|exact nM _|assumption|(simp;done)|omega):∃A:Mu,μ.le A/\A H.n=.at w.heap.size 0 ez q.size/\Rel P g0 A (H.new (.cells false e ez cs)).get (H.new (.cells false e ez cs)).n w'/\ Post lo μ H.get H.n w A (H.new (.cells false e ez cs)).get (H.new (.cells false e ez cs)).n w':=by have E:=μ.le_upd (.at w.heap.size 0 ez q.size) h.fresh;obtain⟨a,b⟩:=h.alloc (lo:=lo) (o:=.cells false e ez cs) (ez:=ez) (z:=q.size) V (Zf (VRs.mono E _ _ U) rfl) F I O T;grind[aD]
def LH{q:Mu}{c ez z n:Nat}(h:q n=.at c 0 ez z):VR q (.ptr n 0) (.pointer (some ⟨c,0,none⟩)):=⟨_,rfl,by unfold LocR;rw[h]⟩
def U6(h:Rel P g0 μ H.get H.n w){e n:Nat}{z:IV}(U:gg P e=some z)(q:ev1 (.alloc e n z.cells) xs lo H=some (v,H')):Gives P g0 lo μ H w (execOp ρ ⟨dst,.alloc e,type,pos,after,guard⟩) v H':=by simp only[ev1] at q;split at q;{injection q with q;injection q with F I;subst F I;obtain⟨i,Y,hi,V,A⟩:=iz U;obtain⟨E,O,hn,hr,T⟩:=pW (lo:=lo) (e:=e) (ez:=n) h (A μ).cells_ (w':={w with heap:=w.heap.push (.cells Y.cells e (0,0))}) rfl rfl rfl rfl;exact⟨_,_,_,E,by simp_all[execOp,Instr.alloc,zeroValue,typeInfo,newVar,newRow,newObj,Sem.run],.inl rfl,hr,T,LH hn⟩};{cases q}
end
end Go.Iso
