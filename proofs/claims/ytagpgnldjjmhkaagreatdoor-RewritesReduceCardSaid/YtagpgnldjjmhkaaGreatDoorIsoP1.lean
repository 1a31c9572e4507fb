/-
  values, heaps, the evaluator of isolated heaps, and its first operations: each run of the evaluator stands for a run of the model.
-/
import Derived.Orders
import Derived.Laws.CopyRow
import Derived.Laws.AppendOwn
import Derived.Deep.AppendSrc
import Derived.Laws.MakeOwn
import Derived.ChangeKeysEq
import Derived.Laws.Strings
import Derived.Lib.SmallJoins
import Derived.Lib.Split
set_option linter.unusedSimpArgs false
set_option linter.unusedVariables false
set_option linter.defProp false
namespace Go.Iso
def A1{A B C D E F:Sort _}{a:A}{b:B}{c:C}{d:D}{e:E}{f:F}:a=a/\b=b/\c=c/\d=d/\e=e/\f=f:=⟨rfl,rfl,rfl,rfl,rfl,rfl⟩
abbrev ao:=@Nat.le_refl
abbrev aq:=@And.intro
abbrev aG:=@Int.toNat_natCast
abbrev aR:=@List.getElem_mem.{0}
abbrev bZ:=@List.getElem?_eq_getElem.{0}
abbrev cz:=@List.getD_eq_getElem?_getD.{0}
abbrev bA:=@List.length_append.{0}
abbrev aT:=@List.map_cons.{0,0}
abbrev jl:=@List.take_succ_eq_append_getElem.{0}
abbrev bS:=@List.length_map.{0,0}
abbrev cD:=@List.take_of_length_le.{0}
abbrev aQ:=@Nat.zero_add
abbrev aP:=@List.map_nil.{0,0}
abbrev bp:=@List.length_set.{0}
abbrev bK:=@Option.bind_some.{0,0}
abbrev bJ:=@List.length_take.{0}
abbrev aU:=@Nat.mul_one
abbrev bV:=@Bool.and_eq_true
abbrev cu:=@Nat.lt_of_lt_of_le
abbrev cO:=@List.append_assoc.{0}
abbrev jb:=@List.drop_eq_getElem_cons.{0}
abbrev cT:=@List.getElem_map.{0,0}
abbrev ja:=@Option.bind_eq_some_iff.{0,0}
abbrev dg:=@List.length_cons.{0}
abbrev i9:=@Option.map_eq_some_iff.{0,0}
abbrev cX:=@List.length_nil.{0}
abbrev dL:=@Option.getD_some.{0}
abbrev iR:=@List.mem_cons_of_mem.{0}
abbrev dK:=@Option.map_some.{0,0}
abbrev d0:=@List.length_drop.{0}
abbrev oD:=@List.mem_or_eq_of_mem_set.{0}
abbrev jo:=@List.mem_map_of_mem.{0,0}
abbrev iQ:=@List.getElem?_map.{0,0}
abbrev cW:=@Nat.lt_or_ge
abbrev kI:=@List.getElem_set_ne.{0}
abbrev mS:=@List.getElem_set_self.{0}
abbrev de:=@Nat.le_trans
abbrev mu:=@List.flatten_append.{0}
abbrev nK:=@List.take_append_drop.{0}
abbrev i8:=@List.ext_getElem.{0}
abbrev i6:=@List.append_nil.{0}
abbrev mR:=@Bool.false_eq_true
abbrev dJ:=@Nat.zero_le
abbrev jm:=@List.map_append.{0,0}
abbrev kG:=@List.cons.injEq.{0}
abbrev kF:=@List.foldl_cons.{0,0}
abbrev fP:=@Nat.succ_mul
abbrev pT:=@Nat.mul_le_mul_right
abbrev kE:=@List.nil_append.{0}
abbrev qM:=@List.getElem?_eq_none.{0}
abbrev nJ:=@List.flatten_cons.{0}
abbrev nI:=@List.foldl_append.{0,0}
abbrev mQ:=@List.cons_append.{0}
abbrev qL:=@List.getElem_mapIdx.{0,0}
abbrev kC:=@Nat.add_assoc
abbrev kw:=@Nat.le_of_lt
abbrev qK:=@Option.some.injEq.{0}
abbrev ui:=@List.length_reverse.{0}
abbrev nH:=@Prod.mk.injEq.{0,0}
abbrev BT:=@Array.toList_setIfInBounds.{0}
abbrev uh:=@List.getElem_take.{0}
abbrev BS:=@List.getElem_append_right.{0}
abbrev se:=@Bool.or_eq_true
abbrev BR:=@List.getElem_append_left.{0}
abbrev wZ:=@Array.length_toList.{0}
abbrev ze:=@List.eq_nil_or_concat.{0}
abbrev zd:=@List.concat_eq_append.{0}
abbrev BQ:=@Nat.add_sub_cancel_left
abbrev EV:=@List.getElem?_append_right.{0}
abbrev sa:=@List.Perm.refl.{0}
abbrev wY:=@List.mem_cons_self.{0}
abbrev pS:=@List.set_set.{0}
abbrev EU:=@Array.getElem?_eq_getElem.{0}
abbrev zc:=@Option.bind_eq_bind.{0}
abbrev rZ:=@List.all_cons.{0}
abbrev ug:=@List.drop_drop.{0}
abbrev uR:=@Nat.min_eq_left
abbrev ET:=@List.getElem?_cons_zero.{0}
abbrev BP:=@List.mem_of_mem_take.{0}
abbrev rY:=@Nat.add_zero
abbrev uf:=@Bool.and_self
abbrev RB:=@Array.getElem?_setIfInBounds_self_of_lt.{0}
abbrev zb:=@List.nodup_append.{0}
abbrev BO:=@List.getElem_of_mem.{0}
abbrev Ia:=@List.getElem?_append_left.{0}
abbrev HZ:=@List.pairwise_iff_getElem.{0}
abbrev ES:=@List.length_singleton.{0}
abbrev MC:=@List.take_append_of_le_length.{0}
abbrev BN:=@Nat.lt_or_gt_of_ne
abbrev uQ:=@List.mem_cons.{0}
abbrev HW:=@List.pairwise_mergeSort.{0}
abbrev BM:=@List.getElem_drop.{0}
abbrev MB:=@Array.getD_eq_getD_getElem?.{0}
abbrev za:=@List.mem_append.{0}
abbrev MA:=@List.sublist_flatten_of_mem.{0}
abbrev ER:=@Array.toList_append.{0}
abbrev EQ:=@List.filter_eq_self.{0}
abbrev EP:=@List.mergeSort_perm.{0}
abbrev uP:=@Nat.sub_zero
abbrev uO:=@Bool.or_true
abbrev AZ:=@List.drop_of_length_le.{0}
abbrev pV:=@List.map_map.{0,0,0}
abbrev uW:=@List.filter_cons.{0}
abbrev uV:=@List.take_length.{0}
abbrev AY:=@Array.getElem?_toList.{0}
abbrev AX:=@List.perm_append_comm.{0}
abbrev pU:=@Nat.le_succ
abbrev Fc:=@List.getElem?_replicate.{0}
abbrev AW:=@List.map_congr_left.{0,0}
abbrev AV:=@List.getD_cons_zero.{0}
abbrev AU:=@List.getD_cons_succ.{0}
abbrev xx:=@List.all_eq_true.{0}
abbrev uU:=@List.take_zero.{0}
abbrev xw:=@List.map_flatten.{0,0}
abbrev Fb:=@List.getElem_replicate.{0}
abbrev AT:=@Option.isSome_none.{0}
abbrev tp:=@List.map_set.{0,0}
abbrev AS:=@List.mem_singleton.{0}
abbrev Fa:=@List.Perm.append_left.{0}
abbrev E9:=@List.mem_append_right.{0}
abbrev E8:=@List.set_getElem_self.{0}
abbrev uT:=@Bool.false_or
abbrev AR:=@List.ext_getElem?.{0}
abbrev AQ:=@Nat.lt_trichotomy
abbrev KC:=@List.extract_eq_take_drop.{0}
abbrev E7:=@List.mem_of_getElem?.{0}
abbrev tn:=@Nat.add_mul
abbrev xv:=@List.mapM_cons.{0,0,0}
abbrev xu:=@List.drop_zero.{0}
abbrev uS:=@Nat.zero_mul
abbrev AP:=@Bool.not_eq_true
abbrev AO:=@List.getElem_inj.{0}
abbrev AN:=@List.getElem_set.{0}
abbrev P4:=@Array.getElem?_setIfInBounds_ne.{0}
abbrev KB:=@List.getElem?_cons_succ.{0}
abbrev xt:=@Bool.and_true
abbrev E6:=@Option.isSome_some.{0}
abbrev AM:=@Option.pure_def.{0}
abbrev E5:=@List.length_mapIdx.{0,0}
abbrev E4:=@List.set_cons_zero.{0}
abbrev E3:=@List.size_toArray.{0}
abbrev E2:=@Bool.not_eq_true'
abbrev AL:=@List.mem_range
abbrev xr:=@Nat.le_of_eq
abbrev xq:=@Int.le_of_lt
abbrev KA:=@List.length_mergeSort.{0}
abbrev E1:=@List.any_eq_true.{0}
abbrev P3:=@Nat.lt_of_mul_lt_mul_right
abbrev AK:=@Bool.true_and
abbrev Kz:=@List.replicate_succ.{0}
abbrev Ky:=@List.flatMap_append.{0,0}
abbrev Kx:=@List.set_cons_succ.{0}
abbrev P2:=@List.eq_of_mem_replicate.{0}
abbrev xp:=@Array.ext'.{0}
abbrev Kw:=@Bool.eq_false_iff
abbrev Kv:=@List.any_eq_false.{0}
abbrev P1:=@Nat.eq_zero_of_not_pos
abbrev EZ:=@List.sum_cons.{0}
abbrev Ku:=@Option.getD_none.{0}
abbrev Kt:=@List.range'_succ
abbrev Ks:=@Nat.le_of_not_lt
abbrev Kr:=@Nat.le_max_right
abbrev Kq:=@Nat.lt_of_not_le
abbrev Kp:=@List.not_mem_nil.{0}
abbrev P0:=@Nat.le_of_ble_eq_true
abbrev PZ:=@List.set_append_right.{0}
abbrev PY:=@List.length_replicate.{0}
abbrev PX:=@List.range_eq_range'
abbrev EY:=@Bool.true_or
abbrev PW:=@Bool.or_eq_false_iff
abbrev Ko:=@Nat.le_max_left
abbrev EX:=@Nat.sub_self
abbrev PV:=@List.getElem_reverse.{0}
abbrev PU:=@List.reverse_reverse.{0}
abbrev Kn:=@List.nodup_cons.{0}
abbrev Km:=@List.take_take.{0}
abbrev Kl:=@Bool.not_false
abbrev EW:=@List.map_id.{0}
def Om{p:Prop}(h:p:=by omega):p:=h
def Oh{q p:Prop}(h:q)(k:q->p:=by intro;omega):p:=k h
def Rr{p:Prop}(h:p:=by repeat' first|rfl|constructor):p:=h
def iN{c:Prop}[Decidable c]{α:Type}{a b:α}(h:¬c:=by omega):(if c then a else b)=b:=if_neg h
def iP{c:Prop}[Decidable c]{α:Type}{a b:α}(h:c:=by omega):(if c then a else b)=a:=if_pos h
inductive IV where
 | bool (b:Bool)
 | int (k:IntKind) (n:Int)
 | str (s:List UInt8)
 | ptr (b o:Nat)
 | nilPtr
 | slice (b o len lb:Nat) (ex:Bool)
 | nilSlice
 | map (b:Nat)
 | nilMap
 | fn (f:FuncId) (first cap:List IV)
 | yield (l:Nat)
 | nilFunc
 | iface (t:TypeId) (v:IV)
 | nilIface
 | agg (cs:List IV)
 | tuple (cs:List IV)
 deriving Inhabited
def UN:IV:=.tuple []
inductive Loc where
 | no
 | dead
 | at (c p ez z:Nat)
abbrev Mu:=Nat->Loc
def LocR(μ:Mu)(b o:Nat)(a:Addr):Prop:=match μ b with|.at c p _ _=>a=⟨c,p+o,none⟩|.dead=>True|.no=>False
def SlR(μ:Mu)(b o:Nat)(ex:Bool)(cap:Nat)(a:Addr):Prop:=match μ b with|.at c p ez z=>(cap=0\/a=⟨c,p+o,none⟩)/\(ex=false->ez≠0->o+cap*ez<=z)|.dead=>True|.no=>False
def alT(n lb:Nat)(ex:Bool)(cap:Nat):Prop:=n<=lb/\lb<=cap/\cap<2^63/\(ex=true->cap=lb)
mutual
def VR(μ:Mu):IV->Value->Prop|.bool b,v=>v=.bool b|.int k n,v=>v=.int k n|.str l,v=>v=.string ⟨⟨l⟩⟩|.ptr b o,v=>∃a:Addr,v=.pointer (some a)/\LocR μ b o a|.nilPtr,v=>v=.pointer none|.slice b o n lb ex,v=>∃(a:Addr) (cap:Nat),v=.slice (some a) n cap/\alT n lb ex cap/\SlR μ b o ex cap a|.nilSlice,v=>v=.slice none 0 0|.map b,v=>∃r:Nat,v=.map (some r)/\LocR μ b 0 ⟨r,0,none⟩|.nilMap,v=>v=.map none|.fn f l r,v=>∃q A:Array Value,v=.func (.func f) q A/\VRs μ l q.toList/\VRs μ r A.toList|.yield b,v=>∃r:Nat,v=.func (.yield r) #[] #[]/\LocR μ b 0 ⟨r,0,none⟩|.nilFunc,v=>v=.nilFunc|.iface t x,v=>∃E:Value,v=.iface t E/\VR μ x E|.nilIface,v=>v=.nilIface|.agg l,v=>∃q:Array Value,v=.agg q/\VRs μ l q.toList|.tuple l,v=>∃q:Array Value,v=.tuple q/\VRs μ l q.toList
def VRs(μ:Mu):List IV->List Value->Prop|[],l=>l=[]|x::xs,l=>∃(y:Value) (ys:List Value),l=y::ys/\VR μ x y/\VRs μ xs ys
end
def Mu.le(μ q:Mu):Prop:=∀b,μ b≠.no->q b=μ b\/q b=.dead
def Mu.le_refl(μ:Mu):μ.le μ:=λ_ _=>.inl rfl
def Mu.le_trans{a b c:Mu}(h:a.le b)(k:b.le c):a.le c:=λx hx=>by rcases h x hx with e|e;{rw[<-e];exact k x (by rw[e];exact hx)};{rcases k x (by rw[e];exactλh=>by cases h) with q|q<;>grind}
def LocR.mono{μ q:Mu}{b o:Nat}{a:Addr}(A:μ.le q)(h:LocR μ b o a):LocR q b o a:=by unfold LocR at *;have hn:μ b≠.no:=by{intro e;rw[e] at h;exact h};rcases A b hn with e|e<;>grind
def SlR.mono{μ q:Mu}{b o cap:Nat}{ex:Bool}{a:Addr}(A:μ.le q)(h:SlR μ b o ex cap a):SlR q b o ex cap a:=by unfold SlR at *;have hn:μ b≠.no:=by{intro e;rw[e] at h;exact h};rcases A b hn with e|e<;>grind
mutual
def VR.mono{μ E:Mu}(q:μ.le E):∀(x:IV)(v:Value),VR μ x v->VR E x v|.bool _,_,h=>h|.int _ _,_,h=>h|.str _,_,h=>h|.ptr _ _,_,h=>by obtain⟨a,e,k⟩:=h;exact⟨a,e,k.mono q⟩|.nilPtr,_,h=>h|.slice _ _ _ _ _,_,h=>by obtain⟨a,c,e,k,l⟩:=h;exact⟨a,c,e,k,l.mono q⟩|.nilSlice,_,h=>h|.map _,_,h=>by obtain⟨a,e,k⟩:=h;exact⟨a,e,k.mono q⟩|.nilMap,_,h=>h|.fn _ l r,_,h=>by obtain⟨A,O,e,F,I⟩:=h;exact⟨A,O,e,VRs.mono q l _ F,VRs.mono q r _ I⟩|.yield _,_,h=>by obtain⟨a,e,k⟩:=h;exact⟨a,e,k.mono q⟩|.nilFunc,_,h=>h|.iface _ x,_,h=>by obtain⟨Q,e,k⟩:=h;exact⟨Q,e,VR.mono q x _ k⟩|.nilIface,_,h=>h|.agg l,_,h=>by obtain⟨A,e,k⟩:=h;exact⟨A,e,VRs.mono q l _ k⟩|.tuple l,_,h=>by obtain⟨A,e,k⟩:=h;exact⟨A,e,VRs.mono q l _ k⟩
def VRs.mono{μ q:Mu}(A:μ.le q):∀(x:List IV)(v:List Value),VRs μ x v->VRs q x v|[],_,h=>h|x::xs,_,h=>by obtain⟨y,ys,e,k,ks⟩:=h;exact⟨y,ys,e,VR.mono A x _ k,VRs.mono A xs _ ks⟩
end
section
variable {μ:Mu}
def VRs.length:∀{l:List IV}{q:List Value},VRs μ l q->l.length=q.length|[],_,h=>by cases h;rfl|_::_,_,h=>by obtain⟨y,ys,rfl,_,k⟩:=h;simp[VRs.length k]
def VRs.get:∀{l:List IV}{q:List Value}{i:Nat}{x:IV},VRs μ l q->l[i]? =some x->∃y,q[i]? =some y/\VR μ x y|[],_,_,_,_,h=>by simp at h|a::A,_,0,x,h,e=>by obtain⟨y,ys,rfl,k,_⟩:=h;simp at e;subst e;exact⟨y,by simp,k⟩|a::A,_,i+1,x,h,e=>by obtain⟨y,ys,rfl,_,k⟩:=h;obtain⟨z,F,E⟩:=VRs.get k (i:=i) (by simpa using e);exact⟨z,by simpa using F,E⟩
def VRs.append:∀{l:List IV}{q:List Value}{r:List IV}{A:List Value},VRs μ l q->VRs μ r A->VRs μ (l++r) (q++A)|[],_,_,_,h,k=>by cases h;simpa using k|_::_,_,_,_,h,k=>by obtain⟨y,ys,rfl,a,b⟩:=h;exact⟨y,_,rfl,a,b.append k⟩
def VRs.take:∀{l:List IV}{q:List Value}(n:Nat),VRs μ l q->VRs μ (l.take n) (q.take n)|[],_,n,h=>by cases h;simp[VRs]|_::_,_,0,_=>by simp[VRs]|_::_,_,n+1,h=>by obtain⟨y,ys,rfl,a,b⟩:=h;exact⟨y,_,rfl,a,b.take n⟩
def VRs.drop:∀{l:List IV}{q:List Value}(n:Nat),VRs μ l q->VRs μ (l.drop n) (q.drop n)|[],_,n,h=>by cases h;simp[VRs]|_::_,_,0,h=>h|_::_,_,n+1,h=>by obtain⟨y,ys,rfl,a,b⟩:=h;exact b.drop n
def VRs.set:∀{l:List IV}{q:List Value}(i:Nat){x:IV}{y:Value},VRs μ l q->VR μ x y->VRs μ (l.set i x) (q.set i y)|[],_,_,_,_,h,_=>by cases h;simp[VRs]|_::_,_,0,_,y,h,k=>by obtain⟨z,ys,rfl,a,b⟩:=h;exact⟨y,ys,rfl,k,b⟩|_::_,_,i+1,_,_,h,k=>by obtain⟨z,ys,rfl,a,b⟩:=h;exact⟨z,_,rfl,a,b.set i k⟩
def GO:∀{l:List IV}{q:List Value},l.length=q.length->(∀(i:Nat)(x:IV)(y:Value),l[i]? =some x->q[i]? =some y->VR μ x y)->VRs μ l q|[],[],_,_=>rfl|[],_::_,h,_=>by simp at h|_::_,[],h,_=>by simp at h|x::xs,y::ys,h,k=>⟨y,ys,rfl,k 0 x y rfl rfl,GO (by simpa using h) λi a b A E=>k (i+1) a b (by simpa using A) (by simpa using E)⟩
end
inductive Tr(α:Type)where
 | leaf
 | node (v:Option α) (l r:Tr α)
def Tr.get{α:Type}:Tr α->Nat->Option α|.leaf,_=>none|.node v l r,i=>match i with|0=>v|j+1=>if j%2=0 then l.get (j / 2) else r.get (j / 2)
def Tr.setF{α:Type}:Nat->Tr α->Nat->α->Tr α|0,t,_,_=>t|f+1,t,i,x=>match t,i with|.leaf,0=>.node (some x) .leaf .leaf|.node _ l r,0=>.node (some x) l r|.leaf,j+1=>if j%2=0 then .node none (Tr.setF f .leaf (j / 2) x) .leaf else .node none .leaf (Tr.setF f .leaf (j / 2) x)|.node v l r,j+1=>if j%2=0 then .node v (Tr.setF f l (j / 2) x) r else .node v l (Tr.setF f r (j / 2) x)
def Tr.set{α:Type}(t:Tr α)(i:Nat)(x:α):Tr α:=Tr.setF (i+1) t i x
theorem vP{α:Type}(i:Nat):(Tr.leaf:Tr α).get i=none:=by unfold Tr.get;rfl
def OP{α:Type}:∀(f:Nat)(t:Tr α)(i j:Nat)(x:α),i<f->(Tr.setF f t i x).get j=if i=j then some x else t.get j:=by intro f;induction f with|zero=>intro t i j x h;omega|succ f E=>intro t i j x h;cases t with|leaf=>(cases i with|zero=>cases j<;>simp[Tr.setF,Tr.get]|succ i=>have hi:i / 2<f:=Om;by_cases q:i%2=0;{cases j with|zero=>simp[Tr.setF,q,Tr.get]|succ j=>by_cases A:j%2=0;{simp only[Tr.setF,q,if_true,Tr.get,A,E _ _ _ _ hi];grind};{simp only[Tr.setF,q,if_true,Tr.get,A,if_false];grind}};{cases j with|zero=>simp[Tr.setF,q,Tr.get]|succ j=>by_cases A:j%2=0;{simp only[Tr.setF,q,if_false,Tr.get,A,if_true];grind};{simp only[Tr.setF,q,if_false,Tr.get,A,E _ _ _ _ hi];grind}})|node v l r=>cases i with|zero=>cases j<;>simp[Tr.setF,Tr.get]|succ i=>have hi:i / 2<f:=Om;by_cases q:i%2=0;{cases j with|zero=>simp[Tr.setF,q,Tr.get]|succ j=>by_cases A:j%2=0;{simp only[Tr.setF,q,if_true,Tr.get,A,E _ _ _ _ hi];grind};{simp only[Tr.setF,q,if_true,Tr.get,A,if_false];grind}};{cases j with|zero=>simp[Tr.setF,q,Tr.get]|succ j=>by_cases A:j%2=0;{simp only[Tr.setF,q,if_false,Tr.get,A,if_true];grind};{simp only[Tr.setF,q,if_false,Tr.get,A,E _ _ _ _ hi];grind}}
def xT{α:Type}(t:Tr α)(i j:Nat)(x:α):(t.set i x).get j=if i=j then some x else t.get j:=OP _ _ _ _ _ (Nat.lt_succ_self i)
inductive IA where
 | tmp (t:Nat)
 | val (v:IV)
 | glob (g:Nat)
 deriving Inhabited
inductive Pk where
 | bool | int | str
 deriving DecidableEq,Inhabited
inductive Nk where
 | ptr | sl | map | fn
 deriving DecidableEq,Inhabited
inductive Kd where
 | move
 | pick
 | alloc (e ez:Nat) (zs:List IV)
 | box (e ez:Nat)
 | build (zs:List IV) (offs:List (Nat×Nat))
 | buildSl (e ez n:Nat) (zs:List IV) (offs:List (Nat×Nat))
 | load (n:Option Nat)
 | store (n:Nat)
 | nilCheck
 | bin (op:BinOp)
 | eqBool (neg:Bool)
 | eqFlat (neg:Bool) (ds:List Pk)
 | eqNil (neg:Bool) (k:Nk)
 | un (op:UnOp)
 | conv (k:IntKind)
 | mkfn (f:FuncId) (k:Nat)
 | mkmap
 | mksl (e ez bytes:Nat) (zs:List IV)
 | slc (size:Nat) (lo hi mx:Bool)
 | fieldAddr (off:Nat)
 | field (off:Nat) (n:Option Nat)
 | idxSl (size:Nat)
 | idxArrAddr (len size:Nat)
 | idxArr (len size:Nat) (n:Option Nat)
 | lookup (t:TypeId) (ky:Bool×List Pk) (zero:IV) (ok:Bool)
 | mapUpd (ky:Bool×List Pk)
 | mapEntry (t:TypeId) (ky:Bool×List Pk) (zero:IV)
 | entryStore
 | delete (ky:Bool×List Pk)
 | lenSl
 | lenMap
 | cap
 | append (e size bytes:Nat)
 | copy (size:Nat)
 | min
 | max
 | extract (i:Nat)
 | clear (zs:List IV)
 | rangeM
 | nextM
 | entryM
 | call
 deriving Inhabited
structure IOp where
 dst:Option Nat
 kd:Kd
 args:List IA
 guard:Option (Nat×Bool)
 amb:Bool
 idx:Nat
 mask:Nat
 deriving Inhabited
inductive Sg where
 | seq | free
 deriving DecidableEq,Inhabited
inductive IC where
 | skip
 | ops (l:List (Sg×List IOp))
 | seq (a b:IC)
 | cond (c:IA) (a b:IC)
 | block (id:Nat) (c:IC)
 | scope (c:IC)
 | loop (c:IC)
 | rfn (f:IA) (ps:List Nat) (asg body:IC)
 | exit (id:Nat)
 | ret
 deriving Inhabited
inductive Jmp where
 | exit (id:Nat)
 | ret
inductive IObj where
 | cells (ro:Bool) (e ez:Nat) (cs:List IV)
 | map (es:List (IV×IV×Nat)) (clock:Nat)
 | loop (st:LoopState) (pend:Option Jmp) (tm:List IV) (ps:List Nat) (asg body:IC) (df:Nat)
 | deferred
 | taken
 | iter (m:Option Nat) (since:Nat) (seen:List Nat) (last:Nat)
 | dead
structure Heap where
 n:Nat
 t:Tr IObj
def Heap.get(H:Heap)(b:Nat):Option IObj:=H.t.get b
def Heap.put(H:Heap)(b:Nat)(o:IObj):Heap:=⟨H.n,H.t.set b o⟩
def Heap.new(H:Heap)(o:IObj):Heap:=⟨H.n+1,H.t.set H.n o⟩
def aa(H:Heap)(b b':Nat)(o:IObj):(H.put b o).get b'=if b=b' then some o else H.get b':=xT _ _ _ _
def ak(H:Heap)(b':Nat)(o:IObj):(H.new o).get b'=if H.n=b' then some o else H.get b':=xT _ _ _ _
theorem af(H:Heap)(b:Nat)(o:IObj):(H.put b o).n=H.n:=rfl
theorem ac(H:Heap)(o:IObj):(H.new o).n=H.n+1:=rfl
def IV.cells:IV->List IV|.agg l=>l|v=>[v]
def aD:List IV->Nat->List IV->List IV|[],_,_=>[]|c::cs,0,[]=>c::cs|_::cs,0,v::vs=>v::aD cs 0 vs|c::cs,o+1,vs=>c::aD cs o vs
def Heap.read(H:Heap)(b o n:Nat):Option (List IV):=match H.get b with|some (.cells _ _ _ cs)=>if o+n<=cs.length then some ((cs.drop o).take n) else none|_=>none
def IV.one:IV->Bool|.agg _|.tuple _=>false|_=>true
def Heap.write(H:Heap)(lo b o:Nat)(vs:List IV):Option Heap:=match H.get b with|some (.cells false e ez cs)=>if lo<=b/\o+vs.length<=cs.length/\vs.all IV.one then some (H.put b (.cells false e ez (aD cs o vs))) else none|_=>none
def ah(n:Option Nat)(l:List IV):Option IV:=match n,l with|some _,l=>some (.agg l)|none,[v]=>some v|none,_=>none
def cU:List (Nat×Nat)->List IV->List IV->Option (List IV)|[],[],cs=>some cs|(off,size)::q,v::vs,cs=>if v.cells.length=size/\off+size<=cs.length then cU q vs (aD cs off v.cells) else none|_,_,_=>none
def QH:Pk->IV->IV->Option Bool|.bool,.bool a,.bool b=>some (a==b)|.int,.int k a,.int q b=>if k=q then some (a==b) else none|.str,.str a,.str b=>some (a==b)|_,_,_=>none
def mP:List Pk->List IV->List IV->Option Bool|[],[],[]=>some true|d::ds,x::xs,y::ys=>(match QH d x y,mP ds xs ys with|some a,some b=>some (a&&b)|_,_=>none)|_,_,_=>none
def isK:Pk->IV->Bool|.bool,.bool _=>true|.int,.int _ _=>true|.str,.str _=>true|_,_=>false
def zw:List Pk->List IV->Bool|[],[]=>true|d::ds,x::xs=>isK d x&&zw ds xs|_,_=>false
def vK(op:BinOp):IV->IV->Option IV|.int k a,.int q b=>(match op with|.shl=>if b<0 then none else some (.int k (k.wrap (a*2^(Min.min b.toNat k.bits))))|.shr=>if b<0 then none else some (.int k (a.fdiv (2^(Min.min b.toNat k.bits))))|_=>if k=q then match op with|.add=>some (.int k (k.wrap (a+b)))|.sub=>some (.int k (k.wrap (a - b)))|.mul=>some (.int k (k.wrap (a*b)))|.quo=>if b=0 then none else some (.int k (k.wrap (a.tdiv b)))|.rem=>if b=0 then none else some (.int k (a.tmod b))|.and=>some (.int k (k.wrap (BitVec.ofInt k.bits a&&& BitVec.ofInt k.bits b).toNat))|.or=>some (.int k (k.wrap (BitVec.ofInt k.bits a||| BitVec.ofInt k.bits b).toNat))|.xor=>some (.int k (k.wrap (BitVec.ofInt k.bits a^^^BitVec.ofInt k.bits b).toNat))|.andNot=>some (.int k (k.wrap (BitVec.ofInt k.bits a&&& ~~~(BitVec.ofInt k.bits b)).toNat))|.eql=>some (.bool (a==b))|.neq=>some (.bool (a !=b))|.lss=>some (.bool (decide (a<b)))|.leq=>some (.bool (decide (a<=b)))|.gtr=>some (.bool (decide (a>b)))|.geq=>some (.bool (decide (a>=b)))|_=>none else none)|.str a,.str b=>(match op with|.add=>if a.length+b.length<2^40 then some (.str (a++b)) else none|.eql=>some (.bool (a==b))|.neq=>some (.bool !(a==b))|.lss=>some (.bool (Op.bytesLess a b))|.leq=>some (.bool (Op.bytesLess a b||a==b))|.gtr=>some (.bool !(Op.bytesLess a b||a==b))|.geq=>some (.bool !(Op.bytesLess a b))|_=>none)|_,_=>none
def unI(op:UnOp):IV->Option IV|.int k n=>(match op with|.neg=>some (.int k (k.wrap (0 - n)))|.xor=>some (.int k (k.wrap (BitVec.ofInt k.bits (if k.signed then -1 else k.max)^^^BitVec.ofInt k.bits n).toNat))|_=>none)|.bool b=>(match op with|.not=>some (.bool !b)|_=>none)|_=>none
def oO:Nk->IV->Option Bool|.ptr,.nilPtr|.sl,.nilSlice|.map,.nilMap|.fn,.nilFunc=>some true|.ptr,.ptr _ _|.sl,.slice _ _ _ _ _|.map,.map _|.fn,.fn _ _ _=>some false|_,_=>none
def bU(y:Nat):IV->Option Nat|.int _ n=>if 0<=n/\n<=(y:Int) then some n.toNat else none|_=>none
def a8(len top:Nat)(lo hi q:Bool)(l:List IV):Option (Nat×Nat×Option Nat):=match lo,hi,q,l with|false,false,false,[]=>some (0,len,none)|true,false,false,[a]=>(bU len a).map λa=>(a,len,none)|false,true,false,[b]=>(bU top b).map λb=>(0,b,none)|true,true,false,[a,b]=>(bU top b).bind λb=>(bU b a).map λa=>(a,b,none)|false,true,true,[b,c]=>(bU top c).bind λc=>(bU c b).map λb=>(0,b,some c)|true,true,true,[a,b,c]=>(bU top c).bind λc=>(bU c b).bind λb=>(bU b a).map λa=>(a,b,some c)|_,_,_,_=>none
def bE(q:Bool):IV->Bool|.agg _=>q|_=>!q
def dD(ky:Bool×List Pk)(k:IV):Bool:=bE ky.1 k&&zw ky.2 k.cells
def eI(ky:Bool×List Pk)(k q:IV):Option Bool:=if bE ky.1 k&&bE ky.1 q then mP ky.2 k.cells q.cells else none
def aV(ky:Bool×List Pk)(k:IV):List (IV×IV×Nat)->Nat->Option (Option (Nat×IV))|[],_=>some none|(A,v,_)::q,i=>match eI ky k A with|some true=>some (some (i,v))|some false=>aV ky k q (i+1)|none=>none
def ki(H:Heap)(size n:Nat):IV->Option (List IV)|.nilSlice=>if n=0 then some [] else none|.slice b o _ _ _=>if n=0 then some [] else H.read b o (n*size)|.str s=>if n<=s.length/\size=1 then some ((s.take n).map λc=>.int .u8 c.toNat) else none|_=>none
def rz:IV->Option Nat|.nilSlice=>some 0|.slice _ _ n _ _=>some n|.str s=>some s.length|_=>none
def oC:Nat->List IV->List IV|0,_=>[]|n+1,zs=>zs++oC n zs
def dA(e size bytes:Nat)(s:IV)(xs:List IV)(n lo:Nat)(H:Heap):Option (IV×Heap):=if xs.all IV.one=false then none else match s with|.nilSlice=>if n=0 then some (.nilSlice,H) else if n*(bytes+1)<=2^40 then some (.slice H.n 0 n n false,H.new (.cells false e size xs)) else none|.slice b o len lb ex=>if n=0 then some (.slice b o len lb ex,H) else if len+n<=lb then(H.write lo b (o+len*size) xs).map λH'=>(.slice b o (len+n) lb ex,H') else if (len+n)*(bytes+1)<=2^40 then if ex then(ki H size len s).map λold=>(.slice H.n 0 (len+n) (len+n) false,H.new (.cells false e size (old++xs))) else match H.get b with|some (.cells false q ez cs)=>if q=e/\ez=size/\0<size/\o=0/\lo<=b/\len*size<=cs.length then some (.slice H.n 0 (len+n) (len+n) false,(H.put b .dead).new (.cells false e size (cs.take (len*size)++xs))) else none|_=>none else none|_=>none
def dX{α:Type}:List α->Nat->List α|[],_=>[]|_::l,0=>l|x::l,i+1=>x::dX l i
def gG(key val:IV):List (IV×IV×Nat)->Nat->List (IV×IV×Nat)|[],_=>[]|(_,_,s)::l,0=>(key,val,s)::l|x::l,i+1=>x::gG key val l i
def gI(val:IV)(born:Int):List (IV×IV×Nat)->Option (List (IV×IV×Nat))|[]=>none|(k,v,s)::l=>if (s:Int)=born then some ((k,val,s)::l) else(gI val born l).map ((k,v,s)::·)
def aM(H:Heap)(b:Nat):Option (List (IV×IV×Nat)×Nat):=match H.get b with|some (.map q c)=>some (q,c)|_=>none
def stepM(H:Heap)(r:Nat):Option (IV×Option IObj):=match H.get r with|some (.iter none _ _ _)=>some (.tuple [.bool false],none)|some (.iter (some b) q seen last)=>(match aM H b with|none=>none|some (E,A)=>if seen≠[]/\E≠[]/\(E.all λe=>decide (last<=e.2.2))=true then none else match E.filter λe=>!seen.contains e.2.2 with|[]=>some (.tuple [.bool false],none)|[(k,v,s)]=>if s<q then some (.tuple [.bool true,k,v],some (.iter (some b) q (seen++[s]) A)) else none|_=>none)|_=>none
def Ge(H:Heap)(r:Nat):Option IV:=match H.get r with|some (.iter (some b) _ seen last)=>(match seen.getLast? with|none=>none|some s=>match aM H b with|none=>none|some (A,q)=>if q=last then(A.find? λe=>e.2.2==s).map λe=>.tuple [e.1,e.2.1] else none)|_=>none
def qr(H:Heap)(b size:Nat):Bool:=match H.get b with|some (.cells q _ ez _)=>q||ez==size|_=>false
def tI:IV->Option Nat|.nilSlice=>some 0|.slice _ _ n _ _=>some n|_=>none
def ev1(kd:Kd)(xs:List IV)(lo:Nat)(H:Heap):Option (IV×Heap):=match kd with|.move=>(match xs with|[x]=>some (x,H)|_=>none)|.pick=>(match xs with|[.bool c,a,b]=>some (if c then a else b,H)|_=>none)|.alloc e ez zs=>(match xs with|[]=>some (.ptr H.n 0,H.new (.cells false e ez zs))|_=>none)|.box e ez=>(match xs with|[x]=>some (.ptr H.n 0,H.new (.cells false e ez x.cells))|_=>none)|.build zs E=>(match xs with|xs=>(cU E xs zs).map λcs=>(.agg cs,H))|.buildSl e ez n zs E=>(match xs with|xs=>(cU E xs zs).map λcs=>(.slice H.n 0 n n true,H.new (.cells false e ez cs)))|.load n=>(match xs with|[.ptr b o]=>(H.read b o (n.getD 1)).bind λcs=>(ah n cs).map λv=>(v,H)|_=>none)|.store n=>(match xs with|[.ptr b o,x]=>if x.cells.length=n then(H.write lo b o x.cells).map λH'=>(UN,H') else none|_=>none)|.nilCheck=>(match xs with|[x]=>(match x with|.nilPtr|.nilIface|.nilFunc|.yield _=>none|x=>some (x,H))|_=>none)|.bin op=>(match xs with|[x,y]=>(vK op x y).map (·,H)|_=>none)|.eqBool neg=>(match xs with|[.bool a,.bool b]=>some (.bool (neg !=(a==b)),H)|_=>none)|.eqFlat neg ds=>(match xs with|[.agg x,.agg y]=>(mP ds x y).map λr=>(.bool (neg !=r),H)|_=>none)|.eqNil neg T=>(match xs with|[x,y]=>(match oO T x,oO T y with|some true,some r=>some (.bool (neg !=r),H)|some r,some true=>some (.bool (neg !=r),H)|_,_=>none)|_=>none)|.un op=>(match xs with|[x]=>(unI op x).map (·,H)|_=>none)|.conv k=>(match xs with|[.int _ n]=>some (.int k (k.wrap n),H)|_=>none)|.mkfn f k=>(match xs with|xs=>some (.fn f (xs.take k) (xs.drop k),H))|.mkmap=>(match xs with|[]=>some (.map H.n,H.new (.map [] 0))|[.int _ _]=>some (.map H.n,H.new (.map [] 0))|_=>none)|.rangeM=>(match xs with|[.nilMap]=>some (.ptr H.n 0,H.new (.iter none 0 [] 0))|[.map b]=>(aM H b).map λp=>(.ptr H.n 0,H.new (.iter (some b) p.2 [] p.2))|_=>none)|.entryM=>(match xs with|[.ptr r 0]=>(Ge H r).map (·,H)|_=>none)|.nextM=>(match xs with|[.ptr r 0]=>if lo<=r then(stepM H r).map λp=>(p.1,match p.2 with|none=>H|some o=>H.put r o) else none|_=>none)|.mksl e ez bytes zs=>(match xs with|[.int _ l,.int _ c]=>if 0<=l/\l<=c/\c*(bytes+1)<=2^40 then some (.slice H.n 0 l.toNat c.toNat true,H.new (.cells false e ez (oC c.toNat zs))) else none|_=>none)|.slc size lo hi Q=>(match xs with|s::l=>(match s with|.nilSlice=>(a8 0 0 lo hi Q l).bind λ(a,b,_)=>if a=0/\b=0 then some (.nilSlice,H) else none|.slice b o len lb ex=>if ex||qr H b size then (a8 len lb lo hi Q l).map λ(a,h,m)=>match m with|some m=>(.slice b (o+a*size) (h - a) (m - a) true,H)|none=>(.slice b (o+a*size) (h - a) (lb - a) ex,H) else none|_=>none)|_=>none)|.fieldAddr off=>(match xs with|[.ptr b o]=>some (.ptr b (o+off),H)|_=>none)|.field off n=>(match xs with|[.agg cs]=>if off+n.getD 1<=cs.length then(ah n ((cs.drop off).take (n.getD 1))).map λv=>(v,H) else none|_=>none)|.idxSl size=>(match xs with|[.slice b o len _ _,.int _ i]=>if 0<=i/\i<(len:Int) then some (.ptr b (o+i.toNat*size),H) else none|_=>none)|.idxArrAddr len size=>(match xs with|[.ptr b o,.int _ i]=>if 0<=i/\i<(len:Int) then some (.ptr b (o+i.toNat*size),H) else none|_=>none)|.idxArr len size n=>(match xs with|[.agg cs,.int _ i]=>if 0<=i/\i<(len:Int)/\i.toNat*size+n.getD 1<=cs.length then(ah n ((cs.drop (i.toNat*size)).take (n.getD 1))).map λv=>(v,H) else none|_=>none)|.lookup _ ky zero ok=>(match xs with|[m,k]=>(match (match m with|.nilMap=>some []|.map b=>(aM H b).map (·.1)|_=>none) with|none=>none|some A=>if dD ky k then match aV ky k A 0 with|none=>none|some r=>let (v,F):IV×Bool:=match r with|some (_,v)=>(v,true)|none=>(zero,false);some (if ok then .tuple [v,.bool F] else v,H) else none)|_=>none)|.mapUpd ky=>(match xs with|[.map b,k,v]=>(match aM H b with|none=>none|some (A,q)=>if lo<=b/\dD ky k then match aV ky k A 0 with|none=>none|some (some (i,_))=>some (UN,H.put b (.map (gG k v A i) q))|some none=>some (UN,H.put b (.map (A++[(k,v,q)]) (q+1))) else none)|_=>none)|.mapEntry _ ky zero=>(match xs with|[.map b,k]=>(match aM H b with|none=>none|some (A,q)=>if lo<=b/\dD ky k then match aV ky k A 0 with|none=>none|some (some (i,v))=>(A[i]?).map λe=>(.tuple [v,.int .i64 e.2.2],H.put b (.map (gG k v A i) q))|some none=>some (.tuple [zero,.int .i64 q],H.put b (.map (A++[(k,zero,q)]) (q+1))) else none)|_=>none)|.entryStore=>(match xs with|[.map b,.int _ s,v]=>(match aM H b with|none=>none|some (A,q)=>if lo<=b then(gI v s A).map λI=>(UN,H.put b (.map I q)) else none)|_=>none)|.delete ky=>(match xs with|[.map b,k]=>(match aM H b with|none=>none|some (A,q)=>if lo<=b/\dD ky k then match aV ky k A 0 with|none=>none|some (some (i,_))=>some (UN,H.put b (.map (dX A i) q))|some none=>some (UN,H) else none)|_=>none)|.lenSl=>(match xs with|[x]=>(match x with|.nilSlice=>some (.int .i64 0,H)|.slice _ _ n _ _=>some (.int .i64 n,H)|_=>none)|_=>none)|.lenMap=>(match xs with|[m]=>(match m with|.nilMap=>some (.int .i64 0,H)|.map b=>(aM H b).map λ(A,_)=>(.int .i64 A.length,H)|_=>none)|_=>none)|.cap=>(match xs with|[x]=>(match x with|.nilSlice=>some (.int .i64 0,H)|.slice _ _ _ c true=>some (.int .i64 c,H)|_=>none)|_=>none)|.append e size bytes=>(match xs with|[s,x]=>(rz x).bind λn=>(ki H size n x).bind λxs=>dA e size bytes s xs n lo H|_=>none)|.copy size=>(match xs with|[d,s]=>(match tI d,rz s with|some n,some m=>(let k:=Min.min m n;if k=0 then some (.int .i64 0,H) else(ki H size k s).bind λxs=>match d with|.slice b o _ _ _=>(H.write lo b o xs).map λH'=>(.int .i64 k,H')|_=>none)|_,_=>none)|_=>none)|.min=>(match xs with|[.int k a,.int O b]=>if k=O then some (.int k (if b<a then b else a),H) else none|_=>none)|.max=>(match xs with|[.int k a,.int O b]=>if k=O then some (.int k (if b>a then b else a),H) else none|_=>none)|.clear zs=>(match xs with|[x]=>(match x with|.nilSlice=>some (.tuple [],H)|.slice b o n _ _=>if n=0 then some (.tuple [],H) else(H.write lo b o (oC n zs)).map λH'=>(.tuple [],H')|_=>none)|_=>none)|.extract i=>(match xs with|[.tuple l]=>(l[i]?).map (·,H)|_=>none)|.call=>none
structure IFn where
 ntmps:Nat
 results:List (Nat×Option (Option Nat))
 body:IC
structure Fr where
 tm:List IV
 marks:List Nat
inductive Ex where
 | normal
 | jmp (j:Jmp)
inductive Fp where
 | none
 | rd (b o n:Nat)
 | wr (b o n:Nat)
 | wb (b:Nat)
 | lk (t:TypeId) (ky:Bool×List Pk) (b:Nat) (k:IV)
 | me (t:TypeId) (ky:Bool×List Pk) (b:Nat) (k:IV)
abbrev dV:=List (Nat×Fp)
inductive Task where
 | code (c:IC) (rd:Option Nat) (fr:Fr)
 | segs (l:List (Sg×List IOp)) (rd:Option Nat) (fr:Fr)
 | ops (free:Option dV) (l:List IOp) (rd:Option Nat) (fr:Fr)
 | call (f:FuncId) (args:List IV)
 | apply (f:IV) (args:List IV)
inductive Out where
 | ex (e:Ex) (fr:Fr)
 | val (v:IV)
structure Env where
 fns:FuncId→Option IFn
 sums:FuncId→Option (List IV→Nat→Heap→Option (IV×Heap))
 g0:Nat
def IA.eval(g0:Nat)(tm:List IV):IA->Option IV|.tmp t=>some (tm.getD t UN)|.val v=>some v|.glob g=>if g<g0 then some (.ptr g 0) else none
def cJ(g0:Nat)(tm:List IV):List IA->Option (List IV)|[]=>some []|x::xs=>match x.eval g0 tm with|none=>none|some v=>match cJ g0 tm xs with|none=>none|some vs=>some (v::vs)
def Fr.put(fr:Fr)(dst:Option Nat)(v:IV):Fr:=match dst with|none=>fr|some d=>{fr with tm:=fr.tm.set d v}
def dH(tm:List IV):Option (Nat×Bool)->Bool|none=>true|some (t,q)=>match tm.getD t UN with|.bool b=>b==q|_=>false
def rX(H:Heap)(tm:List IV):Nat×Option (Option Nat)->Option IV|(t,none)=>some (tm.getD t UN)|(t,some n)=>match tm.getD t UN with|.ptr b o=>(H.read b o (n.getD 1)).bind (ah n)|_=>none
def aY(H:Heap)(tm:List IV):List (Nat×Option (Option Nat))->Option (List IV)|[]=>some []|r::rs=>match rX H tm r,aY H tm rs with|some v,some vs=>some (v::vs)|_,_=>none
def kh:List IV->IV|[v]=>v|l=>.tuple l
def dc(lo:Nat):List Nat->Heap->Option Heap|[],H=>some H|r::rs,H=>match H.get r with|some .deferred=>if lo<=r then dc lo rs (H.put r .taken) else none|_=>none
def jf:List IV->List Nat->List IV->List IV|tm,p::q,v::vs=>jf (tm.set p v) q vs|tm,_,_=>tm
def dZ:Nat->List IV|0=>[]|n+1=>UN::dZ n
def Kd.pure:Kd->Bool|.move|.pick|.build _ _|.nilCheck|.bin _|.eqBool _|.eqFlat _ _|.eqNil _ _|.un _|.conv _|.mkfn _ _|.fieldAddr _|.field _ _|.idxSl _|.idxArrAddr _ _|.idxArr _ _ _|.lenSl|.cap|.min|.max|.extract _=>true|_=>false
def Kd.isStore:Kd->Bool|.store _=>true|_=>false
def nm(b o n b' o' q:Nat):Bool:=b≠b'||o+n<=o'||o'+q<=o
def bi:Fp->Fp->Bool|.rd b o n,.wr b' o' q|.wr b o n,.rd b' o' q|.wr b o n,.wr b' o' q=>nm b o n b' o' q|.wb b,.rd b' _ _|.rd b' _ _,.wb b|.wb b,.wr b' _ _|.wr b' _ _,.wb b|.wb b,.wb b'|.wb b,.lk _ _ b' _|.lk _ _ b' _,.wb b|.wb b,.me _ _ b' _|.me _ _ b' _,.wb b=>b≠b'|.lk _ _ b _,.wr b' _ _|.wr b' _ _,.lk _ _ b _|.rd b _ _,.me _ _ b' _|.me _ _ b' _,.rd b _ _|.wr b _ _,.me _ _ b' _|.me _ _ b' _,.wr b _ _|.me _ _ b' _,.me _ _ b _=>b≠b'|.lk t ky b k,.me E _ b' A|.me E _ b' A,.lk t ky b k=>b≠b'||(t==E&&(match eI ky k A with|some true=>true|_=>false))|_,_=>true
def zA:IV->Fp|.slice b _ _ _ false=>.rd b 0 0|_=>.none
def iZ(o:IOp)(xs:List IV):Option Fp:=match o.kd,xs with|.slc _ _ _ _,s::_=>some (zA s)|.store n,[.ptr b a,_]=>some (.wr b a n)|.store _,_=>none|.load n,[.ptr b a]=>some (.rd b a (n.getD 1))|.load _,_=>none|.lookup t ky _ false,[.map b,k]=>some (.lk t ky b k)|.lookup _ _ _ false,[.nilMap,_]=>some .none|.lookup _ _ _ false,_=>none|.append _ _ _,.slice b _ _ _ _::_=>some (if o.amb then .wb b else .none)|.mapEntry t ky _,[.map b,k]=>some (if o.amb then .me t ky b k else .none)|_,_=>some .none
def ss(q:dV)(o:IOp)(xs:List IV):Option dV:=match iZ o xs with|none=>none|some f=>if q.all λp=>o.mask.testBit p.1||bi p.2 f then some ((o.idx,f)::q) else none
def jc(free:Option dV)(o:IOp)(lo:Nat)(H:Heap):Nat:=match free with|none=>lo|some _=>if o.amb then lo else H.n
def bO(free:Option dV)(o:IOp)(xs:List IV):Option (Option dV):=match free with|none=>some none|some q=>(ss q o xs).map some
def ni(rd:Option Nat)(H:Heap):Option (Nat×List Nat×Heap):=match rd with|none=>some (H.n,[H.n],H.new .deferred)|some l=>match H.get l with|some (.loop _ _ _ _ _ _ q)=>some (q,[],H)|_=>none
def ov(l:Nat)(H:Heap):Option Heap:=match H.get l with|some (.loop .ready pend tm E q body A)=>some (H.put l (.loop .busy pend tm E q body A))|_=>none
def Hg(l:Nat)(e:Ex)(H:Heap):Option (Out×Heap):=match H.get l with|some (.loop _ _ tm E q body A)=>(match e with|.normal=>some (.val (.bool true),H.put l (.loop .ready none tm E q body A))|.jmp j=>some (.val (.bool false),H.put l (.loop .done (some j) tm E q body A)))|_=>none
def run(E:Env):Nat->Task->Nat->Heap->Option (Out×Heap)|0,_,_,_=>none|n+1,t,lo,H=>match t with|.code c rd fr=>(match c with|.skip=>some (.ex .normal fr,H)|.exit id=>some (.ex (.jmp (.exit id)) fr,H)|.ret=>some (.ex (.jmp .ret) fr,H)|.ops l=>run E n (.segs l rd fr) lo H|.seq a b=>(match run E n (.code a rd fr) lo H with|some (.ex .normal q,H')=>run E n (.code b rd q) lo H'|r=>r)|.cond c a b=>(match c.eval E.g0 fr.tm with|some (.bool true)=>run E n (.code a rd fr) lo H|some (.bool false)=>run E n (.code b rd fr) lo H|_=>none)|.block id c=>(match run E n (.code c rd fr) lo H with|some (.ex (.jmp (.exit T)) q,H')=>some (.ex (if T=id then .normal else .jmp (.exit T)) q,H')|r=>r)|.loop c=>(match run E n (.code c rd fr) lo H with|some (.ex .normal q,H')=>run E n (.code (.loop c) rd q) lo H'|r=>r)|.scope c=>run E n (.code c rd fr) lo H|.rfn f O A body=>match f.eval E.g0 fr.tm,ni rd H with|some g,some (Z,marks,H1)=>(match run E n (.apply g [.yield H1.n]) lo (H1.new (.loop .ready none fr.tm O A body Z)) with|some (.val _,U)=>(match U.get H1.n with|some (.loop st pend tm O A body Z)=>(if st=.busy\/H1.n<lo then none else let V:=U.put H1.n (.loop .exhausted pend tm O A body Z);let q:Fr:={fr with marks:=marks++fr.marks};match pend with|none=>some (.ex .normal q,V)|some j=>some (.ex (.jmp j) q,V))|_=>none)|_=>none)|_,_=>none)|.segs l rd fr=>(match l with|[]=>some (.ex .normal fr,H)|(k,os)::l=>match run E n (.ops (match k with|.seq=>none|.free=>some []) os rd fr) lo H with|some (.ex .normal q,H')=>run E n (.segs l rd q) lo H'|_=>none)|.ops free l rd fr=>(match l with|[]=>some (.ex .normal fr,H)|o::l=>if dH fr.tm o.guard then match cJ E.g0 fr.tm o.args with|none=>none|some xs=>match bO free o xs with|none=>none|some F=>match o.kd with|.call=>(match xs with|f::xs=>(match run E n (.apply f xs) (jc free o lo H) H with|some (.val v,H')=>run E n (.ops F l rd (fr.put o.dst v)) lo H'|_=>none)|[]=>none)|kd=>match ev1 kd xs (jc free o lo H) H with|some (v,H')=>run E n (.ops F l rd (fr.put o.dst v)) lo H'|none=>none else run E n (.ops free l rd (fr.put o.dst UN)) lo H)|.apply f args=>(match f with|.fn f I cap=>run E n (.call f (I++args++cap)) lo H|.yield l=>(match H.get l with|some (.loop _ _ tm O A body _)=>if args.length=O.length/\lo<=l then match run E n (.code A (some l) ⟨jf tm O args,[]⟩) lo H with|some (.ex .normal fr,H1)=>(match ov l H1 with|some U=>(match run E n (.code body (some l) fr) lo U with|some (.ex e _,V)=>Hg l e V|_=>none)|none=>none)|_=>none else none|_=>none)|_=>none)|.call f args=>match E.sums f with|some s=>(s args lo H).map λ(v,H')=>(.val v,H')|none=>match E.fns f with|none=>none|some fn=>match run E n (.code fn.body none ⟨args++dZ (fn.ntmps - args.length),[]⟩) lo H with|some (.ex e fr,H')=>(match e with|.jmp (.exit _)=>none|_=>match dc lo fr.marks H' with|none=>none|some Q=>(aY Q fr.tm fn.results).map λvs=>(.val (kh vs),Q))|_=>none
def xg:Nat->Value->Option IV|0,_=>none|n+1,v=>match v with|.bool b=>some (.bool b)|.int k n=>some (.int k n)|.string s=>some (.str s.data.toList)|.pointer none=>some .nilPtr|.slice none 0 0=>some .nilSlice|.map none=>some .nilMap|.nilFunc=>some .nilFunc|.nilIface=>some .nilIface|.agg cs=>(cs.toList.mapM (xg n)).map .agg|_=>none
def um:Operand->Option IA|.tmp t=>some (.tmp t)|.const v=>(xg 3 v).map .val|.global g=>some (.glob g)|.func f=>some (.val (.fn f [] []))
section
variable (P:Program)
def bj(t:TypeId):Option Nat:=(P.info? t).map (·.size)
def rE(t:TypeId):Option Nat:=(P.info? t).map (·.bytes)
def xS(t:TypeId):Option (Option Nat):=match P.underlying t,bj P t with|some (.struct _),some n=>some (some n)|some (.array _ _),some n=>some (some n)|some (.struct _),none=>none|some (.array _ _),none=>none|some _,some _=>some none|_,_=>none
def kY(t:TypeId):Option IV:=((P.info? t).bind (·.zero)).bind (xg 3)
def tD(aA:TypeId->Option (List Pk)):List Field->Nat->Option (List Pk)|[],_=>some []|f::fs,off=>match aA f.type with|some l=>if f.name≠"_"/\f.offset=off/\bj P f.type=some l.length then(tD aA fs (off+l.length)).map (l++·) else none|none=>none
def dj:Nat->TypeId->Option (List Pk)|0,_=>none|d+1,t=>match P.underlying t with|some .bool=>some [.bool]|some (.int _)=>some [.int]|some .string=>some [.str]|some (.struct fs)=>if P.stoodInHeld t then none else tD P (dj d) fs.toList 0|some (.array n e)=>(match dj d e with|some l=>if bj P e=some l.length then some (List.replicate n l).flatten else none|none=>none)|_=>none
def so(k:TypeId):Option (Bool×List Pk):=(dj P 8 k).map λds=>(match P.underlying k with|some (.struct _)|some (.array _ _)=>true|_=>false,ds)
def tP(l:List Operand):Option (List IA):=l.mapM um
def qR(t:TypeId)(i:Nat):Option Field:=match P.underlying t with|some (.struct fs)=>fs[i]?|_=>none
def oF(e:TypeId):Option (Nat×List IV):=match bj P e,kY P e with|some n,some z=>if z.cells.length=n then some (n,z.cells) else none|_,_=>none
def a7(b:Builtin)(ts:List TypeId):Option Kd:=match b,ts with|.len,[t]=>(match P.underlying t with|some (.slice _)=>some .lenSl|some (.map _ _)=>some .lenMap|_=>none)|.cap,[t]=>(match P.underlying t with|some (.slice _)=>some .cap|_=>none)|.append,[t,u]=>(match P.underlying t,P.underlying u with|some (.slice e),some (.slice _)=>(oF P e).bind λz=>(rE P e).map λb=>.append e z.1 b|some (.slice e),some .string=>(oF P e).bind λz=>(rE P e).map λb=>.append e z.1 b|_,_=>none)|.copy,t::_=>(match P.underlying t with|some (.slice e)=>(bj P e).map .copy|_=>none)|.delete,t::_=>(match P.underlying t with|some (.map k _)=>(so P k).map .delete|_=>none)|.clear,t::_=>(match P.underlying t with|some (.slice e)=>(oF P e).map λz=>.clear z.2|_=>none)|.min,_=>some .min|.max,_=>some .max|_,_=>none
def Nu(op:BinOp)(t:TypeId):Option Kd:=match op with|.eql|.neq=>(let neg:=op matches .neq;match P.underlying t with|some .bool=>some (.eqBool neg)|some (.int _)|some .string=>some (.bin op)|some (.struct _)|some (.array _ _)=>if P.eqGuardType P.depth t then none else(dj P 8 t).map (.eqFlat neg)|some (.pointer _)=>some (.eqNil neg .ptr)|some (.slice _)=>some (.eqNil neg .sl)|some (.map _ _)=>some (.eqNil neg .map)|some (.func _ _ _)=>some (.eqNil neg .fn)|_=>none)|_=>some (.bin op)
def xA(place:Nat->Option (Nat×Nat))(q:Array (Nat×Operand)):Option (List (Nat×Nat)):=q.toList.mapM λp=>place p.1
def cY(op:Op):Option Kd:=match op with|.move _|.assign _=>some .move|.pick _ _ _=>some .pick|.alloc e=>(bj P e).bind λn=>(kY P e).map λz=>.alloc e n z.cells|.box e _=>(bj P e).map λn=>.box e n|.build t E=>(match P.underlying t with|some (.struct fs)=>if fs.all λf=>(bj P f.type).isSome then (xA (λi=>(fs[i]?).bind λf=>(bj P f.type).map λn=>(f.offset,n)) E).bind λq=>(kY P t).map λz=>.build z.cells q else none|some (.array _ e)=>(bj P e).bind λn=>(xA (λi=>some (i*n,n)) E).bind λq=>(kY P t).map λz=>.build z.cells q|_=>none)|.buildSlice t len E=>(match P.underlying t with|some (.slice e)=>(oF P e).bind λz=>(xA (λi=>some (i*z.1,z.1)) E).bind λq=>if len*z.1<=2^24/\len<2^40 then some (.buildSl e z.1 len (oC len z.2) q) else none|_=>none)|.load t _=>(xS P t).map .load|.store t _ _=>(bj P t).map .store|.nilCheck _=>some .nilCheck|.binOp op t _ _ _=>Nu P op t|.unOp op _ _=>some (.un op)|.convert I dst _=>(match P.underlying I,P.underlying dst with|some (.int _),some (.int k)=>some (.conv k)|_,_=>none)|.makeFunc (.func f) A _=>some (.mkfn f A.size)|.makeMap t _=>(match P.underlying t with|some (.map _ _)=>some .mkmap|_=>none)|.makeSlice t _ _=>(match P.underlying t with|some (.slice e)=>(oF P e).bind λz=>(rE P e).map λb=>.mksl e z.1 b z.2|_=>none)|.slice t _ lo hi O=>(match P.underlying t with|some (.slice e)=>(bj P e).map λn=>.slc n lo.isSome hi.isSome O.isSome|_=>none)|.fieldAddr t _ i=>(qR P t i).bind λf=>(bj P f.type).bind λn=>if n=0 then none else some (.fieldAddr f.offset)|.field t _ i=>(qR P t i).bind λf=>(xS P f.type).map λn=>.field f.offset n|.indexAddr t _ _=>(match P.underlying t with|some (.slice e)=>(bj P e).map .idxSl|some (.array n e)=>(bj P e).map λk=>.idxArrAddr n k|_=>none)|.index t _ _=>(match P.underlying t with|some (.array n e)=>(bj P e).bind λk=>(xS P e).map λa=>.idxArr n k a|_=>none)|.lookup t _ _ ok=>(match P.underlying t with|some (.map k e)=>(so P k).bind λky=>(kY P e).map λz=>.lookup t ky z ok|_=>none)|.mapUpdate t _ _ _|.insert t _ _ _=>(match P.underlying t with|some (.map F _)=>(so P F).map .mapUpd|_=>none)|.mapEntry t _ _=>(match P.underlying t with|some (.map F e)=>(so P F).bind λky=>(kY P e).map λz=>.mapEntry t ky z|_=>none)|.entryStore _ _ _ _=>some .entryStore|.range t _=>(match P.underlying t with|some (.map _ _)=>some .rangeM|_=>none)|.next _ false=>some .nextM|.entry _=>some .entryM|.extract _ i=>some (.extract i)|.call c=>(match c.callee with|.value _=>some .call|.builtin b=>a7 P b c.argTypes.toList|_=>none)|_=>none
def YE(o:Oper):Option (Kd×List IA):=do
 let kd←cY P o.op
 let as←tP o.op.operands.toList
 pure (kd,as)
def Lc:List Oper->Nat->Bool|[],_=>true|o::os,i=>(o.after.all λe=>!Region.binds .any e||decide (e.on<i))&&Lc os (i+1)
def mask(q:List Nat)(o:Oper):Nat:=o.after.toList.foldl (λs e=>if Region.binds .any e then s||| 2^e.on||| q.getD e.on 0 else s) 0
def jp:List Oper->List Nat->List Nat|[],q=>q|o::os,q=>jp os (q++[mask q o])
def jR(ms:List Nat)(i j:Nat):Bool:=(ms.getD (Max.max i j) 0).testBit (Min.min i j)
def Ds:IA->Option Nat|.tmp t=>some t|_=>none
def IOp.names(o:IOp):List Nat:=o.dst.toList++o.args.filterMap Ds++(o.guard.map (·.1)).toList
def xj(a b:IOp):Bool:=(match a.dst with|some d=>!b.names.contains d|none=>true)&& (match b.dst with|some d=>!a.names.contains d|none=>true)
def sE(ms:List Nat)(i:Nat)(a:IOp):List IOp->Nat->Bool|[],_=>true|b::l,j=>(jR ms i j||xj a b)&&sE ms i a l (j+1)
def vM(ms:List Nat):List IOp->Nat->Bool|[],_=>true|a::l,i=>sE ms i a l (i+1)&&vM ms l (i+1)
def mI(ops:Array Oper)(o:Oper):Option IOp:=do
 let (kd,args)←YE P o
 let guard←match o.guard with
  | none=>pure none
  | some (j,want)=>do pure (some (←(ops[j]?).bind (·.dst),want))
 pure {dst:=o.dst,kd,args,guard,amb:=true,idx:=0,mask:=0}
def IU(ms:List Nat)(i:Nat):Bool:=(ms.drop i).all λm=>m%2^i=2^i - 1
def tc(l:List IOp):Sg:=if l.length<=1 then .seq else .free
def Kd.isLoad:Kd->Bool|.load _|.slc _ _ _ _=>true|_=>false
def Kd.isLook:Kd->Bool|.lookup _ _ _ false=>true|_=>false
def Kd.light(k:Kd):Bool:=k.pure||k.isLoad||k.isLook
def Kd.isWr:Kd->Bool|.append _ _ _|.mapEntry _ _ _=>true|_=>false
def oZ(ms:List Nat)(i:Nat)(ok:Kd->Bool):List IOp->Nat->Bool|[],_=>true|b::l,j=>(i==j||jR ms i j||ok b.kd)&&oZ ms i ok l (j+1)
def OL(ms:List Nat)(l:List IOp)(i:Nat)(k:Kd):Bool:=k.isStore||oZ ms i Kd.pure l 0||(k.isWr&&oZ ms i Kd.light l 0)
def mZ(ms:List Nat)(all:List IOp):List IOp->Nat->List IOp|[],_=>[]|o::l,i=>{o with amb:=OL ms all i o.kd,idx:=i,mask:=ms.getD i 0}::mZ ms all l (i+1)
def ql(a b:IOp):Bool:=a.kd.light||b.kd.light||(a.kd.isStore&&b.kd.isStore)||(!a.amb&&!b.amb)
def pK(ms:List Nat)(i:Nat)(a:IOp):List IOp->Nat->Bool|[],_=>true|b::l,j=>(jR ms i j||ql a b)&&pK ms i a l (j+1)
def rU(ms:List Nat):List IOp->Nat->Bool|[],_=>true|a::l,i=>pK ms i a l (i+1)&&rU ms l (i+1)
def parts(ms:List Nat):List IOp->Nat->List IOp->List (Sg×List IOp)|[],_,[]=>[]|[],_,q=>[(tc q.reverse,q.reverse)]|o::l,i,q=>if IU ms (i+1) then(tc (o::q).reverse,(o::q).reverse)::parts ms l (i+1) [] else parts ms l (i+1) (o::q)
def J4(md:Region.Mode)(ops:Array Oper):List Nat->List Nat->Bool|[],seen=>(List.range ops.size).all seen.contains|i::l,seen=>(match ops[i]? with|some o=>o.after.all (λe=>!Region.binds md e||seen.contains e.on)|none=>false)&&J4 md ops l (i::seen)
def Av(ops:Array Oper):Bool:=J4 .any ops (List.range ops.size) []&& (!Region.departs ops||(J4 .text ops (List.range ops.size) []&&J4 .gc ops (Region.linearise .gc ops 0) []))
def dm(ops:Array Oper)(draw:Bool):Option (List (Sg×List IOp)):=do
 let l←ops.toList.mapM (mI P ops)
 if draw then
  let ms:=jp ops.toList []
  let l:=mZ ms l l 0
  if Av ops&&Lc ops.toList 0&&vM ms l 0&&rU ms l 0 then pure (parts ms l 0 []) else none
 else pure [(.seq,l)]
def bg:Code→Option IC
 | .skip=>some .skip
 | .region _ ops draw=>(dm P ops draw).map .ops
 | .seq a b=>do pure (.seq (←bg a) (←bg b))
 | .cond c a b=>do pure (.cond (←um c) (←bg a) (←bg b))
 | .block id c=>do pure (.block id (←bg c))
 | .scope c=>do pure (.scope (←bg c))
 | .label _=>some .skip
 | .loop c=>do pure (.loop (←bg c))
 | .rangeFunc f ps asg body=>do pure (.rfn (←um f) ps.toList (←bg asg) (←bg body))
 | .exit id=>some (.exit id)
 | .ret=>some .ret
 | _=>none
def Cf:ResultVar->Option (Nat×Option (Option Nat))|.tmp t=>some (t,none)|.cell a t=>(xS P t).map λn=>(a,some n)
def ju(f:FuncId):Option IFn:=
 match P.funcs[f]? with
 | none=>none
 | some fn=>
   if fn.name=="runtime.NumGoroutine" then none else
   match fn.body with
   | none=>none
   | some c=>do pure ⟨fn.ntmps,←fn.results.toList.mapM (Cf P),←bg P c⟩
end
def IObj.owned:IObj->Bool|.cells true _ _ _=>false|.dead=>false|_=>true
def oP:Jmp->Code|.exit id=>.exit id|.ret=>.ret
def EsR(μ:Mu):List (IV×IV×Nat)->List MapEntry->Prop|[],l=>l=[]|(k,v,s)::A,l=>∃(e:MapEntry) (q:List MapEntry),l=e::q/\VR μ k e.key/\VR μ v e.val/\e.born=s/\EsR μ A q
def EsR.mono{μ q:Mu}(A:μ.le q):∀{E:List (IV×IV×Nat)}{l:List MapEntry},EsR μ E l->EsR q E l|[],_,h=>h|(k,v,_)::_,_,h=>by obtain⟨e,F,a,b,c,d,f⟩:=h;exact⟨e,F,a,VR.mono A k _ b,VR.mono A v _ c,d,EsR.mono A f⟩
def ObjR(P:Program)(μ:Mu)(o:IObj)(p ez z:Nat)(h:Option Obj):Prop:=match o with|.cells true _ _ cs=>ez=0/\∃(q:Array Value) (e:TypeId) (V:Nat×Nat),h=some (.cells q e V)/\p+cs.length<=q.size/\VRs μ cs ((q.toList.drop p).take cs.length)|.cells false e O cs=>p=0/\ez=O/\∃q:Array Value,h=some (.cells q e (0,0))/\q.size=z/\cs.length<=z/\VRs μ cs (q.toList.take cs.length)|.map U A=>p=0/\∃F:Array MapEntry,h=some (.map F A)/\EsR μ U F.toList|.loop st pend tm Z I body T=>p=0/\∃L:Loop,h=some (.loop L)/\L.state=st/\L.pending=pend.map oP/\VRs μ tm L.tmps.toList/\L.params.toList=Z/\ bg P L.assign=some I/\bg P L.body=some body/\LocR μ T 0 ⟨L.defers,0,none⟩|.deferred=>p=0/\h=some (.deferred (some []))|.taken=>p=0/\h=some (.deferred none)|.iter m E seen last=>p=0/\∃Q:Option Nat,h=some (.mapIter Q E seen.toArray last)/\VR μ (match m with|none=>.nilMap|some b=>.map b) (.map Q)|.dead=>False
def ObjR.mono{P:Program}{μ E:Mu}{o:IObj}{p ez z:Nat}{h:Option Obj}(A:μ.le E)(k:ObjR P μ o p ez z h):ObjR P E o p ez z h:=by cases o with|cells ro e U cs=>cases ro;{obtain⟨a,b,q,c,d,I,f⟩:=k;exact⟨a,b,q,c,d,I,VRs.mono A _ _ f⟩};{obtain⟨a,q,I,V,b,c,f⟩:=k;exact⟨a,q,I,V,b,c,VRs.mono A _ _ f⟩}|map es F=>obtain⟨a,O,b,c⟩:=k;exact⟨a,O,b,EsR.mono A c⟩|loop st pend tm ps T body df=>obtain⟨a,L,b,c,d,e,f,g,i,j⟩:=k;exact⟨a,L,b,c,d,VRs.mono A _ _ e,f,g,i,j.mono A⟩|deferred=>exact k|taken=>exact k|iter m Q seen last=>obtain⟨a,Z,b,c⟩:=k;exact⟨a,Z,b,VR.mono A _ _ c⟩|dead=>exact k
def ObjR.some_{P:Program}{μ:Mu}{o:IObj}{p ez z:Nat}{h:Option Obj}(k:ObjR P μ o p ez z h):∃x,h=some x:=by cases o with|cells Q e O cs=>cases Q;{obtain⟨_,_,A,c,_⟩:=k;exact⟨_,c⟩};{obtain⟨_,A,U,Z,b,_⟩:=k;exact⟨_,b⟩}|map V q=>obtain⟨_,I,b,_⟩:=k;exact⟨_,b⟩|loop st pend tm ps F body T=>obtain⟨_,L,b,_⟩:=k;exact⟨_,b⟩|deferred=>exact⟨_,k.2⟩|taken=>exact⟨_,k.2⟩|iter m E seen last=>obtain⟨_,m',b,_⟩:=k;exact⟨_,b⟩|dead=>exact k.elim
abbrev Gt:=Nat->Option IObj
def bF(g:Gt)(b:Nat):Prop:=∃o,g b=some o/\o.owned=true
structure Rel(P:Program)(g0:Nat)(μ:Mu)(g:Gt)(n:Nat)(w:World):Prop where
 lt:∀b,μ b≠.no→b < n
 inj:∀b b' c p ez z p' ez' z',μ b=.at c p ez z→μ b'=.at c p' ez' z'→bF g b→b=b'
 obj:∀b c p ez z,μ b=.at c p ez z→∃o,g b=some o∧ObjR P μ o p ez z w.heap[c]?
 glob:∀i,i < g0→μ i=.at i 0 0 0
 ded:∀b,μ b=.dead→g b=some .dead
structure Post(lo:Nat)(μ:Mu)(g:Gt)(n:Nat)(w:World)(μ':Mu)(g':Gt)(n':Nat)(w':World):Prop where
 le:μ.le μ'
 hn:n≤n'
 old:∀b,b < n→μ b=.no→μ' b=.no
 low:∀b,b < lo→b < n→μ' b=μ b∧g' b=g b
 own:∀b,b < n→bF g' b→bF g b
 new:∀b c p ez z,n≤b→μ' b=.at c p ez z→w.heap.size≤c∨∃b0 p0 ez0 z0,lo≤b0∧b0 < n∧bF g b0∧μ b0=.at c p0 ez0 z0
 full:∀b,n≤b→b < n'→μ' b≠.no
 size:w.heap.size≤w'.heap.size
 frame:∀c,c < w.heap.size→(∀b p ez z,lo≤b→b < n→bF g b→μ b≠.at c p ez z)→w'.heap[c]? =w.heap[c]?
 os:w'.os=w.os
 tape:w'.tape=w.tape
 output:w'.output=w.output
 drawn:w.drawn≤w'.drawn
section
variable {P:Program}{g0 lo n:Nat}{μ:Mu}{g:Gt}{w:World}
def Rel.clt(h:Rel P g0 μ g n w){b c p ez z:Nat}(q:μ b=.at c p ez z):c<w.heap.size:=by obtain⟨o,_,A⟩:=h.obj b c p ez z q;obtain⟨x,hx⟩:=A.some_;grind
def Rel.heap_eq{w':World}(h:Rel P g0 μ g n w)(e:w'.heap=w.heap):Rel P g0 μ g n w':=⟨h.lt,h.inj,λb c p ez z q=>by rw[e];exact h.obj b c p ez z q,h.glob,h.ded⟩
def Rel.congr{F:Gt}(h:Rel P g0 μ g n w)(e:∀b,μ b≠.no->F b=g b):Rel P g0 μ F n w where lt:=h.lt;inj:=λb b' c p ez z Q A T q E O=>h.inj b b' c p ez z Q A T q E (by obtain⟨o,U,I⟩:=O;exact⟨o,by grind,I⟩);obj:=λb c p ez z q=>by{rw[e b (by grind)];exact h.obj b c p ez z q};glob:=h.glob;ded:=λb q=>by rw[e b (by grind)];exact h.ded b q
def Rel.more{q:Nat}(h:Rel P g0 μ g n w)(hn:n<=q):Rel P g0 μ g q w:=⟨λb A=>cu (h.lt b A) hn,h.inj,h.obj,h.glob,h.ded⟩
theorem Post.refl(h:Rel P g0 μ g n w):Post lo μ g n w μ g n w where le:=μ.le_refl;hn:=ao _;old:=λ_ _ h=>h;low:=λ_ _ _=>⟨rfl,rfl⟩;own:=λ_ _ h=>h;new:=λb c p ez z E e=>absurd (h.lt b (by grind)) Om;full:=λb q A=>Om;size:=ao _;frame:=λ_ _ _=>rfl;os:=rfl;tape:=rfl;output:=rfl;drawn:=ao _
def Post.trans{n1 n2:Nat}{O ag:Mu}{g1 g2:Gt}{w1 w2:World}(h:Post lo μ g n w O g1 n1 w1)(k:Post lo O g1 n1 w1 ag g2 n2 w2):Post lo μ g n w ag g2 n2 w2 where le:=Mu.le_trans h.le k.le;hn:=de h.hn k.hn;old:=λb F e=>k.old b (cu F h.hn) (h.old b F e);low:=λb hl F=>by{obtain⟨a1,a2⟩:=h.low b hl F;obtain⟨b1,b2⟩:=k.low b hl (cu F h.hn);grind};own:=λb F o=>h.own b F (k.own b (cu F h.hn) o);new:=λb c p ez z F e=>by{have key:∀b0 Q A T,lo<=b0->b0<n1->bF g1 b0->O b0=.at c Q A T->w.heap.size<=c\/∃b0 Q A T,lo<=b0/\b0<n/\bF g b0/\μ b0=.at c Q A T:=by{intro b0 Q A T U an ho V;by_cases q:b0<n;{have E:μ b0≠.no:=λZ=>by{rw[h.old b0 q Z] at V;cases V};rcases h.le b0 E with I|I;{exact .inr ⟨b0,Q,A,T,U,q,h.own b0 q ho,by rw[<-I];exact V⟩};{rw[I] at V;cases V}};{exact h.new b0 c Q A T Om V}};by_cases q:b<n1;{have E:O b≠.no:=λZ=>by{rw[k.old b q Z] at e;cases e};rcases k.le b E with I|I;{exact h.new b c p ez z F (by rw[<-I];exact e)};{rw[I] at e;cases e}};{rcases k.new b c p ez z Om e with hc|⟨b0,Q,A,T,h1,h2,h3,h4⟩;{exact .inl (de h.size hc)};grind}};full:=λb h1 h2=>by{by_cases F:b<n1;{have E:=h.full b h1 F;rcases k.le b E with e|e<;>grind};{exact k.full b Om h2}};size:=de h.size k.size;frame:=λc hc ad=>by{refine(k.frame c (cu hc h.size) λb p ez z U an ho e=>?_).trans (h.frame c hc ad);by_cases q:b<n;{have E:μ b≠.no:=λZ=>by{rw[h.old b q Z] at e;cases e};rcases h.le b E with I|I;{exact ad b p ez z U q (h.own b q ho) (by rw[<-I];exact e)};{rw[I] at e;cases e}};{rcases h.new b c p ez z Om e with ay|⟨b0,Q,A,T,h1,h2,h3,h4⟩<;>grind}};os:=k.os.trans h.os;tape:=k.tape.trans h.tape;output:=k.output.trans h.output;drawn:=de h.drawn k.drawn
def Post.lower{q n1:Nat}{A:Mu}{g1:Gt}{I:World}(hl:lo<=q)(h:Post q μ g n w A g1 n1 I):Post lo μ g n w A g1 n1 I where le:=h.le;hn:=h.hn;old:=h.old;low:=λb a c=>h.low b Om c;own:=h.own;new:=λb c p ez z Q e=>by{rcases h.new b c p ez z Q e with F|⟨b0,p0,O,z0,U,V,Z,h4⟩<;>grind};full:=h.full;size:=h.size;frame:=λc F E=>h.frame c F λb p ez z T=>E b p ez z Om;os:=h.os;tape:=h.tape;output:=h.output;drawn:=h.drawn
def Post.same{w':World}(h:Rel P g0 μ g n w)(e:w'.heap=w.heap)(q:w'.os=w.os)(A:w'.tape=w.tape)(E:w'.output=w.output)(F:w.drawn<=w'.drawn:=by first|exact ao _|exact pU _|assumption|(simp;done)|omega):Post lo μ g n w μ g n w' where le:=μ.le_refl;hn:=ao _;old:=λ_ _ h=>h;low:=λ_ _ _=>⟨rfl,rfl⟩;own:=λ_ _ h=>h;new:=λb c p ez z Q e=>absurd (h.lt b (by grind)) Om;full:=λb I O=>Om;size:=by{rw[e];exact ao _};frame:=λ_ _ _=>by{rw[e]};os:=q;tape:=A;output:=E;drawn:=F
def Mu.upd(μ:Mu)(b:Nat)(l:Loc):Mu:=λx=>if x=b then l else μ x
theorem aK(μ:Mu)(b:Nat)(l:Loc):μ.upd b l b=l:=by simp[Mu.upd]
theorem aL(μ:Mu){b x:Nat}(l:Loc)(h:x≠b):μ.upd b l x=μ x:=by simp[Mu.upd,h]
def Mu.le_upd(μ:Mu){b:Nat}(l:Loc)(h:μ b=.no):μ.le (μ.upd b l):=λx hx=>by left;refine aL _ _ λe=>hx (by rw[e];exact h)
def Mu.le_kill(μ:Mu)(b:Nat):μ.le (μ.upd b .dead):=λx hx=>by grind[aK,aL]
def Rel.fresh(h:Rel P g0 μ g n w):μ n=.no:=by cases e:μ n with|no=>rfl|dead=>exact absurd (h.lt n (by grind)) Om|«at» c p ez z=>exact absurd (h.lt n (by grind)) Om
theorem aap(h:Array Obj)(ob:Obj):(h.push ob)[h.size]? =some ob:=by simp
def MD(h:Array Obj)(ob:Obj){c:Nat}(q:c<h.size):(h.push ob)[c]? =h[c]?:=by grind
def Rel.alloc{H:Heap}(h:Rel P g0 μ H.get H.n w){w':World}{ob:Obj}{o:IObj}{ez z:Nat}(Z:w'.heap=w.heap.push ob)(V:ObjR P (μ.upd H.n (.at w.heap.size 0 ez z)) o 0 ez z (some ob))(e1:w'.os=w.os)(e2:w'.tape=w.tape)(e3:w'.output=w.output)(e4:w.drawn<=w'.drawn:=by first|exact ao _|exact pU _|assumption|(simp;done)|omega):Rel P g0 (μ.upd H.n (.at w.heap.size 0 ez z)) (H.new o).get (H.new o).n w'/\ Post lo μ H.get H.n w (μ.upd H.n (.at w.heap.size 0 ez z)) (H.new o).get (H.new o).n w':=by have O:=h.fresh;have I:=μ.le_upd (.at w.heap.size 0 ez z) O;have old:∀b,b≠H.n->(H.new o).get b=H.get b:=λb q=>by{rw[ak,if_neg (Ne.symm q)]};have ad:(H.new o).get H.n=some o:=by{rw[ak,if_pos rfl]};refine⟨⟨λb q=>?_,?_,?_,λi hi=>?_,λb q=>?_⟩,⟨I,by rw[ac];omega,λb q e=>?_,λb _ q=>?_,λb q V=>?_,λb c p ez z q e=>?_,λb h1 h2=>?_,?_,λc hc _=>?_,e1,e2,e3,e4⟩⟩;{rw[ac];by_cases e:b=H.n;{omega};{rw[aL _ _ e] at q;have:=h.lt b q;omega}};{intro b b' c p ez z p' E U q A Q;by_cases e:b=H.n;{subst e;rw[aK] at q;by_cases F:b'=H.n;{exact F.symm};{rw[aL _ _ F] at A;have:=h.clt A;grind}};{rw[aL _ _ e] at q;by_cases F:b'=H.n;{subst F;rw[aK] at A;have:=h.clt q;grind};{rw[aL _ _ F] at A;refine h.inj b b' c p ez z p' E U q A ?_;obtain⟨x,hx,T⟩:=Q;exact⟨x,by rw[<-old b e];exact hx,T⟩}}};{intro b c p E U q;by_cases e:b=H.n;{grind[aK,aap]};{rw[aL _ _ e] at q;obtain⟨x,hx,hr⟩:=h.obj b c p E U q;refine⟨x,by rw[old b e];exact hx,?_⟩;rw[Z,MD _ _ (h.clt q)];exact hr.mono I}};{have hn:μ i≠.no:=by{rw[h.glob i hi];exactλx=>by cases x};rw[aL _ _ (Oh (h.lt i hn))];exact h.glob i hi};{by_cases e:b=H.n;{grind[aK]};{rw[aL _ _ e] at q;rw[old b e];exact h.ded b q}};{grind[aL]};{grind[aL]};{obtain⟨x,hx,T⟩:=V;exact⟨x,by grind,T⟩};{by_cases eb:b=H.n;{grind[aK]};{rw[aL _ _ eb] at e;exact absurd (h.lt b (by grind)) Om}};{grind[ac,aK]};{grind};{rw[Z,MD _ _ hc]}
def Rel.update{H:Heap}(h:Rel P g0 μ H.get H.n w){w':World}{b c p ez z:Nat}{o:IObj}(Q:μ b=.at c p ez z)(ay:lo<=b)(F:bF H.get b)(aS:w'.heap.size=w.heap.size)(A:∀c',c'≠c->w'.heap[c']? =w.heap[c']?)(ho:ObjR P μ o p ez z w'.heap[c]?)(e1:w'.os=w.os)(e2:w'.tape=w.tape)(e3:w'.output=w.output)(e4:w.drawn<=w'.drawn:=by first|exact ao _|exact pU _|assumption|(simp;done)|omega):Rel P g0 μ (H.put b o).get (H.put b o).n w'/\Post lo μ H.get H.n w μ (H.put b o).get (H.put b o).n w':=by have old:∀x,x≠b->(H.put b o).get x=H.get x:=λx hx=>by{rw[aa,if_neg (Ne.symm hx)]};have ad:(H.put b o).get b=some o:=by{rw[aa,if_pos rfl]};have ag:b<H.n:=h.lt b (by rw[Q];exactλx=>by cases x);have E:∀x,bF (H.put b o).get x->bF H.get x:=λx hx=>by{by_cases e:x=b;{subst e;exact F};{obtain⟨y,Z,hz⟩:=hx;exact⟨y,by rw[<-old x e];exact Z,hz⟩}};refine⟨⟨h.lt,λx x' c1 I q O p2 T z2 hx V U=>h.inj x x' c1 I q O p2 T z2 hx V (E x U),λx c1 I q O hx=>?_,h.glob,λx hx=>by rw[old x (λe=>by subst e;rw[Q] at hx;cases hx)];exact h.ded x hx⟩,⟨μ.le_refl,ao _,λ_ _ e=>e,λx a0 _=>⟨rfl,old x Om⟩,λx _ hx=>E x hx,λx c1 I q O hx e=>absurd (h.lt x (by rw[e];exactλy=>by cases y)) Om,λx h1 h2=>by rw[af] at h2;omega,Om,λc1 an aE=>A c1 λe=>?_,e1,e2,e3,e4⟩⟩;{by_cases e:x=b;{subst e;rw[Q] at hx;injection hx with a1 a2 a3 a4;subst a1 a2 a3 a4;exact⟨o,ad,ho⟩};{obtain⟨y,Z,hr⟩:=h.obj x c1 I q O hx;refine⟨y,by rw[old x e];exact Z,?_⟩;rw[A c1 λec=>e ?_];{exact hr};{subst ec;exact(h.inj b x c1 p ez z I q O Q hx F).symm}}};grind
def Rel.kill{H:Heap}(h:Rel P g0 μ H.get H.n w){b:Nat}(ad:lo<=b)(hg:g0<=b)(Z:μ b≠.no):Rel P g0 (μ.upd b .dead) (H.put b .dead).get (H.put b .dead).n w/\Post lo μ H.get H.n w (μ.upd b .dead) (H.put b .dead).get (H.put b .dead).n w:=by have old:∀x,x≠b->(H.put b .dead).get x=H.get x:=λx hx=>by{rw[aa,if_neg (Ne.symm hx)]};have I:(H.put b .dead).get b=some .dead:=by{rw[aa,if_pos rfl]};have Q:b<H.n:=h.lt b Z;have F:=μ.le_kill b;have q:∀x c p ez z,μ.upd b .dead x=.at c p ez z->x≠b/\μ x=.at c p ez z:=λx c p ez z hx=>by{by_cases e:x=b;{subst e;rw[aK] at hx;cases hx};{rw[aL _ _ e] at hx;exact⟨e,hx⟩}};have A:∀x,bF (H.put b .dead).get x->bF H.get x:=λx hx=>by{by_cases e:x=b;{subst e;obtain⟨y,E,U⟩:=hx;rw[I] at E;injection E with E;subst E;cases U};{obtain⟨y,E,U⟩:=hx;exact⟨y,by rw[<-old x e];exact E,U⟩}};refine⟨⟨λx hx=>?_,λx x' c p ez z p' O z' hx T ho=>h.inj x x' c p ez z p' O z' (q _ _ _ _ _ hx).2 (q _ _ _ _ _ T).2 (A x ho),λx c p ez z hx=>?_,λi hi=>?_,λx hx=>?_⟩,⟨F,ao _,λx hx e=>?_,λx ag hx=>⟨aL _ _ Om,old x Om⟩,λx _ hx=>A x hx,λx c p ez z hx e=>absurd (h.lt x (by rw[(q _ _ _ _ _ e).2];exactλy=>by cases y)) Om,λx h1 V=>by rw[af] at V;omega,ao _,λ_ _ _=>rfl,rfl,rfl,rfl,ao _⟩⟩;{by_cases e:x=b;{subst e;exact Q};{rw[aL _ _ e] at hx;exact h.lt x hx}};{obtain⟨e,hx⟩:=q _ _ _ _ _ hx;obtain⟨y,E,hr⟩:=h.obj x c p ez z hx;exact⟨y,by rw[old x e];exact E,hr.mono F⟩};{rw[aL _ _ Om];exact h.glob i hi};{by_cases e:x=b;{subst e;exact I};{rw[aL _ _ e] at hx;rw[old x e];exact h.ded x hx}};grind[absurd,aL]
def Rel.regrow{H:Heap}(h:Rel P g0 μ H.get H.n w){w':World}{b c ez z:Nat}{o:IObj}(hb:μ b=.at c 0 ez z)(aE:lo<=b)(hg:g0<=b)(O:bF H.get b)(bc:w'.heap.size=w.heap.size)(T:∀c',c'≠c->w'.heap[c']? =w.heap[c']?)(ho:ObjR P ((μ.upd b .dead).upd H.n (.at c 0 ez z)) o 0 ez z w'.heap[c]?)(e1:w'.os=w.os)(e2:w'.tape=w.tape)(e3:w'.output=w.output)(e4:w.drawn<=w'.drawn:=by first|exact ao _|exact pU _|assumption|(simp;done)|omega):Rel P g0 ((μ.upd b .dead).upd H.n (.at c 0 ez z)) ((H.put b .dead).new o).get ((H.put b .dead).new o).n w'/\ Post lo μ H.get H.n w ((μ.upd b .dead).upd H.n (.at c 0 ez z)) ((H.put b .dead).new o).get ((H.put b .dead).new o).n w':=by have ay:b<H.n:=h.lt b (by rw[hb];exactλx=>by cases x);have old:∀x,x≠b->x≠H.n->((H.put b .dead).new o).get x=H.get x:=λx hx I=>by{rw[ak,if_neg (by rw[af];exact Ne.symm I),aa,if_neg (Ne.symm hx)]};have a5:((H.put b .dead).new o).get H.n=some o:=by{rw[ak,af,if_pos rfl]};have an:((H.put b .dead).new o).get b=some .dead:=by{rw[ak,af,iN,aa,if_pos rfl]};have mb:(μ.upd b .dead).upd H.n (.at c 0 ez z) b=.dead:=by{rw[aL _ _ Om,aK]};have mn:(μ.upd b .dead).upd H.n (.at c 0 ez z) H.n=.at c 0 ez z:=aK _ _ _;have Z:∀x,x≠b->x≠H.n->(μ.upd b .dead).upd H.n (.at c 0 ez z) x=μ x:=λx hx I=>by{rw[aL _ _ I,aL _ _ hx]};have ag:μ.le ((μ.upd b .dead).upd H.n (.at c 0 ez z)):=λx hx=>by{by_cases e:x=b;{subst e;exact .inr mb};{exact .inl (Z x e λE=>by subst E;exact hx h.fresh)}};have q:∀x c' p' Q z',(μ.upd b .dead).upd H.n (.at c 0 ez z) x=.at c' p' Q z'->(x=H.n/\c'=c/\p'=0/\Q=ez/\z'=z)\/(x≠b/\x≠H.n/\μ x=.at c' p' Q z'):=by{intro x c' p' Q z' hx;by_cases e:x=H.n;{subst e;rw[mn] at hx;injection hx with A a2 a3 a4;exact .inl ⟨rfl,A.symm,a2.symm,a3.symm,a4.symm⟩};{by_cases E:x=b;{subst E;rw[mb] at hx;cases hx};{rw[Z x E e] at hx;exact .inr ⟨E,e,hx⟩}}};have U:∀x,x<H.n->bF ((H.put b .dead).new o).get x->bF H.get x:=λx hx V=>by{obtain⟨y,hy,hz⟩:=V;by_cases e:x=b;{subst e;exact O};{exact⟨y,by rw[<-old x e Om];exact hy,hz⟩}};refine⟨⟨λx hx=>?_,λx x' c1 p1 F z1 p2 ad z2 hx I a0=>?_,λx c1 p1 F z1 hx=>?_,λi hi=>?_,λx hx=>?_⟩,⟨ag,by rw[ac,af];omega,λx hx e=>?_,λx bd hx=>⟨Z x Om Om,old x Om Om⟩,λx hx V=>U x hx V,λx c1 p1 F z1 hx e=>?_,λx h1 h2=>?_,Om,λc1 a6 a9=>T c1 λe=>?_,e1,e2,e3,e4⟩⟩;{rw[ac,af];by_cases e:x=H.n;{omega};{by_cases E:x=b;{omega};{rw[Z x E e] at hx;have:=h.lt x hx;omega}}};{rcases q _ _ _ _ _ hx with⟨a,A,-⟩|⟨a,a',A⟩;{rcases q _ _ _ _ _ I with⟨d,-⟩|⟨d,d',d1⟩;{rw[a,d]};{subst A;exact absurd (h.inj b x' c1 0 ez z p2 ad z2 hb d1 O).symm d}};{have aS:=h.lt x (by rw[A];exactλx=>by cases x);rcases q _ _ _ _ _ I with⟨d,d1,-⟩|⟨d,d',d1⟩;{subst d1;exact absurd (h.inj b x c1 0 ez z p1 F z1 hb A O).symm a};{exact h.inj x x' c1 p1 F z1 p2 ad z2 A d1 (U x aS a0)}}};{rcases q _ _ _ _ _ hx with⟨a,A,a2,a3,a4⟩|⟨a,a',A⟩;{subst a A a2 a3 a4;exact⟨o,a5,ho⟩};{obtain⟨y,hy,hr⟩:=h.obj x c1 p1 F z1 A;refine⟨y,by rw[old x a a'];exact hy,?_⟩;rw[T c1 λec=>a ?_];{exact hr.mono ag};{subst ec;exact(h.inj b x c1 0 ez z p1 F z1 hb A O).symm}}};{have hn:μ i≠.no:=by{rw[h.glob i hi];exactλx=>by cases x};rw[Z i Om (Oh (h.lt i hn))];exact h.glob i hi};{by_cases e:x=b;{subst e;exact an};{by_cases E:x=H.n;{subst E;rw[mn] at hx;cases hx};{rw[Z x e E] at hx;rw[old x e E];exact h.ded x hx}}};{by_cases E:x=b;{subst E;rw[hb] at e;cases e};{rw[Z x E Om];exact e}};{rcases q _ _ _ _ _ e with⟨a,A,-⟩|⟨a,a',A⟩;{subst A;exact .inr ⟨b,0,ez,z,aE,ay,O,hb⟩};{exact absurd (h.lt x (by rw[A];exactλy=>by cases y)) Om}};{have e:x=H.n:=by{rw[ac,af] at h2;omega};subst e;rw[mn];exactλx=>by cases x};grind
end
section
variable {P:Program}{g0 lo:Nat}{μ:Mu}{H:Heap}{w:World}
def Gives(P:Program)(g0 lo:Nat)(μ:Mu)(H:Heap)(w:World)(s:Sem Next)(v:IV)(H':Heap):Prop:=∃(nx:Next) (v':Value) (w':World) (q:Mu),s.run P w=.ok nx w'/\(nx=.value v'\/(nx=.skip/\v'=undef))/\ Rel P g0 q H'.get H'.n w'/\Post lo μ H.get H.n w q H'.get H'.n w'/\VR q v v'
def Gives.pure(h:Rel P g0 μ H.get H.n w){s:Sem Next}{v:IV}{v':Value}(q:s.run P w=.ok (.value v') w)(A:VR μ v v'):Gives P g0 lo μ H w s v H:=⟨_,v',w,μ,q,.inl rfl,h,Post.refl h,A⟩
def cn{x:IV}{l:List Value}(h:VRs μ [x] l):∃a,l=[a]/\VR μ x a:=by obtain⟨a,l1,rfl,q,A⟩:=h;cases A;exact⟨a,rfl,q⟩
def cv{x y:IV}{l:List Value}(h:VRs μ [x,y] l):∃a b,l=[a,b]/\VR μ x a/\VR μ y b:=by obtain⟨a,l1,rfl,q,A⟩:=h;obtain⟨b,rfl,E⟩:=cn A;exact⟨a,b,rfl,q,E⟩
def tX{x y z:IV}{l:List Value}(h:VRs μ [x,y,z] l):∃a b c,l=[a,b,c]/\VR μ x a/\VR μ y b/\VR μ z c:=by obtain⟨a,l1,rfl,A,q⟩:=h;obtain⟨b,c,rfl,E,F⟩:=cv q;grind
def mL{k:IntKind}{n:Int}{v:Value}(h:VR μ (.int k n) v):v=.int k n:=h
def qp{b:Bool}{v:Value}(h:VR μ (.bool b) v):v=.bool b:=h
def Sn{s:List UInt8}{v:Value}(h:VR μ (.str s) v):v=.string ⟨⟨s⟩⟩:=h
def bN{t:TypeId}{n:Nat}(h:bj P t=some n)(w:World):(sizeOf t).run P w=.ok n w:=by unfold bj at h;cases hi:P.info? t<;>simp_all[sizeOf,typeInfo]
def EB{t:TypeId}{n:Nat}(h:bj P t=some n):∃i,P.info? t=some i/\i.size=n:=by unfold bj at h;cases hi:P.info? t with|none=>rw[hi] at h;cases h|some i=>rw[hi] at h;injection h with h;exact⟨i,rfl,h⟩
def Ck{t:TypeId}{n:Nat}(h:rE P t=some n):∃i,P.info? t=some i/\i.bytes=n:=by unfold rE at h;cases hi:P.info? t with|none=>rw[hi] at h;cases h|some i=>rw[hi] at h;injection h with h;exact⟨i,rfl,h⟩
def Ce:∀(n:Nat)(v:Value)(x:IV),xg n v=some x->∀μ:Mu,VR μ x v:=by intro n;induction n with|zero=>intro v x h;cases h|succ n I=>intro v x h μ;unfold xg at h;split at h;{injection h with h;subst h;rfl};{injection h with h;subst h;rfl};{injection h with h;subst h;rfl};{injection h with h;subst h;rfl};{injection h with h;subst h;rfl};{injection h with h;subst h;rfl};{injection h with h;subst h;rfl};{injection h with h;subst h;rfl};{rename_i cs;cases hm:List.mapM (xg n) cs.toList with|none=>rw[hm] at h;cases h|some l=>rw[hm] at h;injection h with h;subst h;refine⟨cs,rfl,?_⟩;have key:∀(vs:List Value)(l:List IV),vs.mapM (xg n)=some l->VRs μ l vs:=by{intro vs;induction vs with|nil=>intro l q;simp at q;subst q;rfl|cons a vs F=>intro l q;simp only[xv] at q;cases A:xg n a with|none=>rw[A] at q;cases q|some x=>rw[A] at q;cases E:vs.mapM (xg n) with|none=>rw[E] at q;cases q|some xs=>rw[E] at q;injection q with q;subst q;exact⟨a,vs,rfl,I a x A μ,F xs E⟩};exact key _ _ hm};{cases h}
def mW{t:TypeId}{z:IV}(h:kY P t=some z):∃i q,P.info? t=some i/\i.zero=some q/\∀μ:Mu,VR μ z q:=by unfold kY at h;cases hi:P.info? t with|none=>rw[hi] at h;cases h|some i=>rw[hi] at h;cases A:i.zero with|none=>simp[A] at h|some q=>simp[A] at h;exact⟨i,q,rfl,A,Ce 3 q z h⟩
def VR.cells_{x:IV}{v:Value}(h:VR μ x v):VRs μ x.cells v.cells.toList:=by cases x with|agg l=>obtain⟨E,rfl,A⟩:=h;exact A|ptr b o=>obtain⟨a,rfl,q⟩:=h;exact⟨_,_,rfl,⟨a,rfl,q⟩,rfl⟩|slice b o n lb ex=>obtain⟨a,c,rfl,q⟩:=h;exact⟨_,_,rfl,⟨a,c,rfl,q⟩,rfl⟩|map b=>obtain⟨a,rfl,q⟩:=h;exact⟨_,_,rfl,⟨a,rfl,q⟩,rfl⟩|fn f a b=>obtain⟨l,r,rfl,q⟩:=h;exact⟨_,_,rfl,⟨l,r,rfl,q⟩,rfl⟩|yield b=>obtain⟨a,rfl,q⟩:=h;exact⟨_,_,rfl,⟨a,rfl,q⟩,rfl⟩|iface t x=>obtain⟨a,rfl,q⟩:=h;exact⟨_,_,rfl,⟨a,rfl,q⟩,rfl⟩|tuple l=>obtain⟨E,rfl,A⟩:=h;exact⟨_,_,rfl,⟨E,rfl,A⟩,rfl⟩|bool b=>cases h;exact⟨_,_,Rr⟩|int k n=>cases h;exact⟨_,_,Rr⟩|str s=>cases h;exact⟨_,_,Rr⟩|nilPtr=>cases h;exact⟨_,_,Rr⟩|nilSlice=>cases h;exact⟨_,_,Rr⟩|nilMap=>cases h;exact⟨_,_,Rr⟩|nilFunc=>cases h;exact⟨_,_,Rr⟩|nilIface=>cases h;exact⟨_,_,Rr⟩
def VR.one_cell{x:IV}{v:Value}(h:VR μ x v)(A:x.one=true):v.oneCell'=true:=by cases x with|agg l=>cases A|tuple l=>cases A|ptr b o=>obtain⟨a,rfl,q⟩:=h;rfl|slice b o n lb ex=>obtain⟨a,c,rfl,q⟩:=h;rfl|map b=>obtain⟨a,rfl,q⟩:=h;rfl|fn f a b=>obtain⟨l,r,rfl,q⟩:=h;rfl|yield b=>obtain⟨a,rfl,q⟩:=h;rfl|iface t x=>obtain⟨a,rfl,q⟩:=h;rfl|_=>cases h;rfl
def VRs.one_cells:∀{l:List IV}{E:List Value},VRs μ l E->l.all IV.one=true->∀v∈E,v.oneCell'=true|[],_,h,_,v,q=>by cases h;cases q|x::xs,_,h,A,v,q=>by obtain⟨y,ys,rfl,F,I⟩:=h;simp only[rZ,bV] at A;cases q with|head=>exact F.one_cell A.1|tail _ q=>exact VRs.one_cells I A.2 v q
end
section
variable {P:Program}{g0 lo:Nat}{μ:Mu}{H:Heap}{w:World}{ρ:Operand->Value}{type:TypeId}{pos:String}{dst:Option Tmp}{after:Array Edge}{guard:Option (Nat×Bool)}{xs:List IV}{v:IV}{H':Heap}
def Wt(h:Rel P g0 μ H.get H.n w){x:Operand}(q:ev1 .move xs lo H=some (v,H'))(hx:VRs μ xs [ρ x]):Gives P g0 lo μ H w (execOp ρ ⟨dst,.move x,type,pos,after,guard⟩) v H'/\Gives P g0 lo μ H w (execOp ρ ⟨dst,.assign x,type,pos,after,guard⟩) v H':=by simp only[ev1] at q;split at q;{injection q with q;injection q with A E;subst A E;obtain⟨y,I,F⟩:=cn hx;simp_all[Gives.pure,execOp]};{cases q}
def adb(h:Rel P g0 μ H.get H.n w){c a b:Operand}(q:ev1 .pick xs lo H=some (v,H'))(hx:VRs μ xs [ρ c,ρ a,ρ b]):Gives P g0 lo μ H w (execOp ρ ⟨dst,.pick c a b,type,pos,after,guard⟩) v H':=by simp only[ev1] at q;split at q;{rename_i c1 T b1;injection q with q;injection q with F I;subst F I;obtain⟨U,V,Z,E,A,O,Q⟩:=tX hx;simp only[kG,and_true] at E;obtain⟨rfl,rfl,rfl⟩:=E;cases c1;{exact Gives.pure h (v':=ρ b) (by simp[execOp,qp A,asBool]) (by simpa using Q)};{exact Gives.pure h (v':=ρ a) (by simp[execOp,qp A,asBool]) (by simpa using O)}};{cases q}
def PL(h:Rel P g0 μ H.get H.n w){x:Operand}(E:ev1 .nilCheck xs lo H=some (v,H'))(hx:VRs μ xs [ρ x]):Gives P g0 lo μ H w (execOp ρ ⟨dst,.nilCheck x,type,pos,after,guard⟩) v H':=by simp only[ev1] at E;split at E;{rename_i a;obtain⟨y,F,A⟩:=cn hx;injection F with F;subst F;cases a<;>simp only[reduceCtorEq] at E<;>(injection E with E;injection E with I O;subst I O);(case fn f l r=>obtain⟨Q,T,e,q⟩:=A;exact Gives.pure h (v':=ρ x) (by simp[execOp,e]) ⟨Q,T,e,q⟩);(case ptr b o=>obtain⟨a,e,q⟩:=A;exact Gives.pure h (v':=ρ x) (by simp[execOp,e]) ⟨a,e,q⟩);(case slice b o n lb ex=>obtain⟨a,c,e,q⟩:=A;exact Gives.pure h (v':=ρ x) (by simp[execOp,e]) ⟨a,c,e,q⟩);(case map b=>obtain⟨a,e,q⟩:=A;exact Gives.pure h (v':=ρ x) (by simp[execOp,e]) ⟨a,e,q⟩);(case iface t u=>obtain⟨a,e,q⟩:=A;exact Gives.pure h (v':=ρ x) (by simp[execOp,e]) ⟨a,e,q⟩);(case agg l=>obtain⟨a,e,q⟩:=A;exact Gives.pure h (v':=ρ x) (by simp[execOp,e]) ⟨a,e,q⟩);(case tuple l=>obtain⟨a,e,q⟩:=A;exact Gives.pure h (v':=ρ x) (by simp[execOp,e]) ⟨a,e,q⟩);all_goals have e:ρ x=_:=A;exact Gives.pure h (v':=ρ x) (by simp[execOp,e]) e};{cases E}
def YW{op:BinOp}{k E:IntKind}{a b:Int}{r:IV}(q:vK op (.int k a) (.int E b)=some r)(t:TypeId):∃F:Value,(binOp op t (.int k a) (.int E b)).run P w=.ok F w/\∀μ:Mu,VR μ r F:=by cases op<;>simp only[vK] at q;(case shl=>by_cases A:b<0;{grind};{rw[if_neg A] at q;injection q with q;subst q;exact⟨_,by simp[binOp,Op.shift,A],λ_=>rfl⟩});(case shr=>by_cases A:b<0;{grind};{rw[if_neg A] at q;injection q with q;subst q;exact⟨_,by simp[binOp,Op.shift,A],λ_=>rfl⟩});all_goals by_cases I:k=E;{subst I;simp only[if_true] at q;first|(injection q with q;subst q;exact⟨_,by simp[binOp,Op.intArith,Op.intBits,Op.intCmp]<;>rfl,λ_=>rfl⟩)|(by_cases A:b=0;{grind};{rw[if_neg A] at q;injection q with q;subst q;exact⟨_,by simp[binOp,Op.intDiv,A]<;>rfl,λ_=>rfl⟩})};{grind}
def OD{s:ByteArray}{l:List UInt8}(h:s.data.toList=l):s=⟨⟨l⟩⟩:=by subst h;rfl
def SF(l:List UInt8):(ByteArray.mk (Array.mk l)).toList=l:=by rw[ByteArray.toList_eq]
def YV{op:BinOp}{a b:List UInt8}{r:IV}(q:vK op (.str a) (.str b)=some r)(t:TypeId):∃A:Value,(binOp op t (.string ⟨⟨a⟩⟩) (.string ⟨⟨b⟩⟩)).run P w=.ok A w/\∀μ:Mu,VR μ r A:=by cases op<;>simp only[vK,reduceCtorEq] at q;(case add=>split at q;{rename_i Q;injection q with q;subst q;refine⟨.string (⟨⟨a⟩⟩++⟨⟨b⟩⟩),?_,λ_=>?_⟩;{have O:¬((((ByteArray.mk ⟨a⟩).size+(ByteArray.mk ⟨b⟩).size:Nat):Int)>IntKind.i64.max):=by{have E:(ByteArray.mk ⟨a⟩).size=a.length:=rfl;have F:(ByteArray.mk ⟨b⟩).size=b.length:=rfl;have I:IntKind.i64.max=9223372036854775807:=rfl;rw[E,F,I];omega};simp_all[binOp,Op.stringOp,if_neg]};{show Value.string _=Value.string _;exact congrArg Value.string (OD (by simp))}};{cases q});all_goals injection q with q;subst q;exact⟨_,by simp[binOp,Op.stringOp,SF]<;>rfl,λ_=>rfl⟩
def nh{op:BinOp}{t:TypeId}{x y:Operand}{a b:Value}(q:∀cs,a≠.agg cs)(A:a≠.nilIface):(eqGuard op t x y a b).run P w=.ok () w:=by simp_all[eqGuard]
def WA(h:Rel P g0 μ H.get H.n w){op:BinOp}{t Z:TypeId}{x y:Operand}(A:ev1 (.bin op) xs lo H=some (v,H'))(hx:VRs μ xs [ρ x,ρ y]):Gives P g0 lo μ H w (execOp ρ ⟨dst,.binOp op t x y Z,type,pos,after,guard⟩) v H':=by simp only[ev1] at A;split at A;{rename_i a b;obtain⟨y1,y2,T,O,Q⟩:=cv hx;simp only[kG,and_true] at T;obtain⟨rfl,rfl⟩:=T;cases E:vK op a b with|none=>rw[E] at A;cases A|some r=>rw[E] at A;injection A with A;injection A with U V;subst U V;cases a with|int k n=>(cases b with|int k' m=>obtain⟨I,q,F⟩:=YW (P:=P) (w:=w) E t;refine Gives.pure h (v':=I) ?_ (F μ);simp only[execOp,mL O,mL Q];simp[nh,q]|_=>cases op<;>simp[vK] at E)|str s=>(cases b with|str s'=>obtain⟨I,q,F⟩:=YV (P:=P) (w:=w) E t;refine Gives.pure h (v':=I) ?_ (F μ);simp only[execOp,Sn O,Sn Q];simp[nh,q]|_=>cases op<;>simp[vK] at E)|_=>cases op<;>simp[vK] at E};{cases A}
def Wx(h:Rel P g0 μ H.get H.n w){op:BinOp}{neg:Bool}{t Z:TypeId}{x y:Operand}(V:P.underlying t=some .bool)(F:op=.eql/\neg=false\/op=.neq/\neg=true)(A:ev1 (.eqBool neg) xs lo H=some (v,H'))(hx:VRs μ xs [ρ x,ρ y]):Gives P g0 lo μ H w (execOp ρ ⟨dst,.binOp op t x y Z,type,pos,after,guard⟩) v H':=by simp only[ev1] at A;split at A;{rename_i a b;injection A with A;injection A with T U;subst T U;obtain⟨y1,y2,Q,I,O⟩:=cv hx;simp only[kG,and_true] at Q;obtain⟨rfl,rfl⟩:=Q;have E:∀d:Nat,(Op.equalIn (d+1) t (.bool a) (.bool b)).run P w=.ok (a==b) w:=λd=>by{simp[Op.equalIn,run_underlying V]};have q:(Op.equal t (.bool a) (.bool b)).run P w=.ok (a==b) w:=E 9999;rcases F with⟨rfl,rfl⟩|⟨rfl,rfl⟩;{refine Gives.pure h (v':=.bool (a==b)) ?_ (by simp[VR]);simp only[execOp,qp I,qp O];simp[nh,binOp,q]};{refine Gives.pure h (v':=.bool (!(a==b))) ?_ (by simp[VR]);simp only[execOp,qp I,qp O];simp[nh,binOp,q]}};{cases A}
def aiP(h:Rel P g0 μ H.get H.n w){op:UnOp}{t:TypeId}{x:Operand}(q:ev1 (.un op) xs lo H=some (v,H'))(hx:VRs μ xs [ρ x]):Gives P g0 lo μ H w (execOp ρ ⟨dst,.unOp op t x,type,pos,after,guard⟩) v H':=by simp only[ev1] at q;split at q;{rename_i a;obtain⟨y,E,F⟩:=cn hx;injection E with E;subst E;cases A:unI op a with|none=>rw[A] at q;cases q|some r=>rw[A] at q;injection q with q;injection q with I O;subst I O;cases a with|int k n=>have e:=mL F;cases op<;>simp[unI] at A<;>subst A;{exact Gives.pure h (by simp[execOp,e,Op.unary,Op.intArith]<;>rfl) rfl};{exact Gives.pure h (by simp[execOp,e,Op.unary,Op.intBits]<;>rfl) rfl}|bool b=>have e:=qp F;cases op<;>simp[unI] at A;subst A;exact Gives.pure h (by simp[execOp,e,Op.unary]<;>rfl) rfl|_=>simp[unI] at A};{cases q}
def adh(h:Rel P g0 μ H.get H.n w){k k0:IntKind}{s d:TypeId}{x:Operand}(hs:P.underlying s=some (.int k0))(hd:P.underlying d=some (.int k))(q:ev1 (.conv k) xs lo H=some (v,H'))(hx:VRs μ xs [ρ x]):Gives P g0 lo μ H w (execOp ρ ⟨dst,.convert s d x,type,pos,after,guard⟩) v H':=by simp only[ev1] at q;split at q;{rename_i O n;injection q with q;injection q with E F;subst E F;obtain⟨y,A,I⟩:=cn hx;injection A with A;subst A;exact Gives.pure h (by simp[execOp,mL I,convert,run_underlying hs,run_underlying hd,Conv.intToInt]<;>rfl) rfl};{cases q}
def ade(h:Rel P g0 μ H.get H.n w){f:FuncId}{q cap:Array Operand}(A:ev1 (.mkfn f q.size) xs lo H=some (v,H'))(hx:VRs μ xs ((q++cap).toList.map ρ)):Gives P g0 lo μ H w (execOp ρ ⟨dst,.makeFunc (.func f) q cap,type,pos,after,guard⟩) v H':=by simp only[ev1] at A;injection A with A;injection A with E F;subst E F;refine Gives.pure h (v':=.func (.func f) (q.map ρ) (cap.map ρ)) (by simp[execOp,Instr.makeFunc]) ⟨_,_,rfl,?_,?_⟩;{have:=hx.take q.size;simp_all[List.take,List.map_take,List.take_append]};{have:=hx.drop q.size;simp_all[List.drop,List.drop_append]}
def S7(h:Rel P g0 μ H.get H.n w){i:Nat}{x:Operand}(q:ev1 (.extract i) xs lo H=some (v,H'))(hx:VRs μ xs [ρ x]):Gives P g0 lo μ H w (execOp ρ ⟨dst,.extract x i,type,pos,after,guard⟩) v H':=by simp only[ev1] at q;split at q;{rename_i l;cases A:l[i]? with|none=>rw[A] at q;cases q|some r=>rw[A] at q;injection q with q;injection q with O Q;subst O Q;obtain⟨y,I,V⟩:=cn hx;injection I with I;subst I;obtain⟨Z,e,T⟩:=V;obtain⟨u,U,F⟩:=T.get A;have E:Z[i]? =some u:=by{simpa using U};exact Gives.pure h (v':=u) (by simp[execOp,e,Instr.extract,E]) F};{cases q}
end
section
variable {P:Program}{g0 lo:Nat}{μ:Mu}{H:Heap}{w:World}{ρ:Operand->Value}{type:TypeId}{pos:String}{dst:Option Tmp}{after:Array Edge}{guard:Option (Nat×Bool)}{xs:List IV}{v:IV}{H':Heap}
def Bx{t:TypeId}{n:Option Nat}(h:xS P t=some n):(n=none/\(∀w:World,(isAgg t).run P w=.ok false w))\/(∃k,n=some k/\bj P t=some k/\(∀w:World,(isAgg t).run P w=.ok true w)):=by unfold xS at h;cases q:P.underlying t with|none=>simp[q] at h|some d=>cases hs:bj P t with|none=>cases d<;>simp[q,hs] at h|some k=>cases d<;>simp[q,hs] at h<;>subst h<;> first|exact .inl ⟨rfl,λw=>by simp[isAgg,run_underlying q]⟩|exact .inr ⟨k,rfl,rfl,λw=>by simp[isAgg,run_underlying q]⟩
def Fj{t:TypeId}{n:Option Nat}(T:xS P t=some n){cs:List IV}{E:Array Value}(O:VRs μ cs E.toList){off:Nat}{r:IV}(F:off+n.getD 1<=cs.length)(A:ah n ((cs.drop off).take (n.getD 1))=some r):∃Q:Value,(part t E off).run P w=.ok Q w/\VR μ r Q:=by rcases Bx T with⟨rfl,q⟩|⟨k,rfl,hs,q⟩;{simp only[Ku] at A F;have I:off<cs.length:=Om;have e:(cs.drop off).take 1=[cs[off]]:=by{rw[jb I];rfl};rw[e] at A;injection A with A;subst A;obtain⟨y,V,U⟩:=O.get (i:=off) (x:=cs[off]) (bZ I);simp_all[part]};{injection A with A;subst A;refine⟨.agg (E.extract off (off+k)),by simp[part,q,bN hs],_,rfl,?_⟩;have:=(O.drop off).take k;simp_all[KC]}
def zF{t:TypeId}{i:Nat}{f:Field}(h:qR P t i=some f):∃fs:Array Field,P.underlying t=some (.struct fs)/\fs[i]? =some f:=by grind[qR]
def aae(h:Rel P g0 μ H.get H.n w){t:TypeId}{x:Operand}{i:Nat}{f:Field}{n:Option Nat}(U:qR P t i=some f)(T:xS P f.type=some n)(q:ev1 (.field f.offset n) xs lo H=some (v,H'))(hx:VRs μ xs [ρ x]):Gives P g0 lo μ H w (execOp ρ ⟨dst,.field t x i,type,pos,after,guard⟩) v H':=by obtain⟨fs,hu,hi⟩:=zF U;simp only[ev1] at q;split at q;{rename_i cs;split at q;{rename_i A;cases E:ah n ((cs.drop f.offset).take (n.getD 1)) with|none=>rw[E] at q;cases q|some r=>rw[E] at q;injection q with q;injection q with O Q;subst O Q;obtain⟨y,F,l',e,V⟩:=cn hx;injection F with F;subst F;obtain⟨r',I,Z⟩:=Fj (P:=P) (w:=w) T V A E;exact Gives.pure h (v':=r') (by simp_all[execOp,Instr.field,run_underlying,asAgg]) Z};{cases q}};{cases q}
theorem Dr(c p n:Nat):(⟨c,p,none⟩:Addr).add n=⟨c,p+n,none⟩:=by grind[Addr.add]
def LocR.add{b o n:Nat}{a:Addr}(h:LocR μ b o a):LocR μ b (o+n) (a.add n):=by grind[LocR,Dr,Nat.add_assoc]
def Mm(h:Rel P g0 μ H.get H.n w){t:TypeId}{x:Operand}{i:Nat}{f:Field}{n:Nat}(I:qR P t i=some f)(hs:bj P f.type=some n)(hn:n≠0)(q:ev1 (.fieldAddr f.offset) xs lo H=some (v,H'))(hx:VRs μ xs [ρ x]):Gives P g0 lo μ H w (execOp ρ ⟨dst,.fieldAddr t x i,type,pos,after,guard⟩) v H':=by obtain⟨fs,Q,hi⟩:=zF I;simp only[ev1] at q;split at q;{rename_i b o;injection q with q;injection q with E F;subst E F;obtain⟨y,A,a,e,O⟩:=cn hx;injection A with A;subst A;exact Gives.pure h (v':=.pointer (some (a.add f.offset))) (by simp_all[execOp,Instr.fieldAt,run_underlying,Instr.sureAddr,fieldPlace,bN]) ⟨_,rfl,O.add⟩};{cases q}
def SlR.loc{b o cap:Nat}{ex:Bool}{a:Addr}(h:SlR μ b o ex cap a)(q:cap≠0):LocR μ b o a:=by grind[SlR,LocR]
def aad(h:Rel P g0 μ H.get H.n w){t e:TypeId}{x i:Operand}{n:Nat}(V:P.underlying t=some (.slice e))(hs:bj P e=some n)(q:ev1 (.idxSl n) xs lo H=some (v,H'))(hx:VRs μ xs [ρ x,ρ i]):Gives P g0 lo μ H w (execOp ρ ⟨dst,.indexAddr t x i,type,pos,after,guard⟩) v H':=by simp only[ev1] at q;split at q;{rename_i b o len lb ex k j;split at q;{rename_i T;injection q with q;injection q with E I;subst E I;obtain⟨Z,y2,F,⟨a,cap,E,Q,U⟩,O⟩:=cv hx;simp only[kG,and_true] at F;obtain⟨rfl,rfl⟩:=F;have A:cap≠0:=by{obtain⟨c1,c2,_⟩:=Q;omega};exact Gives.pure h (v':=.pointer (some (a.add (j.toNat*n)))) (by simp[execOp,Instr.indexAt,mL O,asIntOf,run_underlying V,E,T,bN hs]) ⟨_,rfl,(U.loc A).add⟩};{cases q}};{cases q}
def Kb(h:Rel P g0 μ H.get H.n w){t e:TypeId}{x i:Operand}{len n:Nat}(T:P.underlying t=some (.array len e))(hs:bj P e=some n)(q:ev1 (.idxArrAddr len n) xs lo H=some (v,H'))(hx:VRs μ xs [ρ x,ρ i]):Gives P g0 lo μ H w (execOp ρ ⟨dst,.indexAddr t x i,type,pos,after,guard⟩) v H':=by simp only[ev1] at q;split at q;{rename_i b o k j;split at q;{rename_i O;injection q with q;injection q with A F;subst A F;obtain⟨U,V,E,⟨a,A,Q⟩,I⟩:=cv hx;simp only[kG,and_true] at E;obtain⟨rfl,rfl⟩:=E;exact Gives.pure h (v':=.pointer (some (a.add (j.toNat*n)))) (by simp[execOp,Instr.indexAt,mL I,asIntOf,run_underlying T,A,Instr.sureAddr,O,bN hs]) ⟨_,rfl,Q.add⟩};{cases q}};{cases q}
def Ww(h:Rel P g0 μ H.get H.n w){t e:TypeId}{x i:Operand}{len k:Nat}{n:Option Nat}(hu:P.underlying t=some (.array len e))(hs:bj P e=some k)(Z:xS P e=some n)(q:ev1 (.idxArr len k n) xs lo H=some (v,H'))(hx:VRs μ xs [ρ x,ρ i]):Gives P g0 lo μ H w (execOp ρ ⟨dst,.index t x i,type,pos,after,guard⟩) v H':=by simp only[ev1] at q;split at q;{rename_i cs kd j;split at q;{rename_i hj;obtain⟨I,O,A⟩:=hj;cases Q:ah n ((cs.drop (j.toNat*k)).take (n.getD 1)) with|none=>rw[Q] at q;cases q|some r=>rw[Q] at q;injection q with q;injection q with F U;subst F U;obtain⟨y1,y2,T,⟨l',F,hl⟩,V⟩:=cv hx;simp only[kG,and_true] at T;obtain⟨rfl,rfl⟩:=T;obtain⟨r',E,hv⟩:=Fj (P:=P) (w:=w) Z hl A Q;exact Gives.pure h (v':=r') (by simp[execOp,Instr.index,mL V,asIntOf,run_underlying hu,F,I,O,bN hs,E]) hv};{cases q}};{cases q}
def aac(h:Rel P g0 μ H.get H.n w){t e:TypeId}{args:Array Operand}{ts:Array TypeId}(I:ts=#[t])(O:P.underlying t=some (.slice e))(A:ev1 .lenSl xs lo H=some (v,H'))(hx:VRs μ xs (args.toList.map ρ)):Gives P g0 lo μ H w (execOp ρ ⟨dst,.call ⟨.builtin .len,args,ts⟩,type,pos,after,guard⟩) v H':=by simp only[ev1] at A;split at A;{rename_i x;obtain⟨y,T,Q⟩:=cn hx;have q:args.map ρ=#[y]:=by{grind};subst I;cases x with|nilSlice=>injection A with A;injection A with E F;subst E F;cases Q;exact Gives.pure h (v':=.int .i64 0) (by simp[execOp,resolve,invoke,builtin,q,Builtin.len_,run_underlying O,goInt]) rfl|slice b o n lb ex=>injection A with A;injection A with E F;subst E F;obtain⟨a,c,rfl,_⟩:=Q;exact Gives.pure h (v':=.int .i64 n) (by simp[execOp,resolve,invoke,builtin,q,Builtin.len_,run_underlying O,goInt]) rfl|_=>simp at A};{cases A}
def agl(h:Rel P g0 μ H.get H.n w){t e:TypeId}{args:Array Operand}{ts:Array TypeId}(I:ts=#[t])(O:P.underlying t=some (.slice e))(A:ev1 .cap xs lo H=some (v,H'))(hx:VRs μ xs (args.toList.map ρ)):Gives P g0 lo μ H w (execOp ρ ⟨dst,.call ⟨.builtin .cap,args,ts⟩,type,pos,after,guard⟩) v H':=by simp only[ev1] at A;split at A;{rename_i x;obtain⟨y,U,Q⟩:=cn hx;have q:args.map ρ=#[y]:=by{grind};subst I;cases x with|nilSlice=>injection A with A;injection A with E F;subst E F;cases Q;exact Gives.pure h (v':=.int .i64 0) (by simp[execOp,resolve,invoke,builtin,q,Builtin.cap_,run_underlying O,goInt]) rfl|slice b o n lb ex=>(cases ex with|false=>simp at A|true=>injection A with A;injection A with E F;subst E F;obtain⟨a,c,rfl,T,_⟩:=Q;have:c=lb:=T.2.2.2 rfl;subst this;exact Gives.pure h (v':=.int .i64 c) (by simp[execOp,resolve,invoke,builtin,q,Builtin.cap_,run_underlying O,goInt]) rfl)|_=>simp at A};{cases A}
def agj(h:Rel P g0 μ H.get H.n w){args:Array Operand}{ts:Array TypeId}(q:ev1 .min xs lo H=some (v,H'))(hx:VRs μ xs (args.toList.map ρ)):Gives P g0 lo μ H w (execOp ρ ⟨dst,.call ⟨.builtin .min,args,ts⟩,type,pos,after,guard⟩) v H':=by simp only[ev1] at q;split at q;{rename_i k a Q b;split at q;{injection q with q;injection q with E F;subst E F;obtain⟨U,V,T,I,O⟩:=cv hx;cases I;cases O;have A:args.map ρ=#[.int k a,.int Q b]:=by{grind};exact Gives.pure h (v':=.int k (if b<a then b else a)) (by simp[execOp,resolve,invoke,builtin,A,Builtin.min_,Builtin.min2]) rfl};{cases q}};{cases q}
def agk(h:Rel P g0 μ H.get H.n w){args:Array Operand}{ts:Array TypeId}(q:ev1 .max xs lo H=some (v,H'))(hx:VRs μ xs (args.toList.map ρ)):Gives P g0 lo μ H w (execOp ρ ⟨dst,.call ⟨.builtin .max,args,ts⟩,type,pos,after,guard⟩) v H':=by simp only[ev1] at q;split at q;{rename_i k a Q b;split at q;{injection q with q;injection q with E F;subst E F;obtain⟨U,V,T,I,O⟩:=cv hx;cases I;cases O;have A:args.map ρ=#[.int k a,.int Q b]:=by{grind};exact Gives.pure h (v':=.int k (if b>a then b else a)) (by simp[execOp,resolve,invoke,builtin,A,Builtin.max_,Builtin.max2]) rfl};{cases q}};{cases q}
def eQ{y i:Nat}{x:IV}{u:Value}(h:bU y x=some i)(A:VR μ x u)(c:BoundsCode)(q:Nat)(F:y<=q)(w:World):(Instr.sliceBound u q c).run P w=.ok i w/\i<=y:=by cases x with|int k n=>cases A;simp only[bU] at h;split at h;{rename_i hn;injection h with h;subst h;have E:0<=n/\n<=(q:Int):=Om;simp_all[Instr.sliceBound,asIntOf]};{cases h}|_=>simp[bU] at h
def GK{isSl:Bool}{len top cap:Nat}{l:List IV}{a b:Nat}{m:Option Nat}{V hi mx:Option Operand}(A:a8 len top V.isSome hi.isSome mx.isSome l=some (a,b,m))(ad:len<=top)(hc:top<=cap)(hv:VRs μ l ((V.toArray++hi.toArray++mx.toArray).toList.map ρ))(w:World):(Instr.sliceBounds isSl len cap (V.map ρ) (hi.map ρ) (mx.map ρ)).run P w=.ok (a,b,m.getD cap) w/\a<=b/\b<=m.getD top/\(∀k,m=some k->k<=top):=by cases V with|none=>(cases hi with|none=>(cases mx with|none=>(match l,A with|[],A=>injection A with A;simp only[nH] at A;obtain⟨rfl,rfl,rfl⟩:=A;exact⟨by simp[Instr.sliceBounds],Om,by simpa using ad,λ_ h=>by cases h⟩)|some z=>simp[a8] at A)|some y=>cases mx with|none=>(match l,A with|[Z],A=>obtain⟨u,O,F⟩:=cn hv;simp at O;subst O;simp only[a8,AT,E6] at A;cases E:bU top Z with|none=>rw[E] at A;cases A|some i=>rw[E] at A;injection A with A;simp only[nH] at A;obtain⟨rfl,rfl,rfl⟩:=A;have U:=eQ (P:=P) E F;exact⟨by simp_all[Instr.sliceBounds],Om,by simpa using (U .index cap hc w).2,λ_ h=>by cases h⟩)|some z=>match l,A with|[Z,x2],A=>obtain⟨u,u2,O,F,I⟩:=cv hv;simp at O;obtain⟨rfl,rfl⟩:=O;simp only[a8,AT,E6] at A;cases Q:bU top x2 with|none=>rw[Q] at A;cases A|some j=>rw[Q] at A;simp only[bK] at A;cases E:bU j Z with|none=>rw[E] at A;cases A|some i=>rw[E] at A;injection A with A;simp only[nH] at A;obtain⟨rfl,rfl,rfl⟩:=A;have U:=eQ (P:=P) E F;have T:=eQ (P:=P) Q I;exact⟨by simp_all[Instr.sliceBounds,ao],Om,by simpa using (U .index j (ao _) w).2,λk h=>by injection h with h;subst h;exact(T .index cap hc w).2⟩)|some q=>cases hi with|none=>(cases mx with|none=>(match l,A with|[Z],A=>obtain⟨u,O,F⟩:=cn hv;simp at O;subst O;simp only[a8,AT,E6] at A;cases E:bU len Z with|none=>rw[E] at A;cases A|some i=>rw[E] at A;injection A with A;simp only[nH] at A;obtain⟨rfl,rfl,rfl⟩:=A;have U:=eQ (P:=P) E F;exact⟨by simp_all[Instr.sliceBounds,ao],by simpa using (U .index len (ao _) w).2,by simpa using ad,λ_ h=>by cases h⟩)|some z=>simp[a8] at A)|some y=>cases mx with|none=>(match l,A with|[Z,x2],A=>obtain⟨u,u2,O,F,I⟩:=cv hv;simp at O;obtain⟨rfl,rfl⟩:=O;simp only[a8,AT,E6] at A;cases Q:bU top x2 with|none=>rw[Q] at A;cases A|some j=>rw[Q] at A;simp only[bK] at A;cases E:bU j Z with|none=>rw[E] at A;cases A|some i=>rw[E] at A;injection A with A;simp only[nH] at A;obtain⟨rfl,rfl,rfl⟩:=A;have U:=eQ (P:=P) E F;have T:=eQ (P:=P) Q I;exact⟨by simp_all[Instr.sliceBounds,ao],(U .index j (ao _) w).2,by simpa using (T .index cap hc w).2,λ_ h=>by cases h⟩)|some z=>match l,A with|[Z,x2,x3],A=>obtain⟨u,u2,u3,O,F,I,ag⟩:=tX hv;simp at O;obtain⟨rfl,rfl,rfl⟩:=O;simp only[a8,AT,E6] at A;cases h3:bU top x3 with|none=>rw[h3] at A;cases A|some k=>rw[h3] at A;simp only[bK] at A;cases Q:bU k x2 with|none=>rw[Q] at A;cases A|some j=>rw[Q] at A;simp only[bK] at A;cases E:bU j Z with|none=>rw[E] at A;cases A|some i=>rw[E] at A;injection A with A;simp only[nH] at A;obtain⟨rfl,rfl,rfl⟩:=A;have U:=eQ (P:=P) E F;have T:=eQ (P:=P) Q I;have an:=eQ (P:=P) h3 ag;exact⟨by simp_all[Instr.sliceBounds,ao],(U .index j (ao _) w).2,by simpa using (T .index k (ao _) w).2,λk' h=>by injection h with h;subst h;exact(an .index cap hc w).2⟩
end
section
variable {P:Program}{g0 lo:Nat}{μ:Mu}{H:Heap}{w:World}{ρ:Operand->Value}{type:TypeId}{pos:String}{dst:Option Tmp}{after:Array Edge}{guard:Option (Nat×Bool)}{xs:List IV}{v:IV}{H':Heap}
def G2(t:TypeId)(x:Operand)(a b c:Option Operand):(Op.slice t x a b c).operands.toList.map ρ=ρ x::((a.toArray++b.toArray++c.toArray).toList.map ρ):=by simp[Op.operands]
def Ul(h:Rel P g0 μ H.get H.n w){b c p ez z size:Nat}(q:qr H b size=true)(F:μ b=.at c p ez z):ez=0\/ez=size:=by unfold qr at q;obtain⟨o,I,A⟩:=h.obj b c p ez z F;rw[I] at q;cases o with|cells O e E cs=>cases O;{simp at q;right;rw[A.2.1,q]};{left;exact A.1}|_=>simp at q
def agi(h:Rel P g0 μ H.get H.n w){t e:TypeId}{x:Operand}{a b c:Option Operand}{n:Nat}(hu:P.underlying t=some (.slice e))(hs:bj P e=some n)(A:ev1 (.slc n a.isSome b.isSome c.isSome) xs lo H=some (v,H'))(hx:VRs μ xs ((Op.slice t x a b c).operands.toList.map ρ)):Gives P g0 lo μ H w (execOp ρ ⟨dst,.slice t x a b c,type,pos,after,guard⟩) v H':=by rw[G2] at hx;simp only[ev1] at A;split at A;{rename_i s l;obtain⟨y,ys,hy,hv,hl⟩:=hx;simp only[kG] at hy;obtain⟨rfl,rfl⟩:=hy;cases s with|nilSlice=>(simp only at A;cases Z:a8 0 0 a.isSome b.isSome c.isSome l with|none=>rw[Z] at A;cases A|some r=>obtain⟨i,j,m⟩:=r;rw[Z] at A;simp only[bK] at A;split at A;{rename_i a0;obtain⟨rfl,rfl⟩:=a0;injection A with A;injection A with V T;subst V T;obtain⟨I,_,_,hm⟩:=GK (P:=P) (isSl:=true) Z (ao _) (ao 0) hl w;have a3:m.getD 0=0:=by{cases m with|none=>rfl|some k=>have:=hm k rfl;simp;omega};rw[a3] at I;have a6:ρ x=.slice none 0 0:=hv;exact Gives.pure h (v':=.slice none 0 0) (by simp[execOp,Instr.sliceAt,run_underlying hu,Instr.slice,a6,I,bN hs]) rfl};{cases A})|slice bl o len lb ex=>simp only at A;split at A;{rename_i aS;cases Z:a8 len lb a.isSome b.isSome c.isSome l with|none=>rw[Z] at A;cases A|some r=>obtain⟨i,j,m⟩:=r;rw[Z] at A;obtain⟨ad,cap,a1,⟨c1,c2,c3,c4⟩,F⟩:=hv;obtain⟨I,a0,O,hm⟩:=GK (P:=P) (isSl:=true) Z c1 c2 hl w;have E:(execOp ρ ⟨dst,.slice t x a b c,type,pos,after,guard⟩).run P w=.ok (.value (.slice (some (if m.getD cap=i then ad else ad.add (i*n))) (j - i) (m.getD cap - i))) w:=by{simp only[execOp];simp[Instr.sliceAt,run_underlying hu,Instr.slice,a1,I,bN hs];split<;>rfl};have Q:∀ex':Bool,(ex'=false->ex=false/\m=none)->SlR μ bl (o+i*n) ex' (m.getD cap - i) (if m.getD cap=i then ad else ad.add (i*n)):=by{intro ex' ay;unfold SlR at F⊢;cases ag:μ bl with|no=>rw[ag] at F;exact F|dead=>trivial|«at» q p ez z=>rw[ag] at F;simp only at F⊢;refine⟨?_,λV T=>?_⟩;{by_cases a4:m.getD cap=i;{left;omega};{right;rw[if_neg a4];have a9:m.getD cap<=cap:=by{cases m with|none=>exact ao _|some k=>have:=hm k rfl;simp;omega};have a2:i<=m.getD cap:=by{cases m with|none=>simp at O⊢;omega|some k=>simp at O⊢;omega};have an:cap≠0:=Om;rw[F.1.resolve_left an,Dr,kC]}};{obtain⟨aE,a5⟩:=ay V;subst aE a5;simp only[uT] at aS;rcases Ul h aS ag with h0|h0;{exact absurd h0 T};{subst h0;have:=F.2 rfl T;simp only[Ku] at O⊢;have a2:i<=cap:=Om;have:(cap - i)*ez+i*ez=cap*ez:=by{rw[<-tn];congr 1;omega};omega}}};cases m with|none=>simp only[dK] at A;injection A with A;injection A with V T;subst V T;have U:=Q ex λe=>⟨e,rfl⟩;simp only[Ku] at E U O;exact Gives.pure h E ⟨_,_,rfl,⟨Om,Om,Om,λe=>by have:=c4 e;omega⟩,U⟩|some k=>simp only[dK] at A;injection A with A;injection A with V T;subst V T;simp only[dL] at E Q O;have:=hm k rfl;exact Gives.pure h E ⟨_,_,rfl,⟨Om,ao _,Om,λ_=>rfl⟩,Q true λe=>by cases e⟩};{cases A}|_=>simp at A};{cases A}
end
section
variable {P:Program}{g0 lo:Nat}{μ:Mu}{H:Heap}{w:World}{ρ:Operand->Value}{type:TypeId}{pos:String}{dst:Option Tmp}{after:Array Edge}{guard:Option (Nat×Bool)}{xs:List IV}{v:IV}{H':Heap}
theorem dF:∀(cs:List IV)(o:Nat)(vs:List IV),o+vs.length<=cs.length->aD cs o vs=cs.take o++vs++cs.drop (o+vs.length)|[],o,vs,h=>by have q:o=0:=by{rw[cX] at h;omega};have A:vs=[]:=by{rw[cX] at h;exact List.length_eq_zero_iff.1 Om};subst q A;rfl|c::cs,0,[],_=>by simp[aD]|c::cs,0,v::vs,h=>by simp only[aD];rw[dF cs 0 vs (by simp at h;omega)];simp|c::cs,o+1,vs,h=>by simp only[aD];rw[dF cs o vs (by simp at h;omega)];simp[Nat.add_right_comm]
theorem wW(cs:List IV)(o:Nat)(vs:List IV)(h:o+vs.length<=cs.length):(aD cs o vs).length=cs.length:=by grind[dF]
def NL(off:Nat):∀(vs:List Value)(k:Nat)(cells:Array Value),off+k+vs.length<=cells.size->((vs.zipIdx k).foldl (λcs x=>cs.setIfInBounds (off+x.2) x.1) cells).toList=cells.toList.take (off+k)++vs++cells.toList.drop (off+k+vs.length)|[],k,cells,_=>by simp|v::vs,k,cells,h=>by simp only[List.zipIdx_cons,kF];rw[NL off vs (k+1) _ (by simp at h⊢;omega)];have e:=list_seg_step cells.toList (off+k) v vs (by simp at h⊢;omega);simpa [BT,kC] using e
def vu(place:Nat->Option (Nat×Nat)):∀(parts:List (Nat×Operand))(E:List (Nat×Nat))(xs cs r:List IV)(q:Array Value),parts.mapM (λp=>place p.1)=some E->VRs μ xs (parts.map λp=>ρ p.2)->VRs μ cs q.toList->cU E xs cs=some r->∃r':Array Value,Instr.fill place q (parts.map λp=>(p.1,ρ p.2))=some r'/\VRs μ r r'.toList:=by intro parts;induction parts with|nil=>(intro E xs cs r q F hx Q I;simp at F;subst F;cases xs with|nil=>simp[cU] at I;subst I;exact⟨q,rfl,Q⟩|cons=>simp[cU] at I)|cons p parts ih=>intro E xs cs r q F hx Q I;simp only[xv] at F;cases hp:place p.1 with|none=>rw[hp] at F;cases F|some pl=>obtain⟨off,size⟩:=pl;rw[hp] at F;cases Z:parts.mapM (λp=>place p.1) with|none=>rw[Z] at F;cases F|some O=>rw[Z] at F;injection F with F;subst F;cases xs with|nil=>simp[cU] at I|cons x xs=>obtain⟨y,ys,hy,hv,ad⟩:=hx;simp only[aT,kG] at hy;obtain⟨rfl,rfl⟩:=hy;simp only[cU] at I;split at I;{rename_i ay;have A:=hv.cells_;have hl:=A.length;have V:x.cells.length=(ρ p.2).cells.size:=by{simpa using hl};have ag:cs.length=q.size:=by{simpa using Q.length};have U:((ρ p.2).cells.size≠size||off+(ρ p.2).cells.size>q.size)=false:=by{have h1:(ρ p.2).cells.size=size:=Om;simp[h1];omega};have T:VRs μ (aD cs off x.cells) ((ρ p.2).cells.zipIdx.foldl (λcs x=>cs.setIfInBounds (off+x.2) x.1) q).toList:=by{rw[<-Array.foldl_toList,Array.toList_zipIdx,NL off _ 0 q (by simp;omega),dF cs off x.cells Om];simp only[rY];rw[show off+(ρ p.2).cells.toList.length=off+x.cells.length by simp[V]];exact((Q.take off).append A).append (Q.drop _)};obtain⟨r',an,aE⟩:=ih O xs _ r _ Z ad T I;simp_all[aT,Instr.fill,if_neg]};{cases I}
def Ni{α q:Type}(F:α->Sem q)(G:α->q)(w:World):∀l:List α,(∀f∈l,(F f).run P w=.ok (G f) w)->(l.mapM F).run P w=.ok (l.map G) w|[],_=>by simp|f::l,h=>by have A:=h f (by simp);have E:=Ni F G w l λg I=>h g (by simp[I]);simp[A,E]
def P7{fs:Array Field}(hall:(fs.all fun f=>(bj P f.type).isSome)=true)(F:Field→Sem (Nat×Nat))(hF:∀f,F f=(do pure (f.offset,←sizeOf f.type)))(w:World):
  (fs.mapM F).run P w=.ok (fs.map fun f=>(f.offset,(bj P f.type).getD 0)) w:=by
 rw[Array.mapM_eq_mapM_toList]
 have hk:=Ni (P:=P) F (fun f=>(f.offset,(bj P f.type).getD 0)) w fs.toList (fun f hf=>by
  rw[Array.all_eq_true_iff_forall_mem] at hall;have h1:=hall f (by simpa using hf)
  cases hs:bj P f.type with
  | none=>rw[hs] at h1;cases h1
  | some n=>rw[hF];simp[bN hs])
 simp[hk];apply xp;simp
def aag(h:Rel P g0 μ H.get H.n w){t:TypeId}{O:Array (Nat×Operand)}{kd:Kd}(q:cY P (.build t O)=some kd)(E:ev1 kd xs lo H=some (v,H'))(hx:VRs μ xs ((Op.build t O).operands.toList.map ρ)):Gives P g0 lo μ H w (execOp ρ ⟨dst,.build t O,type,pos,after,guard⟩) v H':=by have ag:(Op.build t O).operands.toList.map ρ=O.toList.map λp=>ρ p.2:=by{simp[Op.operands]};rw[ag] at hx;simp only[cY] at q;cases hu:P.underlying t with|none=>rw[hu] at q;cases q|some d=>rw[hu] at q;cases d with|struct fs=>simp only at q;split at q;{rename_i ad;cases T:xA (λi=>(fs[i]?).bind λf=>(bj P f.type).map λn=>(f.offset,n)) O with|none=>rw[T] at q;cases q|some A=>rw[T] at q;cases V:kY P t with|none=>simp[V] at q|some z=>simp[V] at q;subst q;simp only[ev1] at E;cases Q:cU A xs z.cells with|none=>rw[Q] at E;cases E|some cs=>rw[Q] at E;injection E with E;injection E with e1 e2;subst e1 e2;obtain⟨i,zv,hi,Z,U⟩:=mW V;obtain⟨r',I,hv⟩:=vu (ρ:=ρ) (μ:=μ) (λi=>(fs[i]?).bind λf=>(bj P f.type).map λn=>(f.offset,n)) O.toList A xs z.cells cs zv.cells T hx (U μ).cells_ Q;have F:(λi:Nat=>(fs[i]?).bind λf=>(bj P f.type).map λn=>(f.offset,n))=λi:Nat=>Option.map (λf:Field=>(f.offset,(bj P f.type).getD 0)) fs[i]?:=by{funext i;cases ay:fs[i]? with|none=>rfl|some f=>have:(bj P f.type).isSome=true:=by{grind};cases hs:bj P f.type with|none=>rw[hs] at this;cases this|some n=>simp[hs]};rw[F] at I;refine Gives.pure h (v':=.agg r') ?_ ⟨r',rfl,hv⟩;have an:=P7 ad (λf=>Prod.mk f.offset <$>sizeOf f.type) (λf=>by simp) w;simp only[execOp,Instr.build];simp[zeroValue,typeInfo,hi,Z,run_underlying hu,an,I]};{cases q}|array k e=>(simp only at q;cases hs:bj P e with|none=>rw[hs] at q;cases q|some n=>rw[hs] at q;simp only[bK] at q;cases T:xA (λi=>some (i*n,n)) O with|none=>rw[T] at q;cases q|some A=>rw[T] at q;cases V:kY P t with|none=>simp[V] at q|some z=>simp[V] at q;subst q;simp only[ev1] at E;cases Q:cU A xs z.cells with|none=>rw[Q] at E;cases E|some cs=>rw[Q] at E;injection E with E;injection E with e1 e2;subst e1 e2;obtain⟨i,zv,hi,Z,U⟩:=mW V;obtain⟨r',I,hv⟩:=vu (ρ:=ρ) (μ:=μ) (λi=>some (i*n,n)) O.toList A xs z.cells cs zv.cells T hx (U μ).cells_ Q;refine Gives.pure h (v':=.agg r') ?_ ⟨r',rfl,hv⟩;simp only[execOp,Instr.build];simp[zeroValue,typeInfo,hi,Z,run_underlying hu,bN hs,I])|_=>simp at q
def aei{A:Bool}{e ez:Nat}{cs:List IV}{q:Array Value}(E:VRs μ cs q.toList)(I:A=false):ObjR P μ (.cells A e ez cs) 0 ez q.size (some (.cells q e (0,0))):=by subst I;have F:=E.length;refine⟨rfl,rfl,q,rfl,rfl,by simp at F;omega,?_⟩;grind
def wy(h:Rel P g0 μ H.get H.n w){e ez:Nat}{cs:List IV}{q:Array Value}(T:VRs μ cs q.toList){w':World}(U:w'.heap=w.heap.push (.cells q e (0,0)))(F:w'.os=w.os)(I:w'.tape=w.tape)(O:w'.output=w.output)(Q:w.drawn<=w'.drawn:=by first|exact ao _|exact pU _|assumption|(simp;done)|omega):∃A:Mu,μ.le A/\A H.n=.at w.heap.size 0 ez q.size/\Rel P g0 A (H.new (.cells false e ez cs)).get (H.new (.cells false e ez cs)).n w'/\ Post lo μ H.get H.n w A (H.new (.cells false e ez cs)).get (H.new (.cells false e ez cs)).n w':=by have E:=μ.le_upd (.at w.heap.size 0 ez q.size) h.fresh;obtain⟨a,b⟩:=h.alloc (lo:=lo) (o:=.cells false e ez cs) (ez:=ez) (z:=q.size) U (aei (VRs.mono E _ _ T) rfl) F I O Q;grind[aK]
def RC{q:Mu}{c ez z n:Nat}(h:q n=.at c 0 ez z):VR q (.ptr n 0) (.pointer (some ⟨c,0,none⟩)):=⟨_,rfl,by unfold LocR;rw[h]⟩
def aah(h:Rel P g0 μ H.get H.n w){e n:Nat}{z:IV}(U:kY P e=some z)(q:ev1 (.alloc e n z.cells) xs lo H=some (v,H')):Gives P g0 lo μ H w (execOp ρ ⟨dst,.alloc e,type,pos,after,guard⟩) v H':=by simp only[ev1] at q;split at q;{injection q with q;injection q with F I;subst F I;obtain⟨i,Z,hi,V,A⟩:=mW U;obtain⟨E,O,hn,T,Q⟩:=wy (lo:=lo) (e:=e) (ez:=n) h (A μ).cells_ (w':={w with heap:=w.heap.push (.cells Z.cells e (0,0))}) rfl rfl rfl rfl;exact⟨_,_,_,E,by simp_all[execOp,Instr.alloc,zeroValue,typeInfo,newVar,newRow,newObj,Sem.run],.inl rfl,T,Q,RC hn⟩};{cases q}
end
end Go.Iso
