/-
  values, heaps, the evaluator of isolated heaps, and its first operations: each run of the evaluator stands for a run of the model.
-/
import Derived.Orders
import Derived.Laws.CopyRow
import Derived.Laws.AppendOwn
import Derived.Deep.AppendSrc
import Derived.Laws.MakeOwn
import Derived.ChangeKeysEq
import Derived.Laws.Strings
import Derived.Lib.SmallJoins
import Derived.Lib.Split
set_option linter.unusedSimpArgs false
set_option linter.unusedVariables false
set_option linter.defProp false
namespace Go.Iso
def Bp{A B C D E F:Sort _}{a:A}{b:B}{c:C}{d:D}{e:E}{f:F}:a=a/\b=b/\c=c/\d=d/\e=e/\f=f:=⟨rfl,rfl,rfl,rfl,rfl,rfl⟩
abbrev an:=@Nat.le_refl
abbrev ao:=@And.intro
abbrev aJ:=@Int.toNat_natCast
abbrev bB:=@List.getD_eq_getElem?_getD.{0}
abbrev bG:=@List.getElem?_eq_getElem.{0}
abbrev be:=@List.length_append.{0}
abbrev aU:=@List.getElem_mem.{0}
abbrev aZ:=@List.map_cons.{0,0}
abbrev kW:=@List.take_succ_eq_append_getElem.{0}
abbrev cv:=@List.length_map.{0,0}
abbrev cW:=@List.take_of_length_le.{0}
abbrev bR:=@Nat.lt_of_lt_of_le
abbrev aV:=@List.map_nil.{0,0}
abbrev bC:=@List.length_set.{0}
abbrev bQ:=@Option.bind_some.{0,0}
abbrev a8:=@Nat.mul_one
abbrev dc:=@List.append_assoc.{0}
abbrev cQ:=@Bool.and_eq_true
abbrev cV:=@List.length_cons.{0}
abbrev bH:=@Nat.zero_add
abbrev dB:=@List.length_take.{0}
abbrev dA:=@List.length_nil.{0}
abbrev dz:=@List.append_nil.{0}
abbrev jH:=@Option.bind_eq_some_iff.{0,0}
abbrev jG:=@Option.map_eq_some_iff.{0,0}
abbrev eK:=@Option.getD_some.{0}
abbrev fj:=@List.getElem?_map.{0,0}
abbrev jF:=@List.getElem?_eq_none.{0}
abbrev jo:=@List.mem_cons_of_mem.{0}
abbrev fi:=@List.getElem_map.{0,0}
abbrev fh:=@Option.map_some.{0,0}
abbrev jZ:=@List.mem_map_of_mem.{0,0}
abbrev jE:=@Bool.false_eq_true
abbrev pM:=@List.mem_or_eq_of_mem_set.{0}
abbrev eC:=@Nat.le_trans
abbrev dL:=@Nat.zero_le
abbrev eS:=@Nat.lt_or_ge
abbrev mB:=@List.flatten_append.{0}
abbrev mA:=@List.getElem_set_ne.{0}
abbrev lr:=@List.flatten_cons.{0}
abbrev oR:=@Nat.le_of_ble_eq_true
abbrev rR:=@List.drop_eq_getElem_cons.{0}
abbrev pL:=@List.getElem_set_self.{0}
abbrev lq:=@List.cons.injEq.{0}
abbrev gP:=@Nat.succ_mul
abbrev mz:=@List.cons_append.{0}
abbrev tO:=@Nat.add_sub_cancel_left
abbrev nO:=@List.ext_getElem.{0}
abbrev lj:=@Nat.add_assoc
abbrev rQ:=@Nat.mul_le_mul_right
abbrev nN:=@List.nil_append.{0}
abbrev tN:=@List.take_append_drop.{0}
abbrev tM:=@List.length_singleton.{0}
abbrev pK:=@List.length_drop.{0}
abbrev li:=@Nat.le_of_lt
abbrev qw:=@Option.some.injEq.{0}
abbrev tK:=@List.length_reverse.{0}
abbrev zH:=@List.getElem_append_right.{0}
abbrev nM:=@List.all_cons.{0}
abbrev nL:=@Prod.mk.injEq.{0,0}
abbrev qv:=@List.map_append.{0,0}
abbrev Ci:=@Array.toList_setIfInBounds.{0}
abbrev xl:=@List.mem_of_mem_take.{0}
abbrev pJ:=@Bool.and_self
abbrev rO:=@Bool.or_eq_true
abbrev xk:=@Array.length_toList.{0}
abbrev xj:=@List.getElem_mapIdx.{0,0}
abbrev Fw:=@List.getElem?_append_right.{0}
abbrev pI:=@Nat.add_zero
abbrev xi:=@List.mem_cons_self.{0}
abbrev Fv:=@Array.getElem?_eq_getElem.{0}
abbrev zG:=@Option.bind_eq_bind.{0}
abbrev Fu:=@List.getElem_append_left.{0}
abbrev Fs:=@List.getElem?_cons_zero.{0}
abbrev Fq:=@List.getElem?_replicate.{0}
abbrev xh:=@List.all_eq_true.{0}
abbrev R5:=@Array.getElem?_setIfInBounds_self_of_lt.{0}
abbrev tJ:=@List.mem_cons.{0}
abbrev uS:=@List.drop_drop.{0}
abbrev IN:=@List.getElem?_append_left.{0}
abbrev xg:=@List.mem_append.{0}
abbrev IM:=@List.pairwise_iff_getElem.{0}
abbrev Fo:=@List.eq_nil_or_concat.{0}
abbrev Fn:=@List.concat_eq_append.{0}
abbrev Ch:=@Nat.lt_or_gt_of_ne
abbrev xe:=@List.drop_zero.{0}
abbrev xd:=@List.take_zero.{0}
abbrev IL:=@List.pairwise_mergeSort.{0}
abbrev Cg:=@List.nodup_append.{0}
abbrev zF:=@Nat.min_eq_left
abbrev Na:=@Array.getD_eq_getD_getElem?.{0}
abbrev M9:=@List.sublist_flatten_of_mem.{0}
abbrev Fm:=@Array.toList_append.{0}
abbrev Fl:=@List.getD_cons_zero.{0}
abbrev Fk:=@List.getD_cons_succ.{0}
abbrev Fj:=@List.mergeSort_perm.{0}
abbrev Cf:=@List.not_mem_nil.{0}
abbrev IK:=@Array.getElem?_toList.{0}
abbrev IJ:=@List.perm_append_comm.{0}
abbrev Ce:=@List.foldl_cons.{0,0}
abbrev qV:=@Nat.zero_mul
abbrev xT:=@List.ext_getElem?.{0}
abbrev Bc:=@List.filter_eq_self.{0}
abbrev xS:=@List.take_length.{0}
abbrev FX:=@List.drop_of_length_le.{0}
abbrev Bb:=@Option.isSome_none.{0}
abbrev sU:=@Nat.sub_zero
abbrev Ba:=@List.set_cons_zero.{0}
abbrev FV:=@List.Perm.append_left.{0}
abbrev FU:=@List.mem_append_right.{0}
abbrev uV:=@Bool.true_and
abbrev K5:=@List.extract_eq_take_drop.{0}
abbrev FT:=@List.mem_of_getElem?.{0}
abbrev FP:=@List.getLast?_concat.{0}
abbrev sT:=@Nat.le_succ
abbrev xR:=@List.mapM_cons.{0,0,0}
abbrev uU:=@List.map_map.{0,0,0}
abbrev uT:=@Nat.sub_self
abbrev A9:=@Bool.not_eq_true
abbrev A8:=@List.getElem_inj.{0}
abbrev K4:=@List.eq_of_mem_replicate.{0}
abbrev FO:=@List.getElem?_range
abbrev FN:=@List.replicate_succ.{0}
abbrev FM:=@List.map_congr_left.{0,0}
abbrev Qp:=@Array.getElem?_setIfInBounds_ne.{0}
abbrev K3:=@List.getElem?_cons_succ.{0}
abbrev xQ:=@Bool.and_true
abbrev FL:=@Option.isSome_some.{0}
abbrev A7:=@Option.pure_def.{0}
abbrev FK:=@List.mem_singleton.{0}
abbrev K2:=@List.getElem_replicate.{0}
abbrev FJ:=@List.size_toArray.{0}
abbrev FI:=@Bool.not_eq_true'
abbrev FH:=@List.flatMap_cons.{0,0}
abbrev FG:=@List.getElem_take.{0}
abbrev A6:=@List.mem_range
abbrev xP:=@Nat.le_of_eq
abbrev xO:=@List.all_nil.{0}
abbrev xN:=@List.map_set.{0,0}
abbrev K1:=@List.set_getElem_self.{0}
abbrev K0:=@List.length_mergeSort.{0}
abbrev KZ:=@Bool.or_eq_false_iff
abbrev FF:=@List.map_flatten.{0,0}
abbrev Qo:=@Nat.lt_of_mul_lt_mul_right
abbrev xM:=@Nat.add_mul
abbrev KY:=@List.take_succ_cons.{0}
abbrev KX:=@List.flatMap_append.{0,0}
abbrev KW:=@List.set_cons_succ.{0}
abbrev KV:=@List.length_mapIdx.{0,0}
abbrev xL:=@Array.ext'.{0}
abbrev FE:=@Bool.false_and
abbrev FD:=@Bool.not_false
abbrev FC:=@List.Perm.refl.{0}
abbrev KU:=@Nat.lt_trichotomy
abbrev KT:=@List.length_range
abbrev Qn:=@List.getElem_cons_zero.{0}
abbrev Qm:=@List.drop_eq_nil_of_le.{0}
abbrev FB:=@Bool.false_or
abbrev FA:=@List.sum_cons.{0}
abbrev KS:=@Option.getD_none.{0}
abbrev KR:=@List.flatten_nil.{0}
abbrev KQ:=@List.range'_succ
abbrev KP:=@List.filter_cons.{0}
abbrev KO:=@Nat.min_eq_right
abbrev KN:=@Nat.le_max_right
abbrev KM:=@Nat.lt_of_not_le
abbrev Ql:=@List.length_replicate.{0}
abbrev Qk:=@List.set_append_right.{0}
abbrev A5:=@Nat.mod_lt
abbrev Qj:=@List.range_eq_range'
abbrev Fz:=@Bool.true_or
abbrev Fy:=@Bool.or_true
abbrev KL:=@Nat.le_max_left
abbrev Qi:=@List.getElem_reverse.{0}
abbrev KK:=@Option.some.inj.{0}
def Om{p:Prop}(h:p:=by omega):p:=h
def Oh{q p:Prop}(h:q)(k:q->p:=by intro;omega):p:=k h
def Rr{p:Prop}(h:p:=by repeat' first|rfl|constructor):p:=h
def iN{c:Prop}[Decidable c]{α:Type}{a b:α}(h:¬c:=by omega):(if c then a else b)=b:=if_neg h
def iP{c:Prop}[Decidable c]{α:Type}{a b:α}(h:c:=by omega):(if c then a else b)=a:=if_pos h
inductive IV where
 | bool (b:Bool)
 | int (k:IntKind) (n:Int)
 | str (s:List UInt8)
 | ptr (b o:Nat)
 | nilPtr
 | slice (b o len lb:Nat) (ex:Bool)
 | nilSlice
 | map (b:Nat)
 | nilMap
 | fn (f:FuncId) (first cap:List IV)
 | yield (l:Nat)
 | nilFunc
 | iface (t:TypeId) (v:IV)
 | nilIface
 | agg (cs:List IV)
 | tuple (cs:List IV)
 deriving Inhabited
def UN:IV:=.tuple []
inductive Loc where
 | no
 | dead
 | at (c p ez z:Nat)
abbrev Mu:=Nat->Loc
def LocR(μ:Mu)(b o:Nat)(a:Addr):Prop:=match μ b with|.at c p _ _=>a=⟨c,p+o,none⟩|.dead=>True|.no=>False
def SlR(μ:Mu)(b o:Nat)(ex:Bool)(cap:Nat)(a:Addr):Prop:=match μ b with|.at c p ez z=>(cap=0\/a=⟨c,p+o,none⟩)/\(ex=false->ez≠0->o+cap*ez<=z)|.dead=>True|.no=>False
def aml(n lb:Nat)(ex:Bool)(cap:Nat):Prop:=n<=lb/\lb<=cap/\cap<2^63/\(ex=true->cap=lb)
mutual
def VR(μ:Mu):IV->Value->Prop|.bool b,v=>v=.bool b|.int k n,v=>v=.int k n|.str l,v=>v=.string ⟨⟨l⟩⟩|.ptr b o,v=>∃a:Addr,v=.pointer (some a)/\LocR μ b o a|.nilPtr,v=>v=.pointer none|.slice b o n lb ex,v=>∃(a:Addr) (cap:Nat),v=.slice (some a) n cap/\aml n lb ex cap/\SlR μ b o ex cap a|.nilSlice,v=>v=.slice none 0 0|.map b,v=>∃r:Nat,v=.map (some r)/\LocR μ b 0 ⟨r,0,none⟩|.nilMap,v=>v=.map none|.fn f l r,v=>∃q E:Array Value,v=.func (.func f) q E/\VRs μ l q.toList/\VRs μ r E.toList|.yield b,v=>∃r:Nat,v=.func (.yield r) #[] #[]/\LocR μ b 0 ⟨r,0,none⟩|.nilFunc,v=>v=.nilFunc|.iface t x,v=>∃F:Value,v=.iface t F/\VR μ x F|.nilIface,v=>v=.nilIface|.agg l,v=>∃q:Array Value,v=.agg q/\VRs μ l q.toList|.tuple l,v=>∃q:Array Value,v=.tuple q/\VRs μ l q.toList
def VRs(μ:Mu):List IV->List Value->Prop|[],l=>l=[]|x::xs,l=>∃(y:Value) (ys:List Value),l=y::ys/\VR μ x y/\VRs μ xs ys
end
def Mu.le(μ q:Mu):Prop:=∀b,μ b≠.no->q b=μ b\/q b=.dead
def Mu.le_refl(μ:Mu):μ.le μ:=λ_ _=>.inl rfl
def Mu.le_trans{a b c:Mu}(h:a.le b)(k:b.le c):a.le c:=λx hx=>by rcases h x hx with e|e;{rw[<-e];exact k x (by rw[e];exact hx)};{rcases k x (by rw[e];exactλh=>by cases h) with q|q<;>grind}
def LocR.mono{μ q:Mu}{b o:Nat}{a:Addr}(E:μ.le q)(h:LocR μ b o a):LocR q b o a:=by unfold LocR at *;have hn:μ b≠.no:=by{intro e;rw[e] at h;exact h};rcases E b hn with e|e<;>grind
def SlR.mono{μ q:Mu}{b o cap:Nat}{ex:Bool}{a:Addr}(E:μ.le q)(h:SlR μ b o ex cap a):SlR q b o ex cap a:=by unfold SlR at *;have hn:μ b≠.no:=by{intro e;rw[e] at h;exact h};rcases E b hn with e|e<;>grind
mutual
def VR.mono{μ F:Mu}(q:μ.le F):∀(x:IV)(v:Value),VR μ x v->VR F x v|.bool _,_,h=>h|.int _ _,_,h=>h|.str _,_,h=>h|.ptr _ _,_,h=>by obtain⟨a,e,k⟩:=h;exact⟨a,e,k.mono q⟩|.nilPtr,_,h=>h|.slice _ _ _ _ _,_,h=>by obtain⟨a,c,e,k,l⟩:=h;exact⟨a,c,e,k,l.mono q⟩|.nilSlice,_,h=>h|.map _,_,h=>by obtain⟨a,e,k⟩:=h;exact⟨a,e,k.mono q⟩|.nilMap,_,h=>h|.fn _ l r,_,h=>by obtain⟨E,K,e,I,J⟩:=h;exact⟨E,K,e,VRs.mono q l _ I,VRs.mono q r _ J⟩|.yield _,_,h=>by obtain⟨a,e,k⟩:=h;exact⟨a,e,k.mono q⟩|.nilFunc,_,h=>h|.iface _ x,_,h=>by obtain⟨O,e,k⟩:=h;exact⟨O,e,VR.mono q x _ k⟩|.nilIface,_,h=>h|.agg l,_,h=>by obtain⟨E,e,k⟩:=h;exact⟨E,e,VRs.mono q l _ k⟩|.tuple l,_,h=>by obtain⟨E,e,k⟩:=h;exact⟨E,e,VRs.mono q l _ k⟩
def VRs.mono{μ q:Mu}(E:μ.le q):∀(x:List IV)(v:List Value),VRs μ x v->VRs q x v|[],_,h=>h|x::xs,_,h=>by obtain⟨y,ys,e,k,ks⟩:=h;exact⟨y,ys,e,VR.mono E x _ k,VRs.mono E xs _ ks⟩
end
section
variable {μ:Mu}
def VRs.length:∀{l:List IV}{q:List Value},VRs μ l q->l.length=q.length|[],_,h=>by cases h;rfl|_::_,_,h=>by obtain⟨y,ys,rfl,_,k⟩:=h;simp[VRs.length k]
def VRs.get:∀{l:List IV}{q:List Value}{i:Nat}{x:IV},VRs μ l q->l[i]? =some x->∃y,q[i]? =some y/\VR μ x y|[],_,_,_,_,h=>by simp at h|a::E,_,0,x,h,e=>by obtain⟨y,ys,rfl,k,_⟩:=h;simp at e;subst e;exact⟨y,by simp,k⟩|a::E,_,i+1,x,h,e=>by obtain⟨y,ys,rfl,_,k⟩:=h;obtain⟨z,I,F⟩:=VRs.get k (i:=i) (by simpa using e);exact⟨z,by simpa using I,F⟩
def VRs.append:∀{l:List IV}{q:List Value}{r:List IV}{E:List Value},VRs μ l q->VRs μ r E->VRs μ (l++r) (q++E)|[],_,_,_,h,k=>by cases h;simpa using k|_::_,_,_,_,h,k=>by obtain⟨y,ys,rfl,a,b⟩:=h;exact⟨y,_,rfl,a,b.append k⟩
def VRs.take:∀{l:List IV}{q:List Value}(n:Nat),VRs μ l q->VRs μ (l.take n) (q.take n)|[],_,n,h=>by cases h;simp[VRs]|_::_,_,0,_=>by simp[VRs]|_::_,_,n+1,h=>by obtain⟨y,ys,rfl,a,b⟩:=h;exact⟨y,_,rfl,a,b.take n⟩
def VRs.drop:∀{l:List IV}{q:List Value}(n:Nat),VRs μ l q->VRs μ (l.drop n) (q.drop n)|[],_,n,h=>by cases h;simp[VRs]|_::_,_,0,h=>h|_::_,_,n+1,h=>by obtain⟨y,ys,rfl,a,b⟩:=h;exact b.drop n
def VRs.set:∀{l:List IV}{q:List Value}(i:Nat){x:IV}{y:Value},VRs μ l q->VR μ x y->VRs μ (l.set i x) (q.set i y)|[],_,_,_,_,h,_=>by cases h;simp[VRs]|_::_,_,0,_,y,h,k=>by obtain⟨z,ys,rfl,a,b⟩:=h;exact⟨y,ys,rfl,k,b⟩|_::_,_,i+1,_,_,h,k=>by obtain⟨z,ys,rfl,a,b⟩:=h;exact⟨z,_,rfl,a,b.set i k⟩
def Hw:∀{l:List IV}{q:List Value},l.length=q.length->(∀(i:Nat)(x:IV)(y:Value),l[i]? =some x->q[i]? =some y->VR μ x y)->VRs μ l q|[],[],_,_=>rfl|[],_::_,h,_=>by simp at h|_::_,[],h,_=>by simp at h|x::xs,y::ys,h,k=>⟨y,ys,rfl,k 0 x y rfl rfl,Hw (by simpa using h) λi a b E F=>k (i+1) a b (by simpa using E) (by simpa using F)⟩
end
inductive Tr(α:Type)where
 | leaf
 | node (v:Option α) (l r:Tr α)
def Tr.get{α:Type}:Tr α->Nat->Option α|.leaf,_=>none|.node v l r,i=>match i with|0=>v|j+1=>if j%2=0 then l.get (j / 2) else r.get (j / 2)
def Tr.setF{α:Type}:Nat->Tr α->Nat->α->Tr α|0,t,_,_=>t|f+1,t,i,x=>match t,i with|.leaf,0=>.node (some x) .leaf .leaf|.node _ l r,0=>.node (some x) l r|.leaf,j+1=>if j%2=0 then .node none (Tr.setF f .leaf (j / 2) x) .leaf else .node none .leaf (Tr.setF f .leaf (j / 2) x)|.node v l r,j+1=>if j%2=0 then .node v (Tr.setF f l (j / 2) x) r else .node v l (Tr.setF f r (j / 2) x)
def Tr.set{α:Type}(t:Tr α)(i:Nat)(x:α):Tr α:=Tr.setF (i+1) t i x
theorem vO{α:Type}(i:Nat):(Tr.leaf:Tr α).get i=none:=by unfold Tr.get;rfl
def Pd{α:Type}:∀(f:Nat)(t:Tr α)(i j:Nat)(x:α),i<f->(Tr.setF f t i x).get j=if i=j then some x else t.get j:=by intro f;induction f with|zero=>intro t i j x h;omega|succ f I=>intro t i j x h;cases t with|leaf=>(cases i with|zero=>cases j<;>simp[Tr.setF,Tr.get]|succ i=>have F:i / 2<f:=Om;by_cases q:i%2=0;{cases j with|zero=>simp[Tr.setF,q,Tr.get]|succ j=>by_cases E:j%2=0;{simp only[Tr.setF,q,if_true,Tr.get,E,I _ _ _ _ F];grind};{simp only[Tr.setF,q,if_true,Tr.get,E,if_false];grind}};{cases j with|zero=>simp[Tr.setF,q,Tr.get]|succ j=>by_cases E:j%2=0;{simp only[Tr.setF,q,if_false,Tr.get,E,if_true];grind};{simp only[Tr.setF,q,if_false,Tr.get,E,I _ _ _ _ F];grind}})|node v l r=>cases i with|zero=>cases j<;>simp[Tr.setF,Tr.get]|succ i=>have F:i / 2<f:=Om;by_cases q:i%2=0;{cases j with|zero=>simp[Tr.setF,q,Tr.get]|succ j=>by_cases E:j%2=0;{simp only[Tr.setF,q,if_true,Tr.get,E,I _ _ _ _ F];grind};{simp only[Tr.setF,q,if_true,Tr.get,E,if_false];grind}};{cases j with|zero=>simp[Tr.setF,q,Tr.get]|succ j=>by_cases E:j%2=0;{simp only[Tr.setF,q,if_false,Tr.get,E,if_true];grind};{simp only[Tr.setF,q,if_false,Tr.get,E,I _ _ _ _ F];grind}}
def yr{α:Type}(t:Tr α)(i j:Nat)(x:α):(t.set i x).get j=if i=j then some x else t.get j:=Pd _ _ _ _ _ (Nat.lt_succ_self i)
inductive IA where
 | tmp (t:Nat)
 | val (v:IV)
 | glob (g:Nat)
 deriving Inhabited
inductive Pk where
 | bool | int | str
 deriving DecidableEq,Inhabited
inductive Nk where
 | ptr | sl | map | fn
 deriving DecidableEq,Inhabited
inductive Kd where
 | move
 | pick
 | alloc (e ez:Nat) (zs:List IV)
 | box (e ez:Nat)
 | build (zs:List IV) (offs:List (Nat×Nat))
 | buildSl (e ez n:Nat) (zs:List IV) (offs:List (Nat×Nat))
 | load (n:Option Nat)
 | store (n:Nat)
 | nilCheck
 | bin (op:BinOp)
 | eqBool (neg:Bool)
 | eqFlat (neg:Bool) (ds:List Pk)
 | eqNil (neg:Bool) (k:Nk)
 | un (op:UnOp)
 | conv (k:IntKind)
 | mkfn (f:FuncId) (k:Nat)
 | mkmap
 | mksl (e ez bytes:Nat) (zs:List IV)
 | slc (size:Nat) (lo hi mx:Bool)
 | fieldAddr (off:Nat)
 | field (off:Nat) (n:Option Nat)
 | idxSl (size:Nat)
 | idxArrAddr (len size:Nat)
 | idxArr (len size:Nat) (n:Option Nat)
 | lookup (t:TypeId) (ky:Bool×List Pk) (zero:IV) (ok:Bool)
 | mapUpd (ky:Bool×List Pk)
 | mapEntry (t:TypeId) (ky:Bool×List Pk) (zero:IV)
 | entryStore
 | delete (ky:Bool×List Pk)
 | lenSl
 | lenMap
 | cap
 | append (e size bytes:Nat)
 | copy (size:Nat)
 | min
 | max
 | extract (i:Nat)
 | clear (zs:List IV)
 | rangeM
 | nextM
 | entryM
 | call
 deriving Inhabited
structure IOp where
 dst:Option Nat
 kd:Kd
 args:List IA
 guard:Option (Nat×Bool)
 amb:Bool
 idx:Nat
 mask:Nat
 deriving Inhabited
inductive Sg where
 | seq | free
 deriving DecidableEq,Inhabited
inductive IC where
 | skip
 | ops (l:List (Sg×List IOp))
 | seq (a b:IC)
 | cond (c:IA) (a b:IC)
 | block (id:Nat) (c:IC)
 | scope (c:IC)
 | loop (c:IC)
 | rfn (f:IA) (ps:List Nat) (asg body:IC)
 | exit (id:Nat)
 | ret
 deriving Inhabited
inductive Jmp where
 | exit (id:Nat)
 | ret
inductive IObj where
 | cells (ro:Bool) (e ez:Nat) (cs:List IV)
 | map (es:List (IV×IV×Nat)) (clock:Nat)
 | loop (st:LoopState) (pend:Option Jmp) (tm:List IV) (ps:List Nat) (asg body:IC) (df:Nat)
 | deferred
 | taken
 | iter (m:Option Nat) (since:Nat) (seen:List Nat) (last:Nat)
 | dead
structure Heap where
 n:Nat
 t:Tr IObj
def Heap.get(H:Heap)(b:Nat):Option IObj:=H.t.get b
def Heap.put(H:Heap)(b:Nat)(o:IObj):Heap:=⟨H.n,H.t.set b o⟩
def Heap.new(H:Heap)(o:IObj):Heap:=⟨H.n+1,H.t.set H.n o⟩
def aa(H:Heap)(b b':Nat)(o:IObj):(H.put b o).get b'=if b=b' then some o else H.get b':=yr _ _ _ _
def ak(H:Heap)(b':Nat)(o:IObj):(H.new o).get b'=if H.n=b' then some o else H.get b':=yr _ _ _ _
theorem af(H:Heap)(b:Nat)(o:IObj):(H.put b o).n=H.n:=rfl
theorem ac(H:Heap)(o:IObj):(H.new o).n=H.n+1:=rfl
def IV.cells:IV->List IV|.agg l=>l|v=>[v]
def aB:List IV->Nat->List IV->List IV|[],_,_=>[]|c::cs,0,[]=>c::cs|_::cs,0,v::vs=>v::aB cs 0 vs|c::cs,o+1,vs=>c::aB cs o vs
def Heap.read(H:Heap)(b o n:Nat):Option (List IV):=match H.get b with|some (.cells _ _ _ cs)=>if o+n<=cs.length then some ((cs.drop o).take n) else none|_=>none
def IV.one:IV->Bool|.agg _|.tuple _=>false|_=>true
def Heap.write(H:Heap)(lo b o:Nat)(vs:List IV):Option Heap:=match H.get b with|some (.cells false e ez cs)=>if lo<=b/\o+vs.length<=cs.length/\vs.all IV.one then some (H.put b (.cells false e ez (aB cs o vs))) else none|_=>none
def ah(n:Option Nat)(l:List IV):Option IV:=match n,l with|some _,l=>some (.agg l)|none,[v]=>some v|none,_=>none
def dM:List (Nat×Nat)->List IV->List IV->Option (List IV)|[],[],cs=>some cs|(off,size)::q,v::vs,cs=>if v.cells.length=size/\off+size<=cs.length then dM q vs (aB cs off v.cells) else none|_,_,_=>none
def Oq:Pk->IV->IV->Option Bool|.bool,.bool a,.bool b=>some (a==b)|.int,.int k a,.int q b=>if k=q then some (a==b) else none|.str,.str a,.str b=>some (a==b)|_,_,_=>none
def j7:List Pk->List IV->List IV->Option Bool|[],[],[]=>some true|d::ds,x::xs,y::ys=>(match Oq d x y,j7 ds xs ys with|some a,some b=>some (a&&b)|_,_=>none)|_,_,_=>none
def XK:Pk->IV->Bool|.bool,.bool _=>true|.int,.int _ _=>true|.str,.str _=>true|_,_=>false
def wV:List Pk->List IV->Bool|[],[]=>true|d::ds,x::xs=>XK d x&&wV ds xs|_,_=>false
def so(op:BinOp):IV->IV->Option IV|.int k a,.int q b=>(match op with|.shl=>if b<0 then none else some (.int k (k.wrap (a*2^(Min.min b.toNat k.bits))))|.shr=>if b<0 then none else some (.int k (a.fdiv (2^(Min.min b.toNat k.bits))))|_=>if k=q then match op with|.add=>some (.int k (k.wrap (a+b)))|.sub=>some (.int k (k.wrap (a - b)))|.mul=>some (.int k (k.wrap (a*b)))|.quo=>if b=0 then none else some (.int k (k.wrap (a.tdiv b)))|.rem=>if b=0 then none else some (.int k (a.tmod b))|.and=>some (.int k (k.wrap (BitVec.ofInt k.bits a&&& BitVec.ofInt k.bits b).toNat))|.or=>some (.int k (k.wrap (BitVec.ofInt k.bits a||| BitVec.ofInt k.bits b).toNat))|.xor=>some (.int k (k.wrap (BitVec.ofInt k.bits a^^^BitVec.ofInt k.bits b).toNat))|.andNot=>some (.int k (k.wrap (BitVec.ofInt k.bits a&&& ~~~(BitVec.ofInt k.bits b)).toNat))|.eql=>some (.bool (a==b))|.neq=>some (.bool (a !=b))|.lss=>some (.bool (decide (a<b)))|.leq=>some (.bool (decide (a<=b)))|.gtr=>some (.bool (decide (a>b)))|.geq=>some (.bool (decide (a>=b)))|_=>none else none)|.str a,.str b=>(match op with|.add=>if a.length+b.length<2^40 then some (.str (a++b)) else none|.eql=>some (.bool (a==b))|.neq=>some (.bool !(a==b))|.lss=>some (.bool (Op.bytesLess a b))|.leq=>some (.bool (Op.bytesLess a b||a==b))|.gtr=>some (.bool !(Op.bytesLess a b||a==b))|.geq=>some (.bool !(Op.bytesLess a b))|_=>none)|_,_=>none
def unI(op:UnOp):IV->Option IV|.int k n=>(match op with|.neg=>some (.int k (k.wrap (0 - n)))|.xor=>some (.int k (k.wrap (BitVec.ofInt k.bits (if k.signed then -1 else k.max)^^^BitVec.ofInt k.bits n).toNat))|_=>none)|.bool b=>(match op with|.not=>some (.bool !b)|_=>none)|_=>none
def oH:Nk->IV->Option Bool|.ptr,.nilPtr|.sl,.nilSlice|.map,.nilMap|.fn,.nilFunc=>some true|.ptr,.ptr _ _|.sl,.slice _ _ _ _ _|.map,.map _|.fn,.fn _ _ _=>some false|_,_=>none
def cM(y:Nat):IV->Option Nat|.int _ n=>if 0<=n/\n<=(y:Int) then some n.toNat else none|_=>none
def bE(len q:Nat)(lo E mx:Bool)(l:List IV):Option (Nat×Nat×Option Nat):=match lo,E,mx,l with|false,false,false,[]=>some (0,len,none)|true,false,false,[a]=>(cM len a).map λa=>(a,len,none)|false,true,false,[b]=>(cM q b).map λb=>(0,b,none)|true,true,false,[a,b]=>(cM q b).bind λb=>(cM b a).map λa=>(a,b,none)|false,true,true,[b,c]=>(cM q c).bind λc=>(cM c b).map λb=>(0,b,some c)|true,true,true,[a,b,c]=>(cM q c).bind λc=>(cM c b).bind λb=>(cM b a).map λa=>(a,b,some c)|_,_,_,_=>none
def br(ag:Bool):IV->Bool|.agg _=>ag|_=>!ag
def d0(ky:Bool×List Pk)(k:IV):Bool:=br ky.1 k&&wV ky.2 k.cells
def fA(ky:Bool×List Pk)(k q:IV):Option Bool:=if br ky.1 k&&br ky.1 q then j7 ky.2 k.cells q.cells else none
def aW(ky:Bool×List Pk)(k:IV):List (IV×IV×Nat)->Nat->Option (Option (Nat×IV))|[],_=>some none|(E,v,_)::q,i=>match fA ky k E with|some true=>some (some (i,v))|some false=>aW ky k q (i+1)|none=>none
def kU(H:Heap)(size n:Nat):IV->Option (List IV)|.nilSlice=>if n=0 then some [] else none|.slice b o _ _ _=>if n=0 then some [] else H.read b o (n*size)|.str s=>if n<=s.length/\size=1 then some ((s.take n).map λc=>.int .u8 c.toNat) else none|_=>none
def rh:IV->Option Nat|.nilSlice=>some 0|.slice _ _ n _ _=>some n|.str s=>some s.length|_=>none
def tI:Nat->List IV->List IV|0,_=>[]|n+1,zs=>zs++tI n zs
def eV(e size bytes:Nat)(s:IV)(xs:List IV)(n lo:Nat)(H:Heap):Option (IV×Heap):=if xs.all IV.one=false then none else match s with|.nilSlice=>if n=0 then some (.nilSlice,H) else if n*(bytes+1)<=2^40 then some (.slice H.n 0 n n false,H.new (.cells false e size xs)) else none|.slice b o len lb ex=>if n=0 then some (.slice b o len lb ex,H) else if len+n<=lb then(H.write lo b (o+len*size) xs).map λH'=>(.slice b o (len+n) lb ex,H') else if (len+n)*(bytes+1)<=2^40 then if ex then(kU H size len s).map λold=>(.slice H.n 0 (len+n) (len+n) false,H.new (.cells false e size (old++xs))) else match H.get b with|some (.cells false q ez cs)=>if q=e/\ez=size/\0<size/\o=0/\lo<=b/\len*size<=cs.length then some (.slice H.n 0 (len+n) (len+n) false,(H.put b .dead).new (.cells false e size (cs.take (len*size)++xs))) else none|_=>none else none|_=>none
def fJ{α:Type}:List α->Nat->List α|[],_=>[]|_::l,0=>l|x::l,i+1=>x::fJ l i
def fH(key val:IV):List (IV×IV×Nat)->Nat->List (IV×IV×Nat)|[],_=>[]|(_,_,s)::l,0=>(key,val,s)::l|x::l,i+1=>x::fH key val l i
def iu(val:IV)(born:Int):List (IV×IV×Nat)->Option (List (IV×IV×Nat))|[]=>none|(k,v,s)::l=>if (s:Int)=born then some ((k,val,s)::l) else(iu val born l).map ((k,v,s)::·)
def aP(H:Heap)(b:Nat):Option (List (IV×IV×Nat)×Nat):=match H.get b with|some (.map q c)=>some (q,c)|_=>none
def stepM(H:Heap)(r:Nat):Option (IV×Option IObj):=match H.get r with|some (.iter none _ _ _)=>some (.tuple [.bool false],none)|some (.iter (some b) q seen F)=>(match aP H b with|none=>none|some (I,E)=>if seen≠[]/\I≠[]/\(I.all λe=>decide (F<=e.2.2))=true then none else match I.filter λe=>!seen.contains e.2.2 with|[]=>some (.tuple [.bool false],none)|[(k,v,s)]=>if s<q then some (.tuple [.bool true,k,v],some (.iter (some b) q (seen++[s]) E)) else none|_=>none)|_=>none
def GW(H:Heap)(r:Nat):Option IV:=match H.get r with|some (.iter (some b) _ seen E)=>(match seen.getLast? with|none=>none|some s=>match aP H b with|none=>none|some (F,q)=>if q=E then(F.find? λe=>e.2.2==s).map λe=>.tuple [e.1,e.2.1] else none)|_=>none
def pX(H:Heap)(b size:Nat):Bool:=match H.get b with|some (.cells q _ ez _)=>q||ez==size|_=>false
def tu:IV->Option Nat|.nilSlice=>some 0|.slice _ _ n _ _=>some n|_=>none
def ev1(kd:Kd)(xs:List IV)(lo:Nat)(H:Heap):Option (IV×Heap):=match kd with|.move=>(match xs with|[x]=>some (x,H)|_=>none)|.pick=>(match xs with|[.bool c,a,b]=>some (if c then a else b,H)|_=>none)|.alloc e ez zs=>(match xs with|[]=>some (.ptr H.n 0,H.new (.cells false e ez zs))|_=>none)|.box e ez=>(match xs with|[x]=>some (.ptr H.n 0,H.new (.cells false e ez x.cells))|_=>none)|.build zs F=>(match xs with|xs=>(dM F xs zs).map λcs=>(.agg cs,H))|.buildSl e ez n zs F=>(match xs with|xs=>(dM F xs zs).map λcs=>(.slice H.n 0 n n true,H.new (.cells false e ez cs)))|.load n=>(match xs with|[.ptr b o]=>(H.read b o (n.getD 1)).bind λcs=>(ah n cs).map λv=>(v,H)|_=>none)|.store n=>(match xs with|[.ptr b o,x]=>if x.cells.length=n then(H.write lo b o x.cells).map λH'=>(UN,H') else none|_=>none)|.nilCheck=>(match xs with|[x]=>(match x with|.nilPtr|.nilIface|.nilFunc|.yield _=>none|x=>some (x,H))|_=>none)|.bin op=>(match xs with|[x,y]=>(so op x y).map (·,H)|_=>none)|.eqBool neg=>(match xs with|[.bool a,.bool b]=>some (.bool (neg !=(a==b)),H)|_=>none)|.eqFlat neg ds=>(match xs with|[.agg x,.agg y]=>(j7 ds x y).map λr=>(.bool (neg !=r),H)|_=>none)|.eqNil neg U=>(match xs with|[x,y]=>(match oH U x,oH U y with|some true,some r=>some (.bool (neg !=r),H)|some r,some true=>some (.bool (neg !=r),H)|_,_=>none)|_=>none)|.un op=>(match xs with|[x]=>(unI op x).map (·,H)|_=>none)|.conv k=>(match xs with|[.int _ n]=>some (.int k (k.wrap n),H)|_=>none)|.mkfn f k=>(match xs with|xs=>some (.fn f (xs.take k) (xs.drop k),H))|.mkmap=>(match xs with|[]=>some (.map H.n,H.new (.map [] 0))|[.int _ _]=>some (.map H.n,H.new (.map [] 0))|_=>none)|.rangeM=>(match xs with|[.nilMap]=>some (.ptr H.n 0,H.new (.iter none 0 [] 0))|[.map b]=>(aP H b).map λp=>(.ptr H.n 0,H.new (.iter (some b) p.2 [] p.2))|_=>none)|.entryM=>(match xs with|[.ptr r 0]=>(GW H r).map (·,H)|_=>none)|.nextM=>(match xs with|[.ptr r 0]=>if lo<=r then(stepM H r).map λp=>(p.1,match p.2 with|none=>H|some o=>H.put r o) else none|_=>none)|.mksl e ez bytes zs=>(match xs with|[.int _ l,.int _ c]=>if 0<=l/\l<=c/\c*(bytes+1)<=2^40 then some (.slice H.n 0 l.toNat c.toNat true,H.new (.cells false e ez (tI c.toNat zs))) else none|_=>none)|.slc size lo O mx=>(match xs with|s::l=>(match s with|.nilSlice=>(bE 0 0 lo O mx l).bind λ(a,b,_)=>if a=0/\b=0 then some (.nilSlice,H) else none|.slice b o len lb ex=>if ex||pX H b size then (bE len lb lo O mx l).map λ(a,h,m)=>match m with|some m=>(.slice b (o+a*size) (h - a) (m - a) true,H)|none=>(.slice b (o+a*size) (h - a) (lb - a) ex,H) else none|_=>none)|_=>none)|.fieldAddr off=>(match xs with|[.ptr b o]=>some (.ptr b (o+off),H)|_=>none)|.field off n=>(match xs with|[.agg cs]=>if off+n.getD 1<=cs.length then(ah n ((cs.drop off).take (n.getD 1))).map λv=>(v,H) else none|_=>none)|.idxSl size=>(match xs with|[.slice b o len _ _,.int _ i]=>if 0<=i/\i<(len:Int) then some (.ptr b (o+i.toNat*size),H) else none|_=>none)|.idxArrAddr len size=>(match xs with|[.ptr b o,.int _ i]=>if 0<=i/\i<(len:Int) then some (.ptr b (o+i.toNat*size),H) else none|_=>none)|.idxArr len size n=>(match xs with|[.agg cs,.int _ i]=>if 0<=i/\i<(len:Int)/\i.toNat*size+n.getD 1<=cs.length then(ah n ((cs.drop (i.toNat*size)).take (n.getD 1))).map λv=>(v,H) else none|_=>none)|.lookup _ ky zero ok=>(match xs with|[m,k]=>(match (match m with|.nilMap=>some []|.map b=>(aP H b).map (·.1)|_=>none) with|none=>none|some E=>if d0 ky k then match aW ky k E 0 with|none=>none|some r=>let (v,I):IV×Bool:=match r with|some (_,v)=>(v,true)|none=>(zero,false);some (if ok then .tuple [v,.bool I] else v,H) else none)|_=>none)|.mapUpd ky=>(match xs with|[.map b,k,v]=>(match aP H b with|none=>none|some (E,q)=>if lo<=b/\d0 ky k then match aW ky k E 0 with|none=>none|some (some (i,_))=>some (UN,H.put b (.map (fH k v E i) q))|some none=>some (UN,H.put b (.map (E++[(k,v,q)]) (q+1))) else none)|_=>none)|.mapEntry _ ky zero=>(match xs with|[.map b,k]=>(match aP H b with|none=>none|some (E,q)=>if lo<=b/\d0 ky k then match aW ky k E 0 with|none=>none|some (some (i,v))=>(E[i]?).map λe=>(.tuple [v,.int .i64 e.2.2],H.put b (.map (fH k v E i) q))|some none=>some (.tuple [zero,.int .i64 q],H.put b (.map (E++[(k,zero,q)]) (q+1))) else none)|_=>none)|.entryStore=>(match xs with|[.map b,.int _ s,v]=>(match aP H b with|none=>none|some (E,q)=>if lo<=b then(iu v s E).map λJ=>(UN,H.put b (.map J q)) else none)|_=>none)|.delete ky=>(match xs with|[.map b,k]=>(match aP H b with|none=>none|some (E,q)=>if lo<=b/\d0 ky k then match aW ky k E 0 with|none=>none|some (some (i,_))=>some (UN,H.put b (.map (fJ E i) q))|some none=>some (UN,H) else none)|_=>none)|.lenSl=>(match xs with|[x]=>(match x with|.nilSlice=>some (.int .i64 0,H)|.slice _ _ n _ _=>some (.int .i64 n,H)|_=>none)|_=>none)|.lenMap=>(match xs with|[m]=>(match m with|.nilMap=>some (.int .i64 0,H)|.map b=>(aP H b).map λ(E,_)=>(.int .i64 E.length,H)|_=>none)|_=>none)|.cap=>(match xs with|[x]=>(match x with|.nilSlice=>some (.int .i64 0,H)|.slice _ _ _ c true=>some (.int .i64 c,H)|_=>none)|_=>none)|.append e size bytes=>(match xs with|[s,x]=>(rh x).bind λn=>(kU H size n x).bind λxs=>eV e size bytes s xs n lo H|_=>none)|.copy size=>(match xs with|[d,s]=>(match tu d,rh s with|some n,some m=>(let k:=Min.min m n;if k=0 then some (.int .i64 0,H) else(kU H size k s).bind λxs=>match d with|.slice b o _ _ _=>(H.write lo b o xs).map λH'=>(.int .i64 k,H')|_=>none)|_,_=>none)|_=>none)|.min=>(match xs with|[.int k a,.int K b]=>if k=K then some (.int k (if b<a then b else a),H) else none|_=>none)|.max=>(match xs with|[.int k a,.int K b]=>if k=K then some (.int k (if b>a then b else a),H) else none|_=>none)|.clear zs=>(match xs with|[x]=>(match x with|.nilSlice=>some (.tuple [],H)|.slice b o n _ _=>if n=0 then some (.tuple [],H) else(H.write lo b o (tI n zs)).map λH'=>(.tuple [],H')|_=>none)|_=>none)|.extract i=>(match xs with|[.tuple l]=>(l[i]?).map (·,H)|_=>none)|.call=>none
structure IFn where
 ntmps:Nat
 results:List (Nat×Option (Option Nat))
 body:IC
structure Fr where
 tm:List IV
 marks:List Nat
inductive Ex where
 | normal
 | jmp (j:Jmp)
inductive Fp where
 | none
 | rd (b o n:Nat)
 | wr (b o n:Nat)
 | wb (b:Nat)
 | lk (t:TypeId) (ky:Bool×List Pk) (b:Nat) (k:IV)
 | me (t:TypeId) (ky:Bool×List Pk) (b:Nat) (k:IV)
abbrev fk:=List (Nat×Fp)
inductive Task where
 | code (c:IC) (rd:Option Nat) (fr:Fr)
 | segs (l:List (Sg×List IOp)) (rd:Option Nat) (fr:Fr)
 | ops (free:Option fk) (l:List IOp) (rd:Option Nat) (fr:Fr)
 | call (f:FuncId) (args:List IV)
 | apply (f:IV) (args:List IV)
inductive Out where
 | ex (e:Ex) (fr:Fr)
 | val (v:IV)
structure Env where
 fns:FuncId→Option IFn
 sums:FuncId→Option (List IV→Nat→Heap→Option (IV×Heap))
 g0:Nat
def IA.eval(g0:Nat)(tm:List IV):IA->Option IV|.tmp t=>some (tm.getD t UN)|.val v=>some v|.glob g=>if g<g0 then some (.ptr g 0) else none
def dm(g0:Nat)(tm:List IV):List IA->Option (List IV)|[]=>some []|x::xs=>match x.eval g0 tm with|none=>none|some v=>match dm g0 tm xs with|none=>none|some vs=>some (v::vs)
def Fr.put(fr:Fr)(dst:Option Nat)(v:IV):Fr:=match dst with|none=>fr|some d=>{fr with tm:=fr.tm.set d v}
def eP(tm:List IV):Option (Nat×Bool)->Bool|none=>true|some (t,q)=>match tm.getD t UN with|.bool b=>b==q|_=>false
def rN(H:Heap)(tm:List IV):Nat×Option (Option Nat)->Option IV|(t,none)=>some (tm.getD t UN)|(t,some n)=>match tm.getD t UN with|.ptr b o=>(H.read b o (n.getD 1)).bind (ah n)|_=>none
def aY(H:Heap)(tm:List IV):List (Nat×Option (Option Nat))->Option (List IV)|[]=>some []|r::rs=>match rN H tm r,aY H tm rs with|some v,some vs=>some (v::vs)|_,_=>none
def kT:List IV->IV|[v]=>v|l=>.tuple l
def eu(lo:Nat):List Nat->Heap->Option Heap|[],H=>some H|r::rs,H=>match H.get r with|some .deferred=>if lo<=r then eu lo rs (H.put r .taken) else none|_=>none
def jT:List IV->List Nat->List IV->List IV|tm,p::q,v::vs=>jT (tm.set p v) q vs|tm,_,_=>tm
def ft:Nat->List IV|0=>[]|n+1=>UN::ft n
def Kd.pure:Kd->Bool|.move|.pick|.build _ _|.nilCheck|.bin _|.eqBool _|.eqFlat _ _|.eqNil _ _|.un _|.conv _|.mkfn _ _|.fieldAddr _|.field _ _|.idxSl _|.idxArrAddr _ _|.idxArr _ _ _|.lenSl|.cap|.min|.max|.extract _=>true|_=>false
def Kd.isStore:Kd->Bool|.store _=>true|_=>false
def mU(b o n b' o' q:Nat):Bool:=b≠b'||o+n<=o'||o'+q<=o
def bP:Fp->Fp->Bool|.rd b o n,.wr b' o' q|.wr b o n,.rd b' o' q|.wr b o n,.wr b' o' q=>mU b o n b' o' q|.wb b,.rd b' _ _|.rd b' _ _,.wb b|.wb b,.wr b' _ _|.wr b' _ _,.wb b|.wb b,.wb b'|.wb b,.lk _ _ b' _|.lk _ _ b' _,.wb b|.wb b,.me _ _ b' _|.me _ _ b' _,.wb b=>b≠b'|.lk _ _ b _,.wr b' _ _|.wr b' _ _,.lk _ _ b _|.rd b _ _,.me _ _ b' _|.me _ _ b' _,.rd b _ _|.wr b _ _,.me _ _ b' _|.me _ _ b' _,.wr b _ _|.me _ _ b' _,.me _ _ b _=>b≠b'|.lk t ky b k,.me F _ b' E|.me F _ b' E,.lk t ky b k=>b≠b'||(t==F&&(match fA ky k E with|some true=>true|_=>false))|_,_=>true
def adS:IV->Fp|.slice b _ _ _ false=>.rd b 0 0|_=>.none
def jA(o:IOp)(xs:List IV):Option Fp:=match o.kd,xs with|.slc _ _ _ _,s::_=>some (adS s)|.store n,[.ptr b a,_]=>some (.wr b a n)|.store _,_=>none|.load n,[.ptr b a]=>some (.rd b a (n.getD 1))|.load _,_=>none|.lookup t ky _ false,[.map b,k]=>some (.lk t ky b k)|.lookup _ _ _ false,[.nilMap,_]=>some .none|.lookup _ _ _ false,_=>none|.append _ _ _,.slice b _ _ _ _::_=>some (if o.amb then .wb b else .none)|.mapEntry t ky _,[.map b,k]=>some (if o.amb then .me t ky b k else .none)|_,_=>some .none
def sa(q:fk)(o:IOp)(xs:List IV):Option fk:=match jA o xs with|none=>none|some f=>if q.all λp=>o.mask.testBit p.1||bP p.2 f then some ((o.idx,f)::q) else none
def jJ(free:Option fk)(o:IOp)(lo:Nat)(H:Heap):Nat:=match free with|none=>lo|some _=>if o.amb then lo else H.n
def bK(free:Option fk)(o:IOp)(xs:List IV):Option (Option fk):=match free with|none=>some none|some q=>(sa q o xs).map some
def mS(rd:Option Nat)(H:Heap):Option (Nat×List Nat×Heap):=match rd with|none=>some (H.n,[H.n],H.new .deferred)|some l=>match H.get l with|some (.loop _ _ _ _ _ _ q)=>some (q,[],H)|_=>none
def oM(l:Nat)(H:Heap):Option Heap:=match H.get l with|some (.loop .ready pend tm F q body E)=>some (H.put l (.loop .busy pend tm F q body E))|_=>none
def HW(l:Nat)(e:Ex)(H:Heap):Option (Out×Heap):=match H.get l with|some (.loop _ _ tm F q body E)=>(match e with|.normal=>some (.val (.bool true),H.put l (.loop .ready none tm F q body E))|.jmp j=>some (.val (.bool false),H.put l (.loop .done (some j) tm F q body E)))|_=>none
def run(E:Env):Nat->Task->Nat->Heap->Option (Out×Heap)|0,_,_,_=>none|n+1,t,lo,H=>match t with|.code c rd fr=>(match c with|.skip=>some (.ex .normal fr,H)|.exit id=>some (.ex (.jmp (.exit id)) fr,H)|.ret=>some (.ex (.jmp .ret) fr,H)|.ops l=>run E n (.segs l rd fr) lo H|.seq a b=>(match run E n (.code a rd fr) lo H with|some (.ex .normal q,H')=>run E n (.code b rd q) lo H'|r=>r)|.cond c a b=>(match c.eval E.g0 fr.tm with|some (.bool true)=>run E n (.code a rd fr) lo H|some (.bool false)=>run E n (.code b rd fr) lo H|_=>none)|.block id c=>(match run E n (.code c rd fr) lo H with|some (.ex (.jmp (.exit U)) q,H')=>some (.ex (if U=id then .normal else .jmp (.exit U)) q,H')|r=>r)|.loop c=>(match run E n (.code c rd fr) lo H with|some (.ex .normal q,H')=>run E n (.code (.loop c) rd q) lo H'|r=>r)|.scope c=>run E n (.code c rd fr) lo H|.rfn f K F body=>match f.eval E.g0 fr.tm,mS rd H with|some g,some (Z,marks,H1)=>(match run E n (.apply g [.yield H1.n]) lo (H1.new (.loop .ready none fr.tm K F body Z)) with|some (.val _,V)=>(match V.get H1.n with|some (.loop st pend tm K F body Z)=>(if st=.busy\/H1.n<lo then none else let Y:=V.put H1.n (.loop .exhausted pend tm K F body Z);let q:Fr:={fr with marks:=marks++fr.marks};match pend with|none=>some (.ex .normal q,Y)|some j=>some (.ex (.jmp j) q,Y))|_=>none)|_=>none)|_,_=>none)|.segs l rd fr=>(match l with|[]=>some (.ex .normal fr,H)|(k,os)::l=>match run E n (.ops (match k with|.seq=>none|.free=>some []) os rd fr) lo H with|some (.ex .normal q,H')=>run E n (.segs l rd q) lo H'|_=>none)|.ops free l rd fr=>(match l with|[]=>some (.ex .normal fr,H)|o::l=>if eP fr.tm o.guard then match dm E.g0 fr.tm o.args with|none=>none|some xs=>match bK free o xs with|none=>none|some I=>match o.kd with|.call=>(match xs with|f::xs=>(match run E n (.apply f xs) (jJ free o lo H) H with|some (.val v,H')=>run E n (.ops I l rd (fr.put o.dst v)) lo H'|_=>none)|[]=>none)|kd=>match ev1 kd xs (jJ free o lo H) H with|some (v,H')=>run E n (.ops I l rd (fr.put o.dst v)) lo H'|none=>none else run E n (.ops free l rd (fr.put o.dst UN)) lo H)|.apply f args=>(match f with|.fn f J cap=>run E n (.call f (J++args++cap)) lo H|.yield l=>(match H.get l with|some (.loop _ _ tm K F body _)=>if args.length=K.length/\lo<=l then match run E n (.code F (some l) ⟨jT tm K args,[]⟩) lo H with|some (.ex .normal fr,H1)=>(match oM l H1 with|some V=>(match run E n (.code body (some l) fr) lo V with|some (.ex e _,Y)=>HW l e Y|_=>none)|none=>none)|_=>none else none|_=>none)|_=>none)|.call f args=>match E.sums f with|some s=>(s args lo H).map λ(v,H')=>(.val v,H')|none=>match E.fns f with|none=>none|some fn=>match run E n (.code fn.body none ⟨args++ft (fn.ntmps - args.length),[]⟩) lo H with|some (.ex e fr,H')=>(match e with|.jmp (.exit _)=>none|_=>match eu lo fr.marks H' with|none=>none|some O=>(aY O fr.tm fn.results).map λvs=>(.val (kT vs),O))|_=>none
def xq:Nat->Value->Option IV|0,_=>none|n+1,v=>match v with|.bool b=>some (.bool b)|.int k n=>some (.int k n)|.string s=>some (.str s.data.toList)|.pointer none=>some .nilPtr|.slice none 0 0=>some .nilSlice|.map none=>some .nilMap|.nilFunc=>some .nilFunc|.nilIface=>some .nilIface|.agg cs=>(cs.toList.mapM (xq n)).map .agg|_=>none
def tU:Operand->Option IA|.tmp t=>some (.tmp t)|.const v=>(xq 3 v).map .val|.global g=>some (.glob g)|.func f=>some (.val (.fn f [] []))
section
variable (P:Program)
def bp(t:TypeId):Option Nat:=(P.info? t).map (·.size)
def rz(t:TypeId):Option Nat:=(P.info? t).map (·.bytes)
def yq(t:TypeId):Option (Option Nat):=match P.underlying t,bp P t with|some (.struct _),some n=>some (some n)|some (.array _ _),some n=>some (some n)|some (.struct _),none=>none|some (.array _ _),none=>none|some _,some _=>some none|_,_=>none
def lG(t:TypeId):Option IV:=((P.info? t).bind (·.zero)).bind (xq 3)
def td(aw:TypeId->Option (List Pk)):List Field->Nat->Option (List Pk)|[],_=>some []|f::fs,off=>match aw f.type with|some l=>if f.name≠"_"/\f.offset=off/\bp P f.type=some l.length then(td aw fs (off+l.length)).map (l++·) else none|none=>none
def eD:Nat->TypeId->Option (List Pk)|0,_=>none|d+1,t=>match P.underlying t with|some .bool=>some [.bool]|some (.int _)=>some [.int]|some .string=>some [.str]|some (.struct fs)=>if P.stoodInHeld t then none else td P (eD d) fs.toList 0|some (.array n e)=>(match eD d e with|some l=>if bp P e=some l.length then some (List.replicate n l).flatten else none|none=>none)|_=>none
def rY(k:TypeId):Option (Bool×List Pk):=(eD P 8 k).map λds=>(match P.underlying k with|some (.struct _)|some (.array _ _)=>true|_=>false,ds)
def tB(l:List Operand):Option (List IA):=l.mapM tU
def qB(t:TypeId)(i:Nat):Option Field:=match P.underlying t with|some (.struct fs)=>fs[i]?|_=>none
def oU(e:TypeId):Option (Nat×List IV):=match bp P e,lG P e with|some n,some z=>if z.cells.length=n then some (n,z.cells) else none|_,_=>none
def bh(b:Builtin)(ts:List TypeId):Option Kd:=match b,ts with|.len,[t]=>(match P.underlying t with|some (.slice _)=>some .lenSl|some (.map _ _)=>some .lenMap|_=>none)|.cap,[t]=>(match P.underlying t with|some (.slice _)=>some .cap|_=>none)|.append,[t,u]=>(match P.underlying t,P.underlying u with|some (.slice e),some (.slice _)=>(oU P e).bind λz=>(rz P e).map λb=>.append e z.1 b|some (.slice e),some .string=>(oU P e).bind λz=>(rz P e).map λb=>.append e z.1 b|_,_=>none)|.copy,t::_=>(match P.underlying t with|some (.slice e)=>(bp P e).map .copy|_=>none)|.delete,t::_=>(match P.underlying t with|some (.map k _)=>(rY P k).map .delete|_=>none)|.clear,t::_=>(match P.underlying t with|some (.slice e)=>(oU P e).map λz=>.clear z.2|_=>none)|.min,_=>some .min|.max,_=>some .max|_,_=>none
def NR(op:BinOp)(t:TypeId):Option Kd:=match op with|.eql|.neq=>(let neg:=op matches .neq;match P.underlying t with|some .bool=>some (.eqBool neg)|some (.int _)|some .string=>some (.bin op)|some (.struct _)|some (.array _ _)=>if P.eqGuardType P.depth t then none else(eD P 8 t).map (.eqFlat neg)|some (.pointer _)=>some (.eqNil neg .ptr)|some (.slice _)=>some (.eqNil neg .sl)|some (.map _ _)=>some (.eqNil neg .map)|some (.func _ _ _)=>some (.eqNil neg .fn)|_=>none)|_=>some (.bin op)
def xX(place:Nat->Option (Nat×Nat))(q:Array (Nat×Operand)):Option (List (Nat×Nat)):=q.toList.mapM λp=>place p.1
def d6(op:Op):Option Kd:=match op with|.move _|.assign _=>some .move|.pick _ _ _=>some .pick|.alloc e=>(bp P e).bind λn=>(lG P e).map λz=>.alloc e n z.cells|.box e _=>(bp P e).map λn=>.box e n|.build t F=>(match P.underlying t with|some (.struct fs)=>if fs.all λf=>(bp P f.type).isSome then (xX (λi=>(fs[i]?).bind λf=>(bp P f.type).map λn=>(f.offset,n)) F).bind λq=>(lG P t).map λz=>.build z.cells q else none|some (.array _ e)=>(bp P e).bind λn=>(xX (λi=>some (i*n,n)) F).bind λq=>(lG P t).map λz=>.build z.cells q|_=>none)|.buildSlice t len F=>(match P.underlying t with|some (.slice e)=>(oU P e).bind λz=>(xX (λi=>some (i*z.1,z.1)) F).bind λq=>if len*z.1<=2^24/\len<2^40 then some (.buildSl e z.1 len (tI len z.2) q) else none|_=>none)|.load t _=>(yq P t).map .load|.store t _ _=>(bp P t).map .store|.nilCheck _=>some .nilCheck|.binOp op t _ _ _=>NR P op t|.unOp op _ _=>some (.un op)|.convert J dst _=>(match P.underlying J,P.underlying dst with|some (.int _),some (.int k)=>some (.conv k)|_,_=>none)|.makeFunc (.func f) E _=>some (.mkfn f E.size)|.makeMap t _=>(match P.underlying t with|some (.map _ _)=>some .mkmap|_=>none)|.makeSlice t _ _=>(match P.underlying t with|some (.slice e)=>(oU P e).bind λz=>(rz P e).map λb=>.mksl e z.1 b z.2|_=>none)|.slice t _ lo K mx=>(match P.underlying t with|some (.slice e)=>(bp P e).map λn=>.slc n lo.isSome K.isSome mx.isSome|_=>none)|.fieldAddr t _ i=>(qB P t i).bind λf=>(bp P f.type).bind λn=>if n=0 then none else some (.fieldAddr f.offset)|.field t _ i=>(qB P t i).bind λf=>(yq P f.type).map λn=>.field f.offset n|.indexAddr t _ _=>(match P.underlying t with|some (.slice e)=>(bp P e).map .idxSl|some (.array n e)=>(bp P e).map λk=>.idxArrAddr n k|_=>none)|.index t _ _=>(match P.underlying t with|some (.array n e)=>(bp P e).bind λk=>(yq P e).map λa=>.idxArr n k a|_=>none)|.lookup t _ _ ok=>(match P.underlying t with|some (.map k e)=>(rY P k).bind λky=>(lG P e).map λz=>.lookup t ky z ok|_=>none)|.mapUpdate t _ _ _|.insert t _ _ _=>(match P.underlying t with|some (.map I _)=>(rY P I).map .mapUpd|_=>none)|.mapEntry t _ _=>(match P.underlying t with|some (.map I e)=>(rY P I).bind λky=>(lG P e).map λz=>.mapEntry t ky z|_=>none)|.entryStore _ _ _ _=>some .entryStore|.range t _=>(match P.underlying t with|some (.map _ _)=>some .rangeM|_=>none)|.next _ false=>some .nextM|.entry _=>some .entryM|.extract _ i=>some (.extract i)|.call c=>(match c.callee with|.value _=>some .call|.builtin b=>bh P b c.argTypes.toList|_=>none)|_=>none
def YH(o:Oper):Option (Kd×List IA):=do
 let kd←d6 P o.op
 let as←tB o.op.operands.toList
 pure (kd,as)
def LG:List Oper->Nat->Bool|[],_=>true|o::os,i=>(o.after.all λe=>!Region.binds .any e||decide (e.on<i))&&LG os (i+1)
def mask(q:List Nat)(o:Oper):Nat:=o.after.toList.foldl (λs e=>if Region.binds .any e then s||| 2^e.on||| q.getD e.on 0 else s) 0
def j3:List Oper->List Nat->List Nat|[],q=>q|o::os,q=>j3 os (q++[mask q o])
def kQ(ms:List Nat)(i j:Nat):Bool:=(ms.getD (Max.max i j) 0).testBit (Min.min i j)
def DE:IA->Option Nat|.tmp t=>some t|_=>none
def IOp.names(o:IOp):List Nat:=o.dst.toList++o.args.filterMap DE++(o.guard.map (·.1)).toList
def xI(a b:IOp):Bool:=(match a.dst with|some d=>!b.names.contains d|none=>true)&& (match b.dst with|some d=>!a.names.contains d|none=>true)
def sq(ms:List Nat)(i:Nat)(a:IOp):List IOp->Nat->Bool|[],_=>true|b::l,j=>(kQ ms i j||xI a b)&&sq ms i a l (j+1)
def vL(ms:List Nat):List IOp->Nat->Bool|[],_=>true|a::l,i=>sq ms i a l (i+1)&&vL ms l (i+1)
def mr(ops:Array Oper)(o:Oper):Option IOp:=do
 let (kd,args)←YH P o
 let guard←match o.guard with
  | none=>pure none
  | some (j,want)=>do pure (some (←(ops[j]?).bind (·.dst),want))
 pure {dst:=o.dst,kd,args,guard,amb:=true,idx:=0,mask:=0}
def Jn(ms:List Nat)(i:Nat):Bool:=(ms.drop i).all λm=>m%2^i=2^i - 1
def sM(l:List IOp):Sg:=if l.length<=1 then .seq else .free
def Kd.isLoad:Kd->Bool|.load _|.slc _ _ _ _=>true|_=>false
def Kd.isLook:Kd->Bool|.lookup _ _ _ false=>true|_=>false
def Kd.light(k:Kd):Bool:=k.pure||k.isLoad||k.isLook
def Kd.isWr:Kd->Bool|.append _ _ _|.mapEntry _ _ _=>true|_=>false
def px(ms:List Nat)(i:Nat)(ok:Kd->Bool):List IOp->Nat->Bool|[],_=>true|b::l,j=>(i==j||kQ ms i j||ok b.kd)&&px ms i ok l (j+1)
def O9(ms:List Nat)(l:List IOp)(i:Nat)(k:Kd):Bool:=k.isStore||px ms i Kd.pure l 0||(k.isWr&&px ms i Kd.light l 0)
def mO(ms:List Nat)(all:List IOp):List IOp->Nat->List IOp|[],_=>[]|o::l,i=>{o with amb:=O9 ms all i o.kd,idx:=i,mask:=ms.getD i 0}::mO ms all l (i+1)
def p8(a b:IOp):Bool:=a.kd.light||b.kd.light||(a.kd.isStore&&b.kd.isStore)||(!a.amb&&!b.amb)
def pE(ms:List Nat)(i:Nat)(a:IOp):List IOp->Nat->Bool|[],_=>true|b::l,j=>(kQ ms i j||p8 a b)&&pE ms i a l (j+1)
def rK(ms:List Nat):List IOp->Nat->Bool|[],_=>true|a::l,i=>pE ms i a l (i+1)&&rK ms l (i+1)
def parts(ms:List Nat):List IOp->Nat->List IOp->List (Sg×List IOp)|[],_,[]=>[]|[],_,q=>[(sM q.reverse,q.reverse)]|o::l,i,q=>if Jn ms (i+1) then(sM (o::q).reverse,(o::q).reverse)::parts ms l (i+1) [] else parts ms l (i+1) (o::q)
def Kq(md:Region.Mode)(ops:Array Oper):List Nat->List Nat->Bool|[],seen=>(List.range ops.size).all seen.contains|i::l,seen=>(match ops[i]? with|some o=>o.after.all (λe=>!Region.binds md e||seen.contains e.on)|none=>false)&&Kq md ops l (i::seen)
def AQ(ops:Array Oper):Bool:=Kq .any ops (List.range ops.size) []&& (!Region.departs ops||(Kq .text ops (List.range ops.size) []&&Kq .gc ops (Region.linearise .gc ops 0) []))
def eE(ops:Array Oper)(draw:Bool):Option (List (Sg×List IOp)):=do
 let l←ops.toList.mapM (mr P ops)
 if draw then
  let ms:=j3 ops.toList []
  let l:=mO ms l l 0
  if AQ ops&&LG ops.toList 0&&vL ms l 0&&rK ms l 0 then pure (parts ms l 0 []) else none
 else pure [(.seq,l)]
def bj:Code→Option IC
 | .skip=>some .skip
 | .region _ ops draw=>(eE P ops draw).map .ops
 | .seq a b=>do pure (.seq (←bj a) (←bj b))
 | .cond c a b=>do pure (.cond (←tU c) (←bj a) (←bj b))
 | .block id c=>do pure (.block id (←bj c))
 | .scope c=>do pure (.scope (←bj c))
 | .label _=>some .skip
 | .loop c=>do pure (.loop (←bj c))
 | .rangeFunc f ps asg body=>do pure (.rfn (←tU f) ps.toList (←bj asg) (←bj body))
 | .exit id=>some (.exit id)
 | .ret=>some .ret
 | _=>none
def Cy:ResultVar->Option (Nat×Option (Option Nat))|.tmp t=>some (t,none)|.cell a t=>(yq P t).map λn=>(a,some n)
def mF(f:FuncId):Option IFn:=
 match P.funcs[f]? with
 | none=>none
 | some fn=>
   if fn.name=="runtime.NumGoroutine" then none else
   match fn.body with
   | none=>none
   | some c=>do pure ⟨fn.ntmps,←fn.results.toList.mapM (Cy P),←bj P c⟩
end
def IObj.owned:IObj->Bool|.cells true _ _ _=>false|.dead=>false|_=>true
def pc:Jmp->Code|.exit id=>.exit id|.ret=>.ret
def EsR(μ:Mu):List (IV×IV×Nat)->List MapEntry->Prop|[],l=>l=[]|(k,v,s)::E,l=>∃(e:MapEntry) (q:List MapEntry),l=e::q/\VR μ k e.key/\VR μ v e.val/\e.born=s/\EsR μ E q
def EsR.mono{μ q:Mu}(E:μ.le q):∀{F:List (IV×IV×Nat)}{l:List MapEntry},EsR μ F l->EsR q F l|[],_,h=>h|(k,v,_)::_,_,h=>by obtain⟨e,I,a,b,c,d,f⟩:=h;exact⟨e,I,a,VR.mono E k _ b,VR.mono E v _ c,d,EsR.mono E f⟩
def ObjR(P:Program)(μ:Mu)(o:IObj)(p ez z:Nat)(h:Option Obj):Prop:=match o with|.cells true _ _ cs=>ez=0/\∃(q:Array Value) (e:TypeId) (Z:Nat×Nat),h=some (.cells q e Z)/\p+cs.length<=q.size/\VRs μ cs ((q.toList.drop p).take cs.length)|.cells false e O cs=>p=0/\ez=O/\∃q:Array Value,h=some (.cells q e (0,0))/\q.size=z/\cs.length<=z/\VRs μ cs (q.toList.take cs.length)|.map Y E=>p=0/\∃I:Array MapEntry,h=some (.map I E)/\EsR μ Y I.toList|.loop st pend tm ps K body V=>p=0/\∃L:Loop,h=some (.loop L)/\L.state=st/\L.pending=pend.map pc/\VRs μ tm L.tmps.toList/\L.params.toList=ps/\ bj P L.assign=some K/\bj P L.body=some body/\LocR μ V 0 ⟨L.defers,0,none⟩|.deferred=>p=0/\h=some (.deferred (some []))|.taken=>p=0/\h=some (.deferred none)|.iter m F seen J=>p=0/\∃U:Option Nat,h=some (.mapIter U F seen.toArray J)/\VR μ (match m with|none=>.nilMap|some b=>.map b) (.map U)|.dead=>False
def ObjR.mono{P:Program}{μ F:Mu}{o:IObj}{p ez z:Nat}{h:Option Obj}(E:μ.le F)(k:ObjR P μ o p ez z h):ObjR P F o p ez z h:=by cases o with|cells ro e Y cs=>cases ro;{obtain⟨a,b,q,c,d,J,f⟩:=k;exact⟨a,b,q,c,d,J,VRs.mono E _ _ f⟩};{obtain⟨a,q,J,Z,b,c,f⟩:=k;exact⟨a,q,J,Z,b,c,VRs.mono E _ _ f⟩}|map es I=>obtain⟨a,K,b,c⟩:=k;exact⟨a,K,b,EsR.mono E c⟩|loop st pend tm ps V body df=>obtain⟨a,L,b,c,d,e,f,g,i,j⟩:=k;exact⟨a,L,b,c,d,VRs.mono E _ _ e,f,g,i,j.mono E⟩|deferred=>exact k|taken=>exact k|iter m O seen U=>obtain⟨a,m',b,c⟩:=k;exact⟨a,m',b,VR.mono E _ _ c⟩|dead=>exact k
def ObjR.some_{P:Program}{μ:Mu}{o:IObj}{p ez z:Nat}{h:Option Obj}(k:ObjR P μ o p ez z h):∃x,h=some x:=by cases o with|cells U e O cs=>cases U;{obtain⟨_,_,E,c,_⟩:=k;exact⟨_,c⟩};{obtain⟨_,E,Y,fz,b,_⟩:=k;exact⟨_,b⟩}|map Z q=>obtain⟨_,K,b,_⟩:=k;exact⟨_,b⟩|loop st pend tm ps J body V=>obtain⟨_,L,b,_⟩:=k;exact⟨_,b⟩|deferred=>exact⟨_,k.2⟩|taken=>exact⟨_,k.2⟩|iter m F seen I=>obtain⟨_,m',b,_⟩:=k;exact⟨_,b⟩|dead=>exact k.elim
abbrev Gt:=Nat->Option IObj
def bD(g:Gt)(b:Nat):Prop:=∃o,g b=some o/\o.owned=true
structure Rel(P:Program)(g0:Nat)(μ:Mu)(g:Gt)(n:Nat)(w:World):Prop where
 lt:∀b,μ b≠.no→b < n
 inj:∀b b' c p ez z p' ez' z',μ b=.at c p ez z→μ b'=.at c p' ez' z'→bD g b→b=b'
 obj:∀b c p ez z,μ b=.at c p ez z→∃o,g b=some o∧ObjR P μ o p ez z w.heap[c]?
 glob:∀i,i < g0→μ i=.at i 0 0 0
 ded:∀b,μ b=.dead→g b=some .dead
structure Post(lo:Nat)(μ:Mu)(g:Gt)(n:Nat)(w:World)(μ':Mu)(g':Gt)(n':Nat)(w':World):Prop where
 le:μ.le μ'
 hn:n≤n'
 old:∀b,b < n→μ b=.no→μ' b=.no
 low:∀b,b < lo→b < n→μ' b=μ b∧g' b=g b
 own:∀b,b < n→bD g' b→bD g b
 new:∀b c p ez z,n≤b→μ' b=.at c p ez z→w.heap.size≤c∨∃b0 p0 ez0 z0,lo≤b0∧b0 < n∧bD g b0∧μ b0=.at c p0 ez0 z0
 full:∀b,n≤b→b < n'→μ' b≠.no
 size:w.heap.size≤w'.heap.size
 frame:∀c,c < w.heap.size→(∀b p ez z,lo≤b→b < n→bD g b→μ b≠.at c p ez z)→w'.heap[c]? =w.heap[c]?
 os:w'.os=w.os
 tape:w'.tape=w.tape
 output:w'.output=w.output
 drawn:w.drawn≤w'.drawn
section
variable {P:Program}{g0 lo n:Nat}{μ:Mu}{g:Gt}{w:World}
def Rel.clt(h:Rel P g0 μ g n w){b c p ez z:Nat}(q:μ b=.at c p ez z):c<w.heap.size:=by obtain⟨o,_,E⟩:=h.obj b c p ez z q;obtain⟨x,hx⟩:=E.some_;grind
def Rel.heap_eq{w':World}(h:Rel P g0 μ g n w)(e:w'.heap=w.heap):Rel P g0 μ g n w':=⟨h.lt,h.inj,λb c p ez z q=>by rw[e];exact h.obj b c p ez z q,h.glob,h.ded⟩
def Rel.congr{I:Gt}(h:Rel P g0 μ g n w)(e:∀b,μ b≠.no->I b=g b):Rel P g0 μ I n w where lt:=h.lt;inj:=λb b' c p ez z O E U q F K=>h.inj b b' c p ez z O E U q F (by obtain⟨o,V,J⟩:=K;exact⟨o,by grind,J⟩);obj:=λb c p ez z q=>by{rw[e b (by grind)];exact h.obj b c p ez z q};glob:=h.glob;ded:=λb q=>by rw[e b (by grind)];exact h.ded b q
def Rel.more{q:Nat}(h:Rel P g0 μ g n w)(hn:n<=q):Rel P g0 μ g q w:=⟨λb E=>bR (h.lt b E) hn,h.inj,h.obj,h.glob,h.ded⟩
theorem Post.refl(h:Rel P g0 μ g n w):Post lo μ g n w μ g n w where le:=μ.le_refl;hn:=an _;old:=λ_ _ h=>h;low:=λ_ _ _=>⟨rfl,rfl⟩;own:=λ_ _ h=>h;new:=λb c p ez z F e=>absurd (h.lt b (by grind)) Om;full:=λb q E=>Om;size:=an _;frame:=λ_ _ _=>rfl;os:=rfl;tape:=rfl;output:=rfl;drawn:=an _
def Post.trans{n1 n2:Nat}{K aE:Mu}{g1 g2:Gt}{w1 w2:World}(h:Post lo μ g n w K g1 n1 w1)(k:Post lo K g1 n1 w1 aE g2 n2 w2):Post lo μ g n w aE g2 n2 w2 where le:=Mu.le_trans h.le k.le;hn:=eC h.hn k.hn;old:=λb I e=>k.old b (bR I h.hn) (h.old b I e);low:=λb hl I=>by{obtain⟨a1,a2⟩:=h.low b hl I;obtain⟨b1,b2⟩:=k.low b hl (bR I h.hn);grind};own:=λb I o=>h.own b I (k.own b (bR I h.hn) o);new:=λb c p ez z I e=>by{have key:∀b0 O E U,lo<=b0->b0<n1->bD g1 b0->K b0=.at c O E U->w.heap.size<=c\/∃b0 O E U,lo<=b0/\b0<n/\bD g b0/\μ b0=.at c O E U:=by{intro b0 O E U V aS ho Y;by_cases q:b0<n;{have F:μ b0≠.no:=λZ=>by{rw[h.old b0 q Z] at Y;cases Y};rcases h.le b0 F with J|J;{exact .inr ⟨b0,O,E,U,V,q,h.own b0 q ho,by rw[<-J];exact Y⟩};{rw[J] at Y;cases Y}};{exact h.new b0 c O E U Om Y}};by_cases q:b<n1;{have F:K b≠.no:=λZ=>by{rw[k.old b q Z] at e;cases e};rcases k.le b F with J|J;{exact h.new b c p ez z I (by rw[<-J];exact e)};{rw[J] at e;cases e}};{rcases k.new b c p ez z Om e with hc|⟨b0,O,E,U,h1,h2,h3,h4⟩;{exact .inl (eC h.size hc)};grind}};full:=λb h1 h2=>by{by_cases I:b<n1;{have F:=h.full b h1 I;rcases k.le b F with e|e<;>grind};{exact k.full b Om h2}};size:=eC h.size k.size;frame:=λc hc ad=>by{refine(k.frame c (bR hc h.size) λb p ez z V aS ho e=>?_).trans (h.frame c hc ad);by_cases q:b<n;{have F:μ b≠.no:=λZ=>by{rw[h.old b q Z] at e;cases e};rcases h.le b F with J|J;{exact ad b p ez z V q (h.own b q ho) (by rw[<-J];exact e)};{rw[J] at e;cases e}};{rcases h.new b c p ez z Om e with a0|⟨b0,O,E,U,h1,h2,h3,h4⟩<;>grind}};os:=k.os.trans h.os;tape:=k.tape.trans h.tape;output:=k.output.trans h.output;drawn:=eC h.drawn k.drawn
def Post.lower{q n1:Nat}{E:Mu}{g1:Gt}{J:World}(hl:lo<=q)(h:Post q μ g n w E g1 n1 J):Post lo μ g n w E g1 n1 J where le:=h.le;hn:=h.hn;old:=h.old;low:=λb a c=>h.low b Om c;own:=h.own;new:=λb c p ez z O e=>by{rcases h.new b c p ez z O e with I|⟨b0,p0,K,z0,V,Y,Z,h4⟩<;>grind};full:=h.full;size:=h.size;frame:=λc I F=>h.frame c I λb p ez z U=>F b p ez z Om;os:=h.os;tape:=h.tape;output:=h.output;drawn:=h.drawn
def Post.same{w':World}(h:Rel P g0 μ g n w)(e:w'.heap=w.heap)(q:w'.os=w.os)(E:w'.tape=w.tape)(F:w'.output=w.output)(I:w.drawn<=w'.drawn:=by first|exact an _|exact sT _|assumption|(simp;done)|omega):Post lo μ g n w μ g n w' where le:=μ.le_refl;hn:=an _;old:=λ_ _ h=>h;low:=λ_ _ _=>⟨rfl,rfl⟩;own:=λ_ _ h=>h;new:=λb c p ez z O e=>absurd (h.lt b (by grind)) Om;full:=λb J K=>Om;size:=by{rw[e];exact an _};frame:=λ_ _ _=>by{rw[e]};os:=q;tape:=E;output:=F;drawn:=I
def Mu.upd(μ:Mu)(b:Nat)(l:Loc):Mu:=λx=>if x=b then l else μ x
theorem aM(μ:Mu)(b:Nat)(l:Loc):μ.upd b l b=l:=by simp[Mu.upd]
theorem aN(μ:Mu){b x:Nat}(l:Loc)(h:x≠b):μ.upd b l x=μ x:=by simp[Mu.upd,h]
def Mu.le_upd(μ:Mu){b:Nat}(l:Loc)(h:μ b=.no):μ.le (μ.upd b l):=λx hx=>by left;refine aN _ _ λe=>hx (by rw[e];exact h)
def Mu.le_kill(μ:Mu)(b:Nat):μ.le (μ.upd b .dead):=λx hx=>by grind[aM,aN]
def Rel.fresh(h:Rel P g0 μ g n w):μ n=.no:=by cases e:μ n with|no=>rfl|dead=>exact absurd (h.lt n (by grind)) Om|«at» c p ez z=>exact absurd (h.lt n (by grind)) Om
theorem aak(h:Array Obj)(ob:Obj):(h.push ob)[h.size]? =some ob:=by simp
def Nc(h:Array Obj)(ob:Obj){c:Nat}(q:c<h.size):(h.push ob)[c]? =h[c]?:=by grind
def Rel.alloc{H:Heap}(h:Rel P g0 μ H.get H.n w){w':World}{ob:Obj}{o:IObj}{ez z:Nat}(hw:w'.heap=w.heap.push ob)(Z:ObjR P (μ.upd H.n (.at w.heap.size 0 ez z)) o 0 ez z (some ob))(e1:w'.os=w.os)(e2:w'.tape=w.tape)(e3:w'.output=w.output)(e4:w.drawn<=w'.drawn:=by first|exact an _|exact sT _|assumption|(simp;done)|omega):Rel P g0 (μ.upd H.n (.at w.heap.size 0 ez z)) (H.new o).get (H.new o).n w'/\ Post lo μ H.get H.n w (μ.upd H.n (.at w.heap.size 0 ez z)) (H.new o).get (H.new o).n w':=by have K:=h.fresh;have J:=μ.le_upd (.at w.heap.size 0 ez z) K;have old:∀b,b≠H.n->(H.new o).get b=H.get b:=λb q=>by{rw[ak,if_neg (Ne.symm q)]};have ad:(H.new o).get H.n=some o:=by{rw[ak,if_pos rfl]};refine⟨⟨λb q=>?_,?_,?_,λi Y=>?_,λb q=>?_⟩,⟨J,by rw[ac];omega,λb q e=>?_,λb _ q=>?_,λb q Z=>?_,λb c p ez z q e=>?_,λb h1 h2=>?_,?_,λc hc _=>?_,e1,e2,e3,e4⟩⟩;{rw[ac];by_cases e:b=H.n;{omega};{rw[aN _ _ e] at q;have:=h.lt b q;omega}};{intro b b' c p ez z p' F V q E O;by_cases e:b=H.n;{subst e;rw[aM] at q;by_cases I:b'=H.n;{exact I.symm};{rw[aN _ _ I] at E;have:=h.clt E;grind}};{rw[aN _ _ e] at q;by_cases I:b'=H.n;{subst I;rw[aM] at E;have:=h.clt q;grind};{rw[aN _ _ I] at E;refine h.inj b b' c p ez z p' F V q E ?_;obtain⟨x,hx,U⟩:=O;exact⟨x,by rw[<-old b e];exact hx,U⟩}}};{intro b c p F V q;by_cases e:b=H.n;{grind[aM,aak]};{rw[aN _ _ e] at q;obtain⟨x,hx,hr⟩:=h.obj b c p F V q;refine⟨x,by rw[old b e];exact hx,?_⟩;rw[hw,Nc _ _ (h.clt q)];exact hr.mono J}};{have hn:μ i≠.no:=by{rw[h.glob i Y];exactλx=>by cases x};rw[aN _ _ (Oh (h.lt i hn))];exact h.glob i Y};{by_cases e:b=H.n;{grind[aM]};{rw[aN _ _ e] at q;rw[old b e];exact h.ded b q}};{grind[aN]};{grind[aN]};{obtain⟨x,hx,U⟩:=Z;exact⟨x,by grind,U⟩};{by_cases eb:b=H.n;{grind[aM]};{rw[aN _ _ eb] at e;exact absurd (h.lt b (by grind)) Om}};{grind[ac,aM]};{grind};{rw[hw,Nc _ _ hc]}
def Rel.update{H:Heap}(h:Rel P g0 μ H.get H.n w){w':World}{b c p ez z:Nat}{o:IObj}(O:μ b=.at c p ez z)(a0:lo<=b)(I:bD H.get b)(a6:w'.heap.size=w.heap.size)(E:∀c',c'≠c->w'.heap[c']? =w.heap[c']?)(ho:ObjR P μ o p ez z w'.heap[c]?)(e1:w'.os=w.os)(e2:w'.tape=w.tape)(e3:w'.output=w.output)(e4:w.drawn<=w'.drawn:=by first|exact an _|exact sT _|assumption|(simp;done)|omega):Rel P g0 μ (H.put b o).get (H.put b o).n w'/\Post lo μ H.get H.n w μ (H.put b o).get (H.put b o).n w':=by have old:∀x,x≠b->(H.put b o).get x=H.get x:=λx hx=>by{rw[aa,if_neg (Ne.symm hx)]};have ad:(H.put b o).get b=some o:=by{rw[aa,if_pos rfl]};have aE:b<H.n:=h.lt b (by rw[O];exactλx=>by cases x);have F:∀x,bD (H.put b o).get x->bD H.get x:=λx hx=>by{by_cases e:x=b;{subst e;exact I};{obtain⟨y,Z,hz⟩:=hx;exact⟨y,by rw[<-old x e];exact Z,hz⟩}};refine⟨⟨h.lt,λx x' c1 J q K p2 U z2 hx Y V=>h.inj x x' c1 J q K p2 U z2 hx Y (F x V),λx c1 J q K hx=>?_,h.glob,λx hx=>by rw[old x (λe=>by subst e;rw[O] at hx;cases hx)];exact h.ded x hx⟩,⟨μ.le_refl,an _,λ_ _ e=>e,λx a7 _=>⟨rfl,old x Om⟩,λx _ hx=>F x hx,λx c1 J q K hx e=>absurd (h.lt x (by rw[e];exactλy=>by cases y)) Om,λx h1 h2=>by rw[af] at h2;omega,Om,λc1 aS a5=>E c1 λe=>?_,e1,e2,e3,e4⟩⟩;{by_cases e:x=b;{subst e;rw[O] at hx;injection hx with a1 a2 a3 a4;subst a1 a2 a3 a4;exact⟨o,ad,ho⟩};{obtain⟨y,Z,hr⟩:=h.obj x c1 J q K hx;refine⟨y,by rw[old x e];exact Z,?_⟩;rw[E c1 λec=>e ?_];{exact hr};{subst ec;exact(h.inj b x c1 p ez z J q K O hx I).symm}}};grind
def Rel.kill{H:Heap}(h:Rel P g0 μ H.get H.n w){b:Nat}(ad:lo<=b)(hg:g0<=b)(Z:μ b≠.no):Rel P g0 (μ.upd b .dead) (H.put b .dead).get (H.put b .dead).n w/\Post lo μ H.get H.n w (μ.upd b .dead) (H.put b .dead).get (H.put b .dead).n w:=by have old:∀x,x≠b->(H.put b .dead).get x=H.get x:=λx hx=>by{rw[aa,if_neg (Ne.symm hx)]};have J:(H.put b .dead).get b=some .dead:=by{rw[aa,if_pos rfl]};have O:b<H.n:=h.lt b Z;have I:=μ.le_kill b;have q:∀x c p ez z,μ.upd b .dead x=.at c p ez z->x≠b/\μ x=.at c p ez z:=λx c p ez z hx=>by{by_cases e:x=b;{subst e;rw[aM] at hx;cases hx};{rw[aN _ _ e] at hx;exact⟨e,hx⟩}};have E:∀x,bD (H.put b .dead).get x->bD H.get x:=λx hx=>by{by_cases e:x=b;{subst e;obtain⟨y,F,V⟩:=hx;rw[J] at F;injection F with F;subst F;cases V};{obtain⟨y,F,V⟩:=hx;exact⟨y,by rw[<-old x e];exact F,V⟩}};refine⟨⟨λx hx=>?_,λx x' c p ez z p' K z' hx U ho=>h.inj x x' c p ez z p' K z' (q _ _ _ _ _ hx).2 (q _ _ _ _ _ U).2 (E x ho),λx c p ez z hx=>?_,λi hi=>?_,λx hx=>?_⟩,⟨I,an _,λx hx e=>?_,λx aE hx=>⟨aN _ _ Om,old x Om⟩,λx _ hx=>E x hx,λx c p ez z hx e=>absurd (h.lt x (by rw[(q _ _ _ _ _ e).2];exactλy=>by cases y)) Om,λx h1 Y=>by rw[af] at Y;omega,an _,λ_ _ _=>rfl,rfl,rfl,rfl,an _⟩⟩;{by_cases e:x=b;{subst e;exact O};{rw[aN _ _ e] at hx;exact h.lt x hx}};{obtain⟨e,hx⟩:=q _ _ _ _ _ hx;obtain⟨y,F,hr⟩:=h.obj x c p ez z hx;exact⟨y,by rw[old x e];exact F,hr.mono I⟩};{rw[aN _ _ Om];exact h.glob i hi};{by_cases e:x=b;{subst e;exact J};{rw[aN _ _ e] at hx;rw[old x e];exact h.ded x hx}};grind[absurd,aN]
def Rel.regrow{H:Heap}(h:Rel P g0 μ H.get H.n w){w':World}{b c ez z:Nat}{o:IObj}(hb:μ b=.at c 0 ez z)(a5:lo<=b)(hg:g0<=b)(K:bD H.get b)(bo:w'.heap.size=w.heap.size)(U:∀c',c'≠c->w'.heap[c']? =w.heap[c']?)(ho:ObjR P ((μ.upd b .dead).upd H.n (.at c 0 ez z)) o 0 ez z w'.heap[c]?)(e1:w'.os=w.os)(e2:w'.tape=w.tape)(e3:w'.output=w.output)(e4:w.drawn<=w'.drawn:=by first|exact an _|exact sT _|assumption|(simp;done)|omega):Rel P g0 ((μ.upd b .dead).upd H.n (.at c 0 ez z)) ((H.put b .dead).new o).get ((H.put b .dead).new o).n w'/\ Post lo μ H.get H.n w ((μ.upd b .dead).upd H.n (.at c 0 ez z)) ((H.put b .dead).new o).get ((H.put b .dead).new o).n w':=by have a0:b<H.n:=h.lt b (by rw[hb];exactλx=>by cases x);have old:∀x,x≠b->x≠H.n->((H.put b .dead).new o).get x=H.get x:=λx hx J=>by{rw[ak,if_neg (by rw[af];exact Ne.symm J),aa,if_neg (Ne.symm hx)]};have a9:((H.put b .dead).new o).get H.n=some o:=by{rw[ak,af,if_pos rfl]};have aS:((H.put b .dead).new o).get b=some .dead:=by{rw[ak,af,iN,aa,if_pos rfl]};have mb:(μ.upd b .dead).upd H.n (.at c 0 ez z) b=.dead:=by{rw[aN _ _ Om,aM]};have mn:(μ.upd b .dead).upd H.n (.at c 0 ez z) H.n=.at c 0 ez z:=aM _ _ _;have Z:∀x,x≠b->x≠H.n->(μ.upd b .dead).upd H.n (.at c 0 ez z) x=μ x:=λx hx J=>by{rw[aN _ _ J,aN _ _ hx]};have aE:μ.le ((μ.upd b .dead).upd H.n (.at c 0 ez z)):=λx hx=>by{by_cases e:x=b;{subst e;exact .inr mb};{exact .inl (Z x e λF=>by subst F;exact hx h.fresh)}};have q:∀x c' p' O z',(μ.upd b .dead).upd H.n (.at c 0 ez z) x=.at c' p' O z'->(x=H.n/\c'=c/\p'=0/\O=ez/\z'=z)\/(x≠b/\x≠H.n/\μ x=.at c' p' O z'):=by{intro x c' p' O z' hx;by_cases e:x=H.n;{subst e;rw[mn] at hx;injection hx with E a2 a3 a4;exact .inl ⟨rfl,E.symm,a2.symm,a3.symm,a4.symm⟩};{by_cases F:x=b;{subst F;rw[mb] at hx;cases hx};{rw[Z x F e] at hx;exact .inr ⟨F,e,hx⟩}}};have V:∀x,x<H.n->bD ((H.put b .dead).new o).get x->bD H.get x:=λx hx Y=>by{obtain⟨y,hy,hz⟩:=Y;by_cases e:x=b;{subst e;exact K};{exact⟨y,by rw[<-old x e Om];exact hy,hz⟩}};refine⟨⟨λx hx=>?_,λx x' c1 p1 I z1 p2 ad z2 hx J a7=>?_,λx c1 p1 I z1 hx=>?_,λi hi=>?_,λx hx=>?_⟩,⟨aE,by rw[ac,af];omega,λx hx e=>?_,λx bt hx=>⟨Z x Om Om,old x Om Om⟩,λx hx Y=>V x hx Y,λx c1 p1 I z1 hx e=>?_,λx h1 h2=>?_,Om,λc1 ba bc=>U c1 λe=>?_,e1,e2,e3,e4⟩⟩;{rw[ac,af];by_cases e:x=H.n;{omega};{by_cases F:x=b;{omega};{rw[Z x F e] at hx;have:=h.lt x hx;omega}}};{rcases q _ _ _ _ _ hx with⟨a,E,-⟩|⟨a,a',E⟩;{rcases q _ _ _ _ _ J with⟨d,-⟩|⟨d,d',d1⟩;{rw[a,d]};{subst E;exact absurd (h.inj b x' c1 0 ez z p2 ad z2 hb d1 K).symm d}};{have a6:=h.lt x (by rw[E];exactλx=>by cases x);rcases q _ _ _ _ _ J with⟨d,d1,-⟩|⟨d,d',d1⟩;{subst d1;exact absurd (h.inj b x c1 0 ez z p1 I z1 hb E K).symm a};{exact h.inj x x' c1 p1 I z1 p2 ad z2 E d1 (V x a6 a7)}}};{rcases q _ _ _ _ _ hx with⟨a,E,a2,a3,a4⟩|⟨a,a',E⟩;{subst a E a2 a3 a4;exact⟨o,a9,ho⟩};{obtain⟨y,hy,hr⟩:=h.obj x c1 p1 I z1 E;refine⟨y,by rw[old x a a'];exact hy,?_⟩;rw[U c1 λec=>a ?_];{exact hr.mono aE};{subst ec;exact(h.inj b x c1 0 ez z p1 I z1 hb E K).symm}}};{have hn:μ i≠.no:=by{rw[h.glob i hi];exactλx=>by cases x};rw[Z i Om (Oh (h.lt i hn))];exact h.glob i hi};{by_cases e:x=b;{subst e;exact aS};{by_cases F:x=H.n;{subst F;rw[mn] at hx;cases hx};{rw[Z x e F] at hx;rw[old x e F];exact h.ded x hx}}};{by_cases F:x=b;{subst F;rw[hb] at e;cases e};{rw[Z x F Om];exact e}};{rcases q _ _ _ _ _ e with⟨a,E,-⟩|⟨a,a',E⟩;{subst E;exact .inr ⟨b,0,ez,z,a5,a0,K,hb⟩};{exact absurd (h.lt x (by rw[E];exactλy=>by cases y)) Om}};{have e:x=H.n:=by{rw[ac,af] at h2;omega};subst e;rw[mn];exactλx=>by cases x};grind
end
section
variable {P:Program}{g0 lo:Nat}{μ:Mu}{H:Heap}{w:World}
def Gives(P:Program)(g0 lo:Nat)(μ:Mu)(H:Heap)(w:World)(s:Sem Next)(v:IV)(H':Heap):Prop:=∃(nx:Next) (v':Value) (w':World) (q:Mu),s.run P w=.ok nx w'/\(nx=.value v'\/(nx=.skip/\v'=undef))/\ Rel P g0 q H'.get H'.n w'/\Post lo μ H.get H.n w q H'.get H'.n w'/\VR q v v'
def Gives.pure(h:Rel P g0 μ H.get H.n w){s:Sem Next}{v:IV}{v':Value}(q:s.run P w=.ok (.value v') w)(E:VR μ v v'):Gives P g0 lo μ H w s v H:=⟨_,v',w,μ,q,.inl rfl,h,Post.refl h,E⟩
def cI{x:IV}{l:List Value}(h:VRs μ [x] l):∃a,l=[a]/\VR μ x a:=by obtain⟨a,l1,rfl,q,E⟩:=h;cases E;exact⟨a,rfl,q⟩
def cS{x y:IV}{l:List Value}(h:VRs μ [x,y] l):∃a b,l=[a,b]/\VR μ x a/\VR μ y b:=by obtain⟨a,l1,rfl,q,E⟩:=h;obtain⟨b,rfl,F⟩:=cI E;exact⟨a,b,rfl,q,F⟩
def tD{x y z:IV}{l:List Value}(h:VRs μ [x,y,z] l):∃a b c,l=[a,b,c]/\VR μ x a/\VR μ y b/\VR μ z c:=by obtain⟨a,l1,rfl,E,q⟩:=h;obtain⟨b,c,rfl,F,I⟩:=cS q;grind
def mw{k:IntKind}{n:Int}{v:Value}(h:VR μ (.int k n) v):v=.int k n:=h
def qc{b:Bool}{v:Value}(h:VR μ (.bool b) v):v=.bool b:=h
def SL{s:List UInt8}{v:Value}(h:VR μ (.str s) v):v=.string ⟨⟨s⟩⟩:=h
def bJ{t:TypeId}{n:Nat}(h:bp P t=some n)(w:World):(sizeOf t).run P w=.ok n w:=by unfold bp at h;cases q:P.info? t<;>simp_all[sizeOf,typeInfo]
def EV{t:TypeId}{n:Nat}(h:bp P t=some n):∃i,P.info? t=some i/\i.size=n:=by unfold bp at h;cases q:P.info? t with|none=>rw[q] at h;cases h|some i=>rw[q] at h;injection h with h;exact⟨i,rfl,h⟩
def CD{t:TypeId}{n:Nat}(h:rz P t=some n):∃i,P.info? t=some i/\i.bytes=n:=by unfold rz at h;cases q:P.info? t with|none=>rw[q] at h;cases h|some i=>rw[q] at h;injection h with h;exact⟨i,rfl,h⟩
def Cx:∀(n:Nat)(v:Value)(x:IV),xq n v=some x->∀μ:Mu,VR μ x v:=by intro n;induction n with|zero=>intro v x h;cases h|succ n J=>intro v x h μ;unfold xq at h;split at h;{injection h with h;subst h;rfl};{injection h with h;subst h;rfl};{injection h with h;subst h;rfl};{injection h with h;subst h;rfl};{injection h with h;subst h;rfl};{injection h with h;subst h;rfl};{injection h with h;subst h;rfl};{injection h with h;subst h;rfl};{rename_i cs;cases hm:List.mapM (xq n) cs.toList with|none=>rw[hm] at h;cases h|some l=>rw[hm] at h;injection h with h;subst h;refine⟨cs,rfl,?_⟩;have key:∀(vs:List Value)(l:List IV),vs.mapM (xq n)=some l->VRs μ l vs:=by{intro vs;induction vs with|nil=>intro l q;simp at q;subst q;rfl|cons a vs I=>intro l q;simp only[xR] at q;cases E:xq n a with|none=>rw[E] at q;cases q|some x=>rw[E] at q;cases F:vs.mapM (xq n) with|none=>rw[F] at q;cases q|some xs=>rw[F] at q;injection q with q;subst q;exact⟨a,vs,rfl,J a x E μ,I xs F⟩};exact key _ _ hm};{cases h}
def mH{t:TypeId}{z:IV}(h:lG P t=some z):∃i q,P.info? t=some i/\i.zero=some q/\∀μ:Mu,VR μ z q:=by unfold lG at h;cases F:P.info? t with|none=>rw[F] at h;cases h|some i=>rw[F] at h;cases E:i.zero with|none=>simp[E] at h|some q=>simp[E] at h;exact⟨i,q,rfl,E,Cx 3 q z h⟩
def VR.cells_{x:IV}{v:Value}(h:VR μ x v):VRs μ x.cells v.cells.toList:=by cases x with|agg l=>obtain⟨F,rfl,E⟩:=h;exact E|ptr b o=>obtain⟨a,rfl,q⟩:=h;exact⟨_,_,rfl,⟨a,rfl,q⟩,rfl⟩|slice b o n lb ex=>obtain⟨a,c,rfl,q⟩:=h;exact⟨_,_,rfl,⟨a,c,rfl,q⟩,rfl⟩|map b=>obtain⟨a,rfl,q⟩:=h;exact⟨_,_,rfl,⟨a,rfl,q⟩,rfl⟩|fn f a b=>obtain⟨l,r,rfl,q⟩:=h;exact⟨_,_,rfl,⟨l,r,rfl,q⟩,rfl⟩|yield b=>obtain⟨a,rfl,q⟩:=h;exact⟨_,_,rfl,⟨a,rfl,q⟩,rfl⟩|iface t x=>obtain⟨a,rfl,q⟩:=h;exact⟨_,_,rfl,⟨a,rfl,q⟩,rfl⟩|tuple l=>obtain⟨F,rfl,E⟩:=h;exact⟨_,_,rfl,⟨F,rfl,E⟩,rfl⟩|bool b=>cases h;exact⟨_,_,Rr⟩|int k n=>cases h;exact⟨_,_,Rr⟩|str s=>cases h;exact⟨_,_,Rr⟩|nilPtr=>cases h;exact⟨_,_,Rr⟩|nilSlice=>cases h;exact⟨_,_,Rr⟩|nilMap=>cases h;exact⟨_,_,Rr⟩|nilFunc=>cases h;exact⟨_,_,Rr⟩|nilIface=>cases h;exact⟨_,_,Rr⟩
def VR.one_cell{x:IV}{v:Value}(h:VR μ x v)(E:x.one=true):v.oneCell'=true:=by cases x with|agg l=>cases E|tuple l=>cases E|ptr b o=>obtain⟨a,rfl,q⟩:=h;rfl|slice b o n lb ex=>obtain⟨a,c,rfl,q⟩:=h;rfl|map b=>obtain⟨a,rfl,q⟩:=h;rfl|fn f a b=>obtain⟨l,r,rfl,q⟩:=h;rfl|yield b=>obtain⟨a,rfl,q⟩:=h;rfl|iface t x=>obtain⟨a,rfl,q⟩:=h;rfl|_=>cases h;rfl
def VRs.one_cells:∀{l:List IV}{F:List Value},VRs μ l F->l.all IV.one=true->∀v∈F,v.oneCell'=true|[],_,h,_,v,q=>by cases h;cases q|x::xs,_,h,E,v,q=>by obtain⟨y,ys,rfl,I,J⟩:=h;simp only[nM,cQ] at E;cases q with|head=>exact I.one_cell E.1|tail _ q=>exact VRs.one_cells J E.2 v q
end
section
variable {P:Program}{g0 lo:Nat}{μ:Mu}{H:Heap}{w:World}{ρ:Operand->Value}{type:TypeId}{pos:String}{dst:Option Tmp}{after:Array Edge}{guard:Option (Nat×Bool)}{xs:List IV}{v:IV}{H':Heap}
def Wq(h:Rel P g0 μ H.get H.n w){x:Operand}(q:ev1 .move xs lo H=some (v,H'))(hx:VRs μ xs [ρ x]):Gives P g0 lo μ H w (execOp ρ ⟨dst,.move x,type,pos,after,guard⟩) v H'/\Gives P g0 lo μ H w (execOp ρ ⟨dst,.assign x,type,pos,after,guard⟩) v H':=by simp only[ev1] at q;split at q;{injection q with q;injection q with E F;subst E F;obtain⟨y,J,I⟩:=cI hx;simp_all[Gives.pure,execOp]};{cases q}
def ac3(h:Rel P g0 μ H.get H.n w){c a b:Operand}(q:ev1 .pick xs lo H=some (v,H'))(hx:VRs μ xs [ρ c,ρ a,ρ b]):Gives P g0 lo μ H w (execOp ρ ⟨dst,.pick c a b,type,pos,after,guard⟩) v H':=by simp only[ev1] at q;split at q;{rename_i c1 U b1;injection q with q;injection q with I J;subst I J;obtain⟨V,Y,Z,F,E,K,O⟩:=tD hx;simp only[lq,and_true] at F;obtain⟨rfl,rfl,rfl⟩:=F;cases c1;{exact Gives.pure h (v':=ρ b) (by simp[execOp,qc E,asBool]) (by simpa using O)};{exact Gives.pure h (v':=ρ a) (by simp[execOp,qc E,asBool]) (by simpa using K)}};{cases q}
def Qa(h:Rel P g0 μ H.get H.n w){x:Operand}(F:ev1 .nilCheck xs lo H=some (v,H'))(hx:VRs μ xs [ρ x]):Gives P g0 lo μ H w (execOp ρ ⟨dst,.nilCheck x,type,pos,after,guard⟩) v H':=by simp only[ev1] at F;split at F;{rename_i a;obtain⟨y,I,E⟩:=cI hx;injection I with I;subst I;cases a<;>simp only[reduceCtorEq] at F<;>(injection F with F;injection F with J K;subst J K);(case fn f l r=>obtain⟨O,U,e,q⟩:=E;exact Gives.pure h (v':=ρ x) (by simp[execOp,e]) ⟨O,U,e,q⟩);(case ptr b o=>obtain⟨a,e,q⟩:=E;exact Gives.pure h (v':=ρ x) (by simp[execOp,e]) ⟨a,e,q⟩);(case slice b o n lb ex=>obtain⟨a,c,e,q⟩:=E;exact Gives.pure h (v':=ρ x) (by simp[execOp,e]) ⟨a,c,e,q⟩);(case map b=>obtain⟨a,e,q⟩:=E;exact Gives.pure h (v':=ρ x) (by simp[execOp,e]) ⟨a,e,q⟩);(case iface t u=>obtain⟨a,e,q⟩:=E;exact Gives.pure h (v':=ρ x) (by simp[execOp,e]) ⟨a,e,q⟩);(case agg l=>obtain⟨a,e,q⟩:=E;exact Gives.pure h (v':=ρ x) (by simp[execOp,e]) ⟨a,e,q⟩);(case tuple l=>obtain⟨a,e,q⟩:=E;exact Gives.pure h (v':=ρ x) (by simp[execOp,e]) ⟨a,e,q⟩);all_goals have e:ρ x=_:=E;exact Gives.pure h (v':=ρ x) (by simp[execOp,e]) e};{cases F}
def YW{op:BinOp}{k F:IntKind}{a b:Int}{r:IV}(q:so op (.int k a) (.int F b)=some r)(t:TypeId):∃I:Value,(binOp op t (.int k a) (.int F b)).run P w=.ok I w/\∀μ:Mu,VR μ r I:=by cases op<;>simp only[so] at q;(case shl=>by_cases E:b<0;{grind};{rw[if_neg E] at q;injection q with q;subst q;exact⟨_,by simp[binOp,Op.shift,E],λ_=>rfl⟩});(case shr=>by_cases E:b<0;{grind};{rw[if_neg E] at q;injection q with q;subst q;exact⟨_,by simp[binOp,Op.shift,E],λ_=>rfl⟩});all_goals by_cases J:k=F;{subst J;simp only[if_true] at q;first|(injection q with q;subst q;exact⟨_,by simp[binOp,Op.intArith,Op.intBits,Op.intCmp]<;>rfl,λ_=>rfl⟩)|(by_cases E:b=0;{grind};{rw[if_neg E] at q;injection q with q;subst q;exact⟨_,by simp[binOp,Op.intDiv,E]<;>rfl,λ_=>rfl⟩})};{grind}
def OZ{s:ByteArray}{l:List UInt8}(h:s.data.toList=l):s=⟨⟨l⟩⟩:=by subst h;rfl
def Ta(l:List UInt8):(ByteArray.mk (Array.mk l)).toList=l:=by rw[ByteArray.toList_eq]
def YV{op:BinOp}{a b:List UInt8}{r:IV}(q:so op (.str a) (.str b)=some r)(t:TypeId):∃E:Value,(binOp op t (.string ⟨⟨a⟩⟩) (.string ⟨⟨b⟩⟩)).run P w=.ok E w/\∀μ:Mu,VR μ r E:=by cases op<;>simp only[so,reduceCtorEq] at q;(case add=>split at q;{rename_i O;injection q with q;subst q;refine⟨.string (⟨⟨a⟩⟩++⟨⟨b⟩⟩),?_,λ_=>?_⟩;{have K:¬((((ByteArray.mk ⟨a⟩).size+(ByteArray.mk ⟨b⟩).size:Nat):Int)>IntKind.i64.max):=by{have F:(ByteArray.mk ⟨a⟩).size=a.length:=rfl;have I:(ByteArray.mk ⟨b⟩).size=b.length:=rfl;have J:IntKind.i64.max=9223372036854775807:=rfl;rw[F,I,J];omega};simp_all[binOp,Op.stringOp,if_neg]};{show Value.string _=Value.string _;exact congrArg Value.string (OZ (by simp))}};{cases q});all_goals injection q with q;subst q;exact⟨_,by simp[binOp,Op.stringOp,Ta]<;>rfl,λ_=>rfl⟩
def mR{op:BinOp}{t:TypeId}{x y:Operand}{a b:Value}(q:∀cs,a≠.agg cs)(E:a≠.nilIface):(eqGuard op t x y a b).run P w=.ok () w:=by simp_all[eqGuard]
def Wy(h:Rel P g0 μ H.get H.n w){op:BinOp}{t Z:TypeId}{x y:Operand}(E:ev1 (.bin op) xs lo H=some (v,H'))(hx:VRs μ xs [ρ x,ρ y]):Gives P g0 lo μ H w (execOp ρ ⟨dst,.binOp op t x y Z,type,pos,after,guard⟩) v H':=by simp only[ev1] at E;split at E;{rename_i a b;obtain⟨y1,y2,U,K,O⟩:=cS hx;simp only[lq,and_true] at U;obtain⟨rfl,rfl⟩:=U;cases F:so op a b with|none=>rw[F] at E;cases E|some r=>rw[F] at E;injection E with E;injection E with V Y;subst V Y;cases a with|int k n=>(cases b with|int k' m=>obtain⟨J,q,I⟩:=YW (P:=P) (w:=w) F t;refine Gives.pure h (v':=J) ?_ (I μ);simp only[execOp,mw K,mw O];simp[mR,q]|_=>cases op<;>simp[so] at F)|str s=>(cases b with|str s'=>obtain⟨J,q,I⟩:=YV (P:=P) (w:=w) F t;refine Gives.pure h (v':=J) ?_ (I μ);simp only[execOp,SL K,SL O];simp[mR,q]|_=>cases op<;>simp[so] at F)|_=>cases op<;>simp[so] at F};{cases E}
def Wv(h:Rel P g0 μ H.get H.n w){op:BinOp}{neg:Bool}{t Z:TypeId}{x y:Operand}(Y:P.underlying t=some .bool)(I:op=.eql/\neg=false\/op=.neq/\neg=true)(E:ev1 (.eqBool neg) xs lo H=some (v,H'))(hx:VRs μ xs [ρ x,ρ y]):Gives P g0 lo μ H w (execOp ρ ⟨dst,.binOp op t x y Z,type,pos,after,guard⟩) v H':=by simp only[ev1] at E;split at E;{rename_i a b;injection E with E;injection E with U V;subst U V;obtain⟨y1,y2,O,J,K⟩:=cS hx;simp only[lq,and_true] at O;obtain⟨rfl,rfl⟩:=O;have F:∀d:Nat,(Op.equalIn (d+1) t (.bool a) (.bool b)).run P w=.ok (a==b) w:=λd=>by{simp[Op.equalIn,run_underlying Y]};have q:(Op.equal t (.bool a) (.bool b)).run P w=.ok (a==b) w:=F 9999;rcases I with⟨rfl,rfl⟩|⟨rfl,rfl⟩;{refine Gives.pure h (v':=.bool (a==b)) ?_ (by simp[VR]);simp only[execOp,qc J,qc K];simp[mR,binOp,q]};{refine Gives.pure h (v':=.bool (!(a==b))) ?_ (by simp[VR]);simp only[execOp,qc J,qc K];simp[mR,binOp,q]}};{cases E}
def ai8(h:Rel P g0 μ H.get H.n w){op:UnOp}{t:TypeId}{x:Operand}(q:ev1 (.un op) xs lo H=some (v,H'))(hx:VRs μ xs [ρ x]):Gives P g0 lo μ H w (execOp ρ ⟨dst,.unOp op t x,type,pos,after,guard⟩) v H':=by simp only[ev1] at q;split at q;{rename_i a;obtain⟨y,F,I⟩:=cI hx;injection F with F;subst F;cases E:unI op a with|none=>rw[E] at q;cases q|some r=>rw[E] at q;injection q with q;injection q with J K;subst J K;cases a with|int k n=>have e:=mw I;cases op<;>simp[unI] at E<;>subst E;{exact Gives.pure h (by simp[execOp,e,Op.unary,Op.intArith]<;>rfl) rfl};{exact Gives.pure h (by simp[execOp,e,Op.unary,Op.intBits]<;>rfl) rfl}|bool b=>have e:=qc I;cases op<;>simp[unI] at E;subst E;exact Gives.pure h (by simp[execOp,e,Op.unary]<;>rfl) rfl|_=>simp[unI] at E};{cases q}
def ac8(h:Rel P g0 μ H.get H.n w){k k0:IntKind}{s d:TypeId}{x:Operand}(hs:P.underlying s=some (.int k0))(hd:P.underlying d=some (.int k))(q:ev1 (.conv k) xs lo H=some (v,H'))(hx:VRs μ xs [ρ x]):Gives P g0 lo μ H w (execOp ρ ⟨dst,.convert s d x,type,pos,after,guard⟩) v H':=by simp only[ev1] at q;split at q;{rename_i K n;injection q with q;injection q with F I;subst F I;obtain⟨y,E,J⟩:=cI hx;injection E with E;subst E;exact Gives.pure h (by simp[execOp,mw J,convert,run_underlying hs,run_underlying hd,Conv.intToInt]<;>rfl) rfl};{cases q}
def ac5(h:Rel P g0 μ H.get H.n w){f:FuncId}{q cap:Array Operand}(E:ev1 (.mkfn f q.size) xs lo H=some (v,H'))(hx:VRs μ xs ((q++cap).toList.map ρ)):Gives P g0 lo μ H w (execOp ρ ⟨dst,.makeFunc (.func f) q cap,type,pos,after,guard⟩) v H':=by simp only[ev1] at E;injection E with E;injection E with F I;subst F I;refine Gives.pure h (v':=.func (.func f) (q.map ρ) (cap.map ρ)) (by simp[execOp,Instr.makeFunc]) ⟨_,_,rfl,?_,?_⟩;{have:=hx.take q.size;simp_all[List.take,List.map_take,List.take_append]};{have:=hx.drop q.size;simp_all[List.drop,List.drop_append]}
def Tz(h:Rel P g0 μ H.get H.n w){i:Nat}{x:Operand}(q:ev1 (.extract i) xs lo H=some (v,H'))(hx:VRs μ xs [ρ x]):Gives P g0 lo μ H w (execOp ρ ⟨dst,.extract x i,type,pos,after,guard⟩) v H':=by simp only[ev1] at q;split at q;{rename_i l;cases E:l[i]? with|none=>rw[E] at q;cases q|some r=>rw[E] at q;injection q with q;injection q with K O;subst K O;obtain⟨y,J,Y⟩:=cI hx;injection J with J;subst J;obtain⟨Z,e,U⟩:=Y;obtain⟨u,V,I⟩:=U.get E;have F:Z[i]? =some u:=by{simpa using V};exact Gives.pure h (v':=u) (by simp[execOp,e,Instr.extract,F]) I};{cases q}
end
section
variable {P:Program}{g0 lo:Nat}{μ:Mu}{H:Heap}{w:World}{ρ:Operand->Value}{type:TypeId}{pos:String}{dst:Option Tmp}{after:Array Edge}{guard:Option (Nat×Bool)}{xs:List IV}{v:IV}{H':Heap}
def BH{t:TypeId}{n:Option Nat}(h:yq P t=some n):(n=none/\(∀w:World,(isAgg t).run P w=.ok false w))\/(∃k,n=some k/\bp P t=some k/\(∀w:World,(isAgg t).run P w=.ok true w)):=by unfold yq at h;cases q:P.underlying t with|none=>simp[q] at h|some d=>cases hs:bp P t with|none=>cases d<;>simp[q,hs] at h|some k=>cases d<;>simp[q,hs] at h<;>subst h<;> first|exact .inl ⟨rfl,λw=>by simp[isAgg,run_underlying q]⟩|exact .inr ⟨k,rfl,rfl,λw=>by simp[isAgg,run_underlying q]⟩
def F2{t:TypeId}{n:Option Nat}(U:yq P t=some n){cs:List IV}{F:Array Value}(K:VRs μ cs F.toList){off:Nat}{r:IV}(I:off+n.getD 1<=cs.length)(E:ah n ((cs.drop off).take (n.getD 1))=some r):∃O:Value,(part t F off).run P w=.ok O w/\VR μ r O:=by rcases BH U with⟨rfl,q⟩|⟨k,rfl,hs,q⟩;{simp only[KS] at E I;have J:off<cs.length:=Om;have e:(cs.drop off).take 1=[cs[off]]:=by{rw[rR J];rfl};rw[e] at E;injection E with E;subst E;obtain⟨y,Y,V⟩:=K.get (i:=off) (x:=cs[off]) (bG J);simp_all[part]};{injection E with E;subst E;refine⟨.agg (F.extract off (off+k)),by simp[part,q,bJ hs],_,rfl,?_⟩;have:=(K.drop off).take k;simp_all[K5]}
def Ae{t:TypeId}{i:Nat}{f:Field}(h:qB P t i=some f):∃fs:Array Field,P.underlying t=some (.struct fs)/\fs[i]? =some f:=by grind[qB]
def aab(h:Rel P g0 μ H.get H.n w){t:TypeId}{x:Operand}{i:Nat}{f:Field}{n:Option Nat}(V:qB P t i=some f)(U:yq P f.type=some n)(q:ev1 (.field f.offset n) xs lo H=some (v,H'))(hx:VRs μ xs [ρ x]):Gives P g0 lo μ H w (execOp ρ ⟨dst,.field t x i,type,pos,after,guard⟩) v H':=by obtain⟨fs,hu,hi⟩:=Ae V;simp only[ev1] at q;split at q;{rename_i cs;split at q;{rename_i E;cases F:ah n ((cs.drop f.offset).take (n.getD 1)) with|none=>rw[F] at q;cases q|some r=>rw[F] at q;injection q with q;injection q with K O;subst K O;obtain⟨y,I,l',e,Y⟩:=cI hx;injection I with I;subst I;obtain⟨r',J,Z⟩:=F2 (P:=P) (w:=w) U Y E F;exact Gives.pure h (v':=r') (by simp_all[execOp,Instr.field,run_underlying,asAgg]) Z};{cases q}};{cases q}
theorem DD(c p n:Nat):(⟨c,p,none⟩:Addr).add n=⟨c,p+n,none⟩:=by grind[Addr.add]
def LocR.add{b o n:Nat}{a:Addr}(h:LocR μ b o a):LocR μ b (o+n) (a.add n):=by grind[LocR,DD,Nat.add_assoc]
def MP(h:Rel P g0 μ H.get H.n w){t:TypeId}{x:Operand}{i:Nat}{f:Field}{n:Nat}(J:qB P t i=some f)(hs:bp P f.type=some n)(hn:n≠0)(q:ev1 (.fieldAddr f.offset) xs lo H=some (v,H'))(hx:VRs μ xs [ρ x]):Gives P g0 lo μ H w (execOp ρ ⟨dst,.fieldAddr t x i,type,pos,after,guard⟩) v H':=by obtain⟨fs,U,O⟩:=Ae J;simp only[ev1] at q;split at q;{rename_i b o;injection q with q;injection q with F I;subst F I;obtain⟨y,E,a,e,K⟩:=cI hx;injection E with E;subst E;exact Gives.pure h (v':=.pointer (some (a.add f.offset))) (by simp_all[execOp,Instr.fieldAt,run_underlying,Instr.sureAddr,fieldPlace,bJ]) ⟨_,rfl,K.add⟩};{cases q}
def SlR.loc{b o cap:Nat}{ex:Bool}{a:Addr}(h:SlR μ b o ex cap a)(q:cap≠0):LocR μ b o a:=by grind[SlR,LocR]
def aaa(h:Rel P g0 μ H.get H.n w){t e:TypeId}{x i:Operand}{n:Nat}(Y:P.underlying t=some (.slice e))(hs:bp P e=some n)(q:ev1 (.idxSl n) xs lo H=some (v,H'))(hx:VRs μ xs [ρ x,ρ i]):Gives P g0 lo μ H w (execOp ρ ⟨dst,.indexAddr t x i,type,pos,after,guard⟩) v H':=by simp only[ev1] at q;split at q;{rename_i b o len lb ex k j;split at q;{rename_i U;injection q with q;injection q with F J;subst F J;obtain⟨Z,y2,I,⟨a,cap,F,O,V⟩,K⟩:=cS hx;simp only[lq,and_true] at I;obtain⟨rfl,rfl⟩:=I;have E:cap≠0:=by{obtain⟨c1,c2,_⟩:=O;omega};exact Gives.pure h (v':=.pointer (some (a.add (j.toNat*n)))) (by simp[execOp,Instr.indexAt,mw K,asIntOf,run_underlying Y,F,U,bJ hs]) ⟨_,rfl,(V.loc E).add⟩};{cases q}};{cases q}
def KB(h:Rel P g0 μ H.get H.n w){t e:TypeId}{x i:Operand}{len n:Nat}(U:P.underlying t=some (.array len e))(hs:bp P e=some n)(q:ev1 (.idxArrAddr len n) xs lo H=some (v,H'))(hx:VRs μ xs [ρ x,ρ i]):Gives P g0 lo μ H w (execOp ρ ⟨dst,.indexAddr t x i,type,pos,after,guard⟩) v H':=by simp only[ev1] at q;split at q;{rename_i b o k j;split at q;{rename_i K;injection q with q;injection q with E I;subst E I;obtain⟨V,Y,F,⟨a,E,O⟩,J⟩:=cS hx;simp only[lq,and_true] at F;obtain⟨rfl,rfl⟩:=F;exact Gives.pure h (v':=.pointer (some (a.add (j.toNat*n)))) (by simp[execOp,Instr.indexAt,mw J,asIntOf,run_underlying U,E,Instr.sureAddr,K,bJ hs]) ⟨_,rfl,O.add⟩};{cases q}};{cases q}
def Wu(h:Rel P g0 μ H.get H.n w){t e:TypeId}{x i:Operand}{len k:Nat}{n:Option Nat}(hu:P.underlying t=some (.array len e))(hs:bp P e=some k)(Z:yq P e=some n)(q:ev1 (.idxArr len k n) xs lo H=some (v,H'))(hx:VRs μ xs [ρ x,ρ i]):Gives P g0 lo μ H w (execOp ρ ⟨dst,.index t x i,type,pos,after,guard⟩) v H':=by simp only[ev1] at q;split at q;{rename_i cs kd j;split at q;{rename_i hj;obtain⟨J,K,E⟩:=hj;cases O:ah n ((cs.drop (j.toNat*k)).take (n.getD 1)) with|none=>rw[O] at q;cases q|some r=>rw[O] at q;injection q with q;injection q with I V;subst I V;obtain⟨y1,y2,U,⟨l',I,hl⟩,Y⟩:=cS hx;simp only[lq,and_true] at U;obtain⟨rfl,rfl⟩:=U;obtain⟨r',F,hv⟩:=F2 (P:=P) (w:=w) Z hl E O;exact Gives.pure h (v':=r') (by simp[execOp,Instr.index,mw Y,asIntOf,run_underlying hu,I,J,K,bJ hs,F]) hv};{cases q}};{cases q}
def Z9(h:Rel P g0 μ H.get H.n w){t e:TypeId}{args:Array Operand}{ts:Array TypeId}(J:ts=#[t])(K:P.underlying t=some (.slice e))(E:ev1 .lenSl xs lo H=some (v,H'))(hx:VRs μ xs (args.toList.map ρ)):Gives P g0 lo μ H w (execOp ρ ⟨dst,.call ⟨.builtin .len,args,ts⟩,type,pos,after,guard⟩) v H':=by simp only[ev1] at E;split at E;{rename_i x;obtain⟨y,U,O⟩:=cI hx;have q:args.map ρ=#[y]:=by{grind};subst J;cases x with|nilSlice=>injection E with E;injection E with F I;subst F I;cases O;exact Gives.pure h (v':=.int .i64 0) (by simp[execOp,resolve,invoke,builtin,q,Builtin.len_,run_underlying K,goInt]) rfl|slice b o n lb ex=>injection E with E;injection E with F I;subst F I;obtain⟨a,c,rfl,_⟩:=O;exact Gives.pure h (v':=.int .i64 n) (by simp[execOp,resolve,invoke,builtin,q,Builtin.len_,run_underlying K,goInt]) rfl|_=>simp at E};{cases E}
def agz(h:Rel P g0 μ H.get H.n w){t e:TypeId}{args:Array Operand}{ts:Array TypeId}(J:ts=#[t])(K:P.underlying t=some (.slice e))(E:ev1 .cap xs lo H=some (v,H'))(hx:VRs μ xs (args.toList.map ρ)):Gives P g0 lo μ H w (execOp ρ ⟨dst,.call ⟨.builtin .cap,args,ts⟩,type,pos,after,guard⟩) v H':=by simp only[ev1] at E;split at E;{rename_i x;obtain⟨y,V,O⟩:=cI hx;have q:args.map ρ=#[y]:=by{grind};subst J;cases x with|nilSlice=>injection E with E;injection E with F I;subst F I;cases O;exact Gives.pure h (v':=.int .i64 0) (by simp[execOp,resolve,invoke,builtin,q,Builtin.cap_,run_underlying K,goInt]) rfl|slice b o n lb ex=>(cases ex with|false=>simp at E|true=>injection E with E;injection E with F I;subst F I;obtain⟨a,c,rfl,U,_⟩:=O;have:c=lb:=U.2.2.2 rfl;subst this;exact Gives.pure h (v':=.int .i64 c) (by simp[execOp,resolve,invoke,builtin,q,Builtin.cap_,run_underlying K,goInt]) rfl)|_=>simp at E};{cases E}
def agx(h:Rel P g0 μ H.get H.n w){args:Array Operand}{ts:Array TypeId}(q:ev1 .min xs lo H=some (v,H'))(hx:VRs μ xs (args.toList.map ρ)):Gives P g0 lo μ H w (execOp ρ ⟨dst,.call ⟨.builtin .min,args,ts⟩,type,pos,after,guard⟩) v H':=by simp only[ev1] at q;split at q;{rename_i k a O b;split at q;{injection q with q;injection q with F I;subst F I;obtain⟨V,Y,U,J,K⟩:=cS hx;cases J;cases K;have E:args.map ρ=#[.int k a,.int O b]:=by{grind};exact Gives.pure h (v':=.int k (if b<a then b else a)) (by simp[execOp,resolve,invoke,builtin,E,Builtin.min_,Builtin.min2]) rfl};{cases q}};{cases q}
def agy(h:Rel P g0 μ H.get H.n w){args:Array Operand}{ts:Array TypeId}(q:ev1 .max xs lo H=some (v,H'))(hx:VRs μ xs (args.toList.map ρ)):Gives P g0 lo μ H w (execOp ρ ⟨dst,.call ⟨.builtin .max,args,ts⟩,type,pos,after,guard⟩) v H':=by simp only[ev1] at q;split at q;{rename_i k a O b;split at q;{injection q with q;injection q with F I;subst F I;obtain⟨V,Y,U,J,K⟩:=cS hx;cases J;cases K;have E:args.map ρ=#[.int k a,.int O b]:=by{grind};exact Gives.pure h (v':=.int k (if b>a then b else a)) (by simp[execOp,resolve,invoke,builtin,E,Builtin.max_,Builtin.max2]) rfl};{cases q}};{cases q}
def fK{y i:Nat}{x:IV}{u:Value}(h:cM y x=some i)(E:VR μ x u)(c:BoundsCode)(q:Nat)(I:y<=q)(w:World):(Instr.sliceBound u q c).run P w=.ok i w/\i<=y:=by cases x with|int k n=>cases E;simp only[cM] at h;split at h;{rename_i hn;injection h with h;subst h;have F:0<=n/\n<=(q:Int):=Om;simp_all[Instr.sliceBound,asIntOf]};{cases h}|_=>simp[cM] at h
def Hr{isSl:Bool}{len J cap:Nat}{l:List IV}{a b:Nat}{m:Option Nat}{Z hi mx:Option Operand}(E:bE len J Z.isSome hi.isSome mx.isSome l=some (a,b,m))(ad:len<=J)(hc:J<=cap)(hv:VRs μ l ((Z.toArray++hi.toArray++mx.toArray).toList.map ρ))(w:World):(Instr.sliceBounds isSl len cap (Z.map ρ) (hi.map ρ) (mx.map ρ)).run P w=.ok (a,b,m.getD cap) w/\a<=b/\b<=m.getD J/\(∀k,m=some k->k<=J):=by cases Z with|none=>(cases hi with|none=>(cases mx with|none=>(match l,E with|[],E=>injection E with E;simp only[nL] at E;obtain⟨rfl,rfl,rfl⟩:=E;exact⟨by simp[Instr.sliceBounds],Om,by simpa using ad,λ_ h=>by cases h⟩)|some z=>simp[bE] at E)|some y=>cases mx with|none=>(match l,E with|[x1],E=>obtain⟨u,O,I⟩:=cI hv;simp at O;subst O;simp only[bE,Bb,FL] at E;cases F:cM J x1 with|none=>rw[F] at E;cases E|some i=>rw[F] at E;injection E with E;simp only[nL] at E;obtain⟨rfl,rfl,rfl⟩:=E;have Y:=fK (P:=P) F I;exact⟨by simp_all[Instr.sliceBounds],Om,by simpa using (Y .index cap hc w).2,λ_ h=>by cases h⟩)|some z=>match l,E with|[x1,x2],E=>obtain⟨u,u2,O,I,K⟩:=cS hv;simp at O;obtain⟨rfl,rfl⟩:=O;simp only[bE,Bb,FL] at E;cases U:cM J x2 with|none=>rw[U] at E;cases E|some j=>rw[U] at E;simp only[bQ] at E;cases F:cM j x1 with|none=>rw[F] at E;cases E|some i=>rw[F] at E;injection E with E;simp only[nL] at E;obtain⟨rfl,rfl,rfl⟩:=E;have Y:=fK (P:=P) F I;have V:=fK (P:=P) U K;exact⟨by simp_all[Instr.sliceBounds,an],Om,by simpa using (Y .index j (an _) w).2,λk h=>by injection h with h;subst h;exact(V .index cap hc w).2⟩)|some q=>cases hi with|none=>(cases mx with|none=>(match l,E with|[x1],E=>obtain⟨u,O,I⟩:=cI hv;simp at O;subst O;simp only[bE,Bb,FL] at E;cases F:cM len x1 with|none=>rw[F] at E;cases E|some i=>rw[F] at E;injection E with E;simp only[nL] at E;obtain⟨rfl,rfl,rfl⟩:=E;have Y:=fK (P:=P) F I;exact⟨by simp_all[Instr.sliceBounds,an],by simpa using (Y .index len (an _) w).2,by simpa using ad,λ_ h=>by cases h⟩)|some z=>simp[bE] at E)|some y=>cases mx with|none=>(match l,E with|[x1,x2],E=>obtain⟨u,u2,O,I,K⟩:=cS hv;simp at O;obtain⟨rfl,rfl⟩:=O;simp only[bE,Bb,FL] at E;cases U:cM J x2 with|none=>rw[U] at E;cases E|some j=>rw[U] at E;simp only[bQ] at E;cases F:cM j x1 with|none=>rw[F] at E;cases E|some i=>rw[F] at E;injection E with E;simp only[nL] at E;obtain⟨rfl,rfl,rfl⟩:=E;have Y:=fK (P:=P) F I;have V:=fK (P:=P) U K;exact⟨by simp_all[Instr.sliceBounds,an],(Y .index j (an _) w).2,by simpa using (V .index cap hc w).2,λ_ h=>by cases h⟩)|some z=>match l,E with|[x1,x2,x3],E=>obtain⟨u,u2,u3,O,I,K,aE⟩:=tD hv;simp at O;obtain⟨rfl,rfl,rfl⟩:=O;simp only[bE,Bb,FL] at E;cases h3:cM J x3 with|none=>rw[h3] at E;cases E|some k=>rw[h3] at E;simp only[bQ] at E;cases U:cM k x2 with|none=>rw[U] at E;cases E|some j=>rw[U] at E;simp only[bQ] at E;cases F:cM j x1 with|none=>rw[F] at E;cases E|some i=>rw[F] at E;injection E with E;simp only[nL] at E;obtain⟨rfl,rfl,rfl⟩:=E;have Y:=fK (P:=P) F I;have V:=fK (P:=P) U K;have aS:=fK (P:=P) h3 aE;exact⟨by simp_all[Instr.sliceBounds,an],(Y .index j (an _) w).2,by simpa using (V .index k (an _) w).2,λk' h=>by injection h with h;subst h;exact(aS .index cap hc w).2⟩
end
section
variable {P:Program}{g0 lo:Nat}{μ:Mu}{H:Heap}{w:World}{ρ:Operand->Value}{type:TypeId}{pos:String}{dst:Option Tmp}{after:Array Edge}{guard:Option (Nat×Bool)}{xs:List IV}{v:IV}{H':Heap}
def HM(t:TypeId)(x:Operand)(a b c:Option Operand):(Op.slice t x a b c).operands.toList.map ρ=ρ x::((a.toArray++b.toArray++c.toArray).toList.map ρ):=by simp[Op.operands]
def Uz(h:Rel P g0 μ H.get H.n w){b c p ez z size:Nat}(q:pX H b size=true)(I:μ b=.at c p ez z):ez=0\/ez=size:=by unfold pX at q;obtain⟨o,J,E⟩:=h.obj b c p ez z I;rw[J] at q;cases o with|cells K e F cs=>cases K;{simp at q;right;rw[E.2.1,q]};{left;exact E.1}|_=>simp at q
def agw(h:Rel P g0 μ H.get H.n w){t e:TypeId}{x:Operand}{a b c:Option Operand}{n:Nat}(hu:P.underlying t=some (.slice e))(hs:bp P e=some n)(E:ev1 (.slc n a.isSome b.isSome c.isSome) xs lo H=some (v,H'))(hx:VRs μ xs ((Op.slice t x a b c).operands.toList.map ρ)):Gives P g0 lo μ H w (execOp ρ ⟨dst,.slice t x a b c,type,pos,after,guard⟩) v H':=by rw[HM] at hx;simp only[ev1] at E;split at E;{rename_i s l;obtain⟨y,ys,hy,hv,hl⟩:=hx;simp only[lq] at hy;obtain⟨rfl,rfl⟩:=hy;cases s with|nilSlice=>(simp only at E;cases Z:bE 0 0 a.isSome b.isSome c.isSome l with|none=>rw[Z] at E;cases E|some r=>obtain⟨i,j,m⟩:=r;rw[Z] at E;simp only[bQ] at E;split at E;{rename_i a3;obtain⟨rfl,rfl⟩:=a3;injection E with E;injection E with Y U;subst Y U;obtain⟨J,_,_,hm⟩:=Hr (P:=P) (isSl:=true) Z (an _) (an 0) hl w;have a6:m.getD 0=0:=by{cases m with|none=>rfl|some k=>have:=hm k rfl;simp;omega};rw[a6] at J;have ba:ρ x=.slice none 0 0:=hv;exact Gives.pure h (v':=.slice none 0 0) (by simp[execOp,Instr.sliceAt,run_underlying hu,Instr.slice,ba,J,bJ hs]) rfl};{cases E})|slice bl o len lb ex=>simp only at E;split at E;{rename_i a2;cases Z:bE len lb a.isSome b.isSome c.isSome l with|none=>rw[Z] at E;cases E|some r=>obtain⟨i,j,m⟩:=r;rw[Z] at E;obtain⟨ad,cap,a4,⟨c1,c2,c3,c4⟩,I⟩:=hv;obtain⟨J,a3,K,hm⟩:=Hr (P:=P) (isSl:=true) Z c1 c2 hl w;have F:(execOp ρ ⟨dst,.slice t x a b c,type,pos,after,guard⟩).run P w=.ok (.value (.slice (some (if m.getD cap=i then ad else ad.add (i*n))) (j - i) (m.getD cap - i))) w:=by{simp only[execOp];simp[Instr.sliceAt,run_underlying hu,Instr.slice,a4,J,bJ hs];split<;>rfl};have O:∀ex':Bool,(ex'=false->ex=false/\m=none)->SlR μ bl (o+i*n) ex' (m.getD cap - i) (if m.getD cap=i then ad else ad.add (i*n)):=by{intro ex' a0;unfold SlR at I⊢;cases aE:μ bl with|no=>rw[aE] at I;exact I|dead=>trivial|«at» q p ez z=>rw[aE] at I;simp only at I⊢;refine⟨?_,λY U=>?_⟩;{by_cases a7:m.getD cap=i;{left;omega};{right;rw[if_neg a7];have bc:m.getD cap<=cap:=by{cases m with|none=>exact an _|some k=>have:=hm k rfl;simp;omega};have a5:i<=m.getD cap:=by{cases m with|none=>simp at K⊢;omega|some k=>simp at K⊢;omega};have aS:cap≠0:=Om;rw[I.1.resolve_left aS,DD,lj]}};{obtain⟨a1,a9⟩:=a0 Y;subst a1 a9;simp only[FB] at a2;rcases Uz h a2 aE with h0|h0;{exact absurd h0 U};{subst h0;have:=I.2 rfl U;simp only[KS] at K⊢;have a5:i<=cap:=Om;have:(cap - i)*ez+i*ez=cap*ez:=by{rw[<-xM];congr 1;omega};omega}}};cases m with|none=>simp only[fh] at E;injection E with E;injection E with Y U;subst Y U;have V:=O ex λe=>⟨e,rfl⟩;simp only[KS] at F V K;exact Gives.pure h F ⟨_,_,rfl,⟨Om,Om,Om,λe=>by have:=c4 e;omega⟩,V⟩|some k=>simp only[fh] at E;injection E with E;injection E with Y U;subst Y U;simp only[eK] at F O K;have:=hm k rfl;exact Gives.pure h F ⟨_,_,rfl,⟨Om,an _,Om,λ_=>rfl⟩,O true λe=>by cases e⟩};{cases E}|_=>simp at E};{cases E}
end
section
variable {P:Program}{g0 lo:Nat}{μ:Mu}{H:Heap}{w:World}{ρ:Operand->Value}{type:TypeId}{pos:String}{dst:Option Tmp}{after:Array Edge}{guard:Option (Nat×Bool)}{xs:List IV}{v:IV}{H':Heap}
theorem fu:∀(cs:List IV)(o:Nat)(vs:List IV),o+vs.length<=cs.length->aB cs o vs=cs.take o++vs++cs.drop (o+vs.length)|[],o,vs,h=>by have q:o=0:=by{rw[dA] at h;omega};have E:vs=[]:=by{rw[dA] at h;exact List.length_eq_zero_iff.1 Om};subst q E;rfl|c::cs,0,[],_=>by simp[aB]|c::cs,0,v::vs,h=>by simp only[aB];rw[fu cs 0 vs (by simp at h;omega)];simp|c::cs,o+1,vs,h=>by simp only[aB];rw[fu cs o vs (by simp at h;omega)];simp[Nat.add_right_comm]
theorem wZ(cs:List IV)(o:Nat)(vs:List IV)(h:o+vs.length<=cs.length):(aB cs o vs).length=cs.length:=by grind[fu]
def Oa(off:Nat):∀(vs:List Value)(k:Nat)(cells:Array Value),off+k+vs.length<=cells.size->((vs.zipIdx k).foldl (λcs x=>cs.setIfInBounds (off+x.2) x.1) cells).toList=cells.toList.take (off+k)++vs++cells.toList.drop (off+k+vs.length)|[],k,cells,_=>by simp|v::vs,k,cells,h=>by simp only[List.zipIdx_cons,Ce];rw[Oa off vs (k+1) _ (by simp at h⊢;omega)];have e:=list_seg_step cells.toList (off+k) v vs (by simp at h⊢;omega);simpa [Ci,lj] using e
def vx(place:Nat->Option (Nat×Nat)):∀(parts:List (Nat×Operand))(F:List (Nat×Nat))(xs cs r:List IV)(q:Array Value),parts.mapM (λp=>place p.1)=some F->VRs μ xs (parts.map λp=>ρ p.2)->VRs μ cs q.toList->dM F xs cs=some r->∃r':Array Value,Instr.fill place q (parts.map λp=>(p.1,ρ p.2))=some r'/\VRs μ r r'.toList:=by intro parts;induction parts with|nil=>(intro F xs cs r q I hx O J;simp at I;subst I;cases xs with|nil=>simp[dM] at J;subst J;exact⟨q,rfl,O⟩|cons=>simp[dM] at J)|cons p parts ih=>intro F xs cs r q I hx O J;simp only[xR] at I;cases hp:place p.1 with|none=>rw[hp] at I;cases I|some pl=>obtain⟨off,size⟩:=pl;rw[hp] at I;cases Z:parts.mapM (λp=>place p.1) with|none=>rw[Z] at I;cases I|some K=>rw[Z] at I;injection I with I;subst I;cases xs with|nil=>simp[dM] at J|cons x xs=>obtain⟨y,ys,hy,hv,ad⟩:=hx;simp only[aZ,lq] at hy;obtain⟨rfl,rfl⟩:=hy;simp only[dM] at J;split at J;{rename_i a0;have E:=hv.cells_;have hl:=E.length;have Y:x.cells.length=(ρ p.2).cells.size:=by{simpa using hl};have aE:cs.length=q.size:=by{simpa using O.length};have V:((ρ p.2).cells.size≠size||off+(ρ p.2).cells.size>q.size)=false:=by{have h1:(ρ p.2).cells.size=size:=Om;simp[h1];omega};have U:VRs μ (aB cs off x.cells) ((ρ p.2).cells.zipIdx.foldl (λcs x=>cs.setIfInBounds (off+x.2) x.1) q).toList:=by{rw[<-Array.foldl_toList,Array.toList_zipIdx,Oa off _ 0 q (by simp;omega),fu cs off x.cells Om];simp only[pI];rw[show off+(ρ p.2).cells.toList.length=off+x.cells.length by simp[Y]];exact((O.take off).append E).append (O.drop _)};obtain⟨r',aS,a1⟩:=ih K xs _ r _ Z ad U J;simp_all[aZ,Instr.fill,if_neg]};{cases J}
def NJ{α q:Type}(F:α->Sem q)(G:α->q)(w:World):∀l:List α,(∀f∈l,(F f).run P w=.ok (G f) w)->(l.mapM F).run P w=.ok (l.map G) w|[],_=>by simp|f::l,h=>by have E:=h f (by simp);have I:=NJ F G w l λg J=>h g (by simp[J]);simp[E,I]
def Qr{fs:Array Field}(hall:(fs.all fun f=>(bp P f.type).isSome)=true)(F:Field→Sem (Nat×Nat))(hF:∀f,F f=(do pure (f.offset,←sizeOf f.type)))(w:World):
  (fs.mapM F).run P w=.ok (fs.map fun f=>(f.offset,(bp P f.type).getD 0)) w:=by
 rw[Array.mapM_eq_mapM_toList]
 have hk:=NJ (P:=P) F (fun f=>(f.offset,(bp P f.type).getD 0)) w fs.toList (fun f hf=>by
  rw[Array.all_eq_true_iff_forall_mem] at hall;have h1:=hall f (by simpa using hf)
  cases hs:bp P f.type with
  | none=>rw[hs] at h1;cases h1
  | some n=>rw[hF];simp[bJ hs])
 simp[hk];apply xL;simp
def aad(h:Rel P g0 μ H.get H.n w){t:TypeId}{K:Array (Nat×Operand)}{kd:Kd}(q:d6 P (.build t K)=some kd)(F:ev1 kd xs lo H=some (v,H'))(hx:VRs μ xs ((Op.build t K).operands.toList.map ρ)):Gives P g0 lo μ H w (execOp ρ ⟨dst,.build t K,type,pos,after,guard⟩) v H':=by have aE:(Op.build t K).operands.toList.map ρ=K.toList.map λp=>ρ p.2:=by{simp[Op.operands]};rw[aE] at hx;simp only[d6] at q;cases hu:P.underlying t with|none=>rw[hu] at q;cases q|some d=>rw[hu] at q;cases d with|struct fs=>simp only at q;split at q;{rename_i ad;cases U:xX (λi=>(fs[i]?).bind λf=>(bp P f.type).map λn=>(f.offset,n)) K with|none=>rw[U] at q;cases q|some E=>rw[U] at q;cases Y:lG P t with|none=>simp[Y] at q|some z=>simp[Y] at q;subst q;simp only[ev1] at F;cases O:dM E xs z.cells with|none=>rw[O] at F;cases F|some cs=>rw[O] at F;injection F with F;injection F with e1 e2;subst e1 e2;obtain⟨i,zv,hi,Z,V⟩:=mH Y;obtain⟨r',J,hv⟩:=vx (ρ:=ρ) (μ:=μ) (λi=>(fs[i]?).bind λf=>(bp P f.type).map λn=>(f.offset,n)) K.toList E xs z.cells cs zv.cells U hx (V μ).cells_ O;have I:(λi:Nat=>(fs[i]?).bind λf=>(bp P f.type).map λn=>(f.offset,n))=λi:Nat=>Option.map (λf:Field=>(f.offset,(bp P f.type).getD 0)) fs[i]?:=by{funext i;cases a0:fs[i]? with|none=>rfl|some f=>have:(bp P f.type).isSome=true:=by{grind};cases hs:bp P f.type with|none=>rw[hs] at this;cases this|some n=>simp[hs]};rw[I] at J;refine Gives.pure h (v':=.agg r') ?_ ⟨r',rfl,hv⟩;have aS:=Qr ad (λf=>Prod.mk f.offset <$>sizeOf f.type) (λf=>by simp) w;simp only[execOp,Instr.build];simp[zeroValue,typeInfo,hi,Z,run_underlying hu,aS,J]};{cases q}|array k e=>(simp only at q;cases hs:bp P e with|none=>rw[hs] at q;cases q|some n=>rw[hs] at q;simp only[bQ] at q;cases U:xX (λi=>some (i*n,n)) K with|none=>rw[U] at q;cases q|some E=>rw[U] at q;cases Y:lG P t with|none=>simp[Y] at q|some z=>simp[Y] at q;subst q;simp only[ev1] at F;cases O:dM E xs z.cells with|none=>rw[O] at F;cases F|some cs=>rw[O] at F;injection F with F;injection F with e1 e2;subst e1 e2;obtain⟨i,zv,hi,Z,V⟩:=mH Y;obtain⟨r',J,hv⟩:=vx (ρ:=ρ) (μ:=μ) (λi=>some (i*n,n)) K.toList E xs z.cells cs zv.cells U hx (V μ).cells_ O;refine Gives.pure h (v':=.agg r') ?_ ⟨r',rfl,hv⟩;simp only[execOp,Instr.build];simp[zeroValue,typeInfo,hi,Z,run_underlying hu,bJ hs,J])|_=>simp at q
def aej{E:Bool}{e ez:Nat}{cs:List IV}{q:Array Value}(F:VRs μ cs q.toList)(J:E=false):ObjR P μ (.cells E e ez cs) 0 ez q.size (some (.cells q e (0,0))):=by subst J;have I:=F.length;refine⟨rfl,rfl,q,rfl,rfl,by simp at I;omega,?_⟩;grind
def wE(h:Rel P g0 μ H.get H.n w){e ez:Nat}{cs:List IV}{q:Array Value}(U:VRs μ cs q.toList){w':World}(V:w'.heap=w.heap.push (.cells q e (0,0)))(I:w'.os=w.os)(J:w'.tape=w.tape)(K:w'.output=w.output)(O:w.drawn<=w'.drawn:=by first|exact an _|exact sT _|assumption|(simp;done)|omega):∃E:Mu,μ.le E/\E H.n=.at w.heap.size 0 ez q.size/\Rel P g0 E (H.new (.cells false e ez cs)).get (H.new (.cells false e ez cs)).n w'/\ Post lo μ H.get H.n w E (H.new (.cells false e ez cs)).get (H.new (.cells false e ez cs)).n w':=by have F:=μ.le_upd (.at w.heap.size 0 ez q.size) h.fresh;obtain⟨a,b⟩:=h.alloc (lo:=lo) (o:=.cells false e ez cs) (ez:=ez) (z:=q.size) V (aej (VRs.mono F _ _ U) rfl) I J K O;grind[aM]
def R6{q:Mu}{c ez z n:Nat}(h:q n=.at c 0 ez z):VR q (.ptr n 0) (.pointer (some ⟨c,0,none⟩)):=⟨_,rfl,by unfold LocR;rw[h]⟩
def aae(h:Rel P g0 μ H.get H.n w){e n:Nat}{z:IV}(V:lG P e=some z)(q:ev1 (.alloc e n z.cells) xs lo H=some (v,H')):Gives P g0 lo μ H w (execOp ρ ⟨dst,.alloc e,type,pos,after,guard⟩) v H':=by simp only[ev1] at q;split at q;{injection q with q;injection q with I J;subst I J;obtain⟨i,Z,hi,Y,E⟩:=mH V;obtain⟨F,K,hn,U,O⟩:=wE (lo:=lo) (e:=e) (ez:=n) h (E μ).cells_ (w':={w with heap:=w.heap.push (.cells Z.cells e (0,0))}) rfl rfl rfl rfl;exact⟨_,_,_,F,by simp_all[execOp,Instr.alloc,zeroValue,typeInfo,newVar,newRow,newObj,Sem.run],.inl rfl,U,O,R6 hn⟩};{cases q}
end
end Go.Iso
