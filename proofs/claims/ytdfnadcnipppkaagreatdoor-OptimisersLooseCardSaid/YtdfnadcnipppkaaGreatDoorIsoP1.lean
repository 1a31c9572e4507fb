/-
  values, heaps, the evaluator of isolated heaps, and its first operations: each run of the evaluator stands for a run of the model.
-/
import Derived.Orders
import Derived.Laws.CopyRow
import Derived.Laws.AppendOwn
import Derived.Deep.AppendSrc
import Derived.Laws.MakeOwn
import Derived.ChangeKeysEq
import Derived.Laws.Strings
import Derived.Lib.SmallJoins
import Derived.Lib.Split
set_option linter.unusedSimpArgs false
set_option linter.unusedVariables false
set_option linter.defProp false
namespace Go.Iso
def B1{A B C D E F:Sort _}{a:A}{b:B}{c:C}{d:D}{e:E}{f:F}:a=a/\b=b/\c=c/\d=d/\e=e/\f=f:=⟨rfl,rfl,rfl,rfl,rfl,rfl⟩
abbrev an:=@Nat.le_refl
abbrev ao:=@And.intro
abbrev aN:=@List.getElem_mem.{0}
abbrev aV:=@List.length_append.{0}
abbrev bW:=@List.getD_eq_getElem?_getD.{0}
abbrev bQ:=@List.getElem?_eq_getElem.{0}
abbrev aQ:=@List.length_map.{0,0}
abbrev aH:=@List.map_cons.{0,0}
abbrev eR:=@List.take_succ_eq_append_getElem.{0}
abbrev cV:=@List.take_of_length_le.{0}
abbrev aW:=@List.length_set.{0}
abbrev aK:=@List.map_nil.{0,0}
abbrev bp:=@Bool.and_eq_true
abbrev bG:=@List.length_cons.{0}
abbrev bF:=@List.length_take.{0}
abbrev bH:=@Option.bind_some.{0,0}
abbrev bY:=@List.append_assoc.{0}
abbrev aX:=@Nat.mul_one
abbrev cC:=@Nat.lt_of_lt_of_le
abbrev cj:=@List.getElem_map.{0,0}
abbrev bu:=@Nat.zero_add
abbrev cG:=@List.length_drop.{0}
abbrev d0:=@List.mem_cons_of_mem.{0}
abbrev dO:=@Bool.false_eq_true
abbrev fU:=@Option.bind_eq_some_iff.{0,0}
abbrev dI:=@Int.toNat_natCast
abbrev fT:=@Option.map_eq_some_iff.{0,0}
abbrev dN:=@List.getElem?_map.{0,0}
abbrev dq:=@List.length_nil.{0}
abbrev fg:=@Array.length_toList.{0}
abbrev dz:=@Option.map_some.{0,0}
abbrev dH:=@List.map_append.{0,0}
abbrev dZ:=@Option.getD_some.{0}
abbrev i6:=@List.getElem_set_self.{0}
abbrev cP:=@Nat.le_trans
abbrev lN:=@List.drop_eq_getElem_cons.{0}
abbrev lM:=@List.mem_or_eq_of_mem_set.{0}
abbrev fD:=@Option.some.injEq.{0}
abbrev i5:=@List.getElem_set_ne.{0}
abbrev i4:=@List.mem_map_of_mem.{0,0}
abbrev dp:=@Nat.lt_or_ge
abbrev jr:=@List.flatten_append.{0}
abbrev fS:=@List.cons_append.{0}
abbrev kl:=@List.length_singleton.{0}
abbrev iF:=@List.ext_getElem.{0}
abbrev pX:=@List.take_append_of_le_length.{0}
abbrev dy:=@Nat.zero_le
abbrev lL:=@List.getElem?_eq_none.{0}
abbrev fR:=@List.append_nil.{0}
abbrev lK:=@List.take_append_drop.{0}
abbrev iE:=@List.cons.injEq.{0}
abbrev eJ:=@Nat.succ_mul
abbrev lJ:=@Nat.mul_le_mul_right
abbrev jO:=@List.flatten_cons.{0}
abbrev pW:=@List.getElem?_append_right.{0}
abbrev jq:=@List.nil_append.{0}
abbrev iD:=@Nat.le_of_lt
abbrev jp:=@Nat.add_assoc
abbrev uO:=@Array.toList_setIfInBounds.{0}
abbrev uN:=@Array.getElem?_eq_getElem.{0}
abbrev lI:=@Nat.min_eq_left
abbrev mG:=@Bool.or_eq_true
abbrev pV:=@List.length_reverse.{0}
abbrev kj:=@Prod.mk.injEq.{0,0}
abbrev uM:=@List.drop_of_length_le.{0}
abbrev nm:=@List.foldl_cons.{0,0}
abbrev sG:=@List.getElem_mapIdx.{0,0}
abbrev xY:=@Nat.add_sub_cancel_left
abbrev sF:=@List.mem_cons_self.{0}
abbrev uL:=@List.mem_of_mem_take.{0}
abbrev AM:=@List.getElem?_append_left.{0}
abbrev AL:=@List.getElem_append_right.{0}
abbrev uK:=@Array.toList_append.{0}
abbrev uJ:=@Option.bind_eq_bind.{0}
abbrev nl:=@List.all_cons.{0}
abbrev xX:=@Array.getElem?_toList.{0}
abbrev AK:=@List.getElem?_cons_zero.{0}
abbrev sD:=@List.filter_cons.{0}
abbrev xW:=@List.pairwise_append.{0}
abbrev OH:=@Array.getElem?_setIfInBounds_self_of_lt.{0}
abbrev pU:=@List.drop_drop.{0}
abbrev uI:=@List.nodup_append.{0}
abbrev uH:=@List.foldl_append.{0,0}
abbrev DA:=@List.pairwise_iff_getElem.{0}
abbrev xV:=@Nat.lt_or_gt_of_ne
abbrev Dz:=@List.getElem_append_left.{0}
abbrev xU:=@Bool.true_eq_false
abbrev Dy:=@List.pairwise_mergeSort.{0}
abbrev IP:=@Array.getD_eq_getD_getElem?.{0}
abbrev uG:=@List.mem_append.{0}
abbrev IN:=@List.sublist_flatten_of_mem.{0}
abbrev AJ:=@List.mergeSort_perm.{0}
abbrev pT:=@Nat.add_zero
abbrev pS:=@Bool.or_true
abbrev pR:=@List.map_set.{0,0}
abbrev sC:=@Bool.and_self
abbrev xT:=@List.all_eq_true.{0}
abbrev Dx:=@List.length_filter_le.{0}
abbrev Dw:=@List.mem_append_right.{0}
abbrev Dv:=@List.eq_nil_or_concat.{0}
abbrev wW:=@List.concat_eq_append.{0}
abbrev lO:=@Nat.le_succ
abbrev mT:=@Nat.sub_self
abbrev mS:=@List.set_set.{0}
abbrev ol:=@List.mem_cons.{0}
abbrev A4:=@List.getElem?_replicate.{0}
abbrev wV:=@List.getElem?_range
abbrev wU:=@List.getD_cons_zero.{0}
abbrev wT:=@List.getD_cons_succ.{0}
abbrev tg:=@List.take_length.{0}
abbrev qa:=@List.take_left.{0}
abbrev p9:=@List.take_zero.{0}
abbrev A3:=@List.getElem_replicate.{0}
abbrev wS:=@Option.isSome_none.{0}
abbrev wR:=@List.filter_append.{0}
abbrev wQ:=@List.mem_singleton.{0}
abbrev A2:=@List.length_replicate.{0}
abbrev A0:=@List.Perm.append_left.{0}
abbrev AZ:=@List.perm_append_comm.{0}
abbrev wP:=@List.ext_getElem?.{0}
abbrev wO:=@Bool.not_eq_true'
abbrev wN:=@List.length_range
abbrev wM:=@List.getElem_take.{0}
abbrev Ge:=@List.extract_eq_take_drop.{0}
abbrev oj:=@Nat.add_mul
abbrev Mg:=@List.set_eq_take_append_cons_drop.{0}
abbrev te:=@List.mapM_cons.{0,0,0}
abbrev td:=@List.take_take.{0}
abbrev tc:=@List.drop_zero.{0}
abbrev pZ:=@Nat.le_of_eq
abbrev wL:=@List.any_eq_true.{0}
abbrev wK:=@Bool.not_eq_true
abbrev Gd:=@List.eq_of_mem_replicate.{0}
abbrev Me:=@Array.getElem?_setIfInBounds_ne.{0}
abbrev Md:=@List.eraseIdx_eq_take_drop_succ.{0}
abbrev Gc:=@List.getElem?_cons_succ.{0}
abbrev s9:=@List.map_take.{0,0}
abbrev sZ:=@Bool.and_true
abbrev sY:=@Nat.lt_irrefl
abbrev AY:=@Option.isSome_some.{0}
abbrev wJ:=@Option.pure_def.{0}
abbrev wI:=@List.range_succ
abbrev AX:=@List.set_cons_succ.{0}
abbrev AW:=@List.size_toArray.{0}
abbrev AV:=@Nat.lt_trichotomy
abbrev sX:=@Nat.sub_zero
abbrev wH:=@List.mem_range
abbrev sW:=@Nat.zero_mul
abbrev Gb:=@Array.getElem?_modify.{0}
abbrev sV:=@List.map_map.{0,0,0}
abbrev F2:=@List.length_mergeSort.{0}
abbrev AU:=@List.drop_append.{0}
abbrev pY:=@Array.ext'.{0}
abbrev F1:=@List.mem_of_getElem?.{0}
abbrev AT:=@List.map_flatten.{0,0}
abbrev AS:=@List.getElem_inj.{0}
abbrev wG:=@Bool.false_or
abbrev Mb:=@Nat.lt_of_mul_lt_mul_right
abbrev wE:=@Bool.true_and
abbrev F0:=@List.replicate_succ.{0}
abbrev FZ:=@List.flatMap_append.{0,0}
abbrev FY:=@Array.getElem?_push.{0}
abbrev AR:=@List.nodup_cons.{0}
abbrev wD:=@Nat.add_comm
abbrev FX:=@List.pairwise_cons.{0}
abbrev FV:=@List.getElem?_take.{0}
abbrev FU:=@List.set_cons_zero.{0}
abbrev FT:=@List.length_mapIdx.{0,0}
abbrev FP:=@List.append_of_mem.{0}
abbrev AQ:=@Bool.and_false
abbrev AP:=@Bool.not_false
abbrev FO:=@Bool.eq_false_iff
abbrev FN:=@List.any_eq_false.{0}
abbrev AO:=@List.sum_cons.{0}
abbrev AN:=@List.map_drop.{0,0}
abbrev FM:=@Option.getD_none.{0}
abbrev FL:=@List.range'_succ
abbrev FK:=@Nat.le_max_right
abbrev FJ:=@Nat.lt_of_not_le
abbrev L9:=@Nat.le_of_ble_eq_true
abbrev L8:=@List.range_eq_range'
abbrev L7:=@Bool.or_eq_false_iff
abbrev FI:=@Nat.le_max_left
abbrev L6:=@List.mem_of_mem_drop.{0}
abbrev L4:=@List.getElem_reverse.{0}
abbrev LZ:=@List.mem_append_left.{0}
abbrev FH:=@Option.some.inj.{0}
abbrev FG:=@Bool.false_and
def Om{p:Prop}(h:p:=by omega):p:=h
def Oh{q p:Prop}(h:q)(k:q->p:=by intro;omega):p:=k h
def Rr{p:Prop}(h:p:=by repeat' first|rfl|constructor):p:=h
def iN{c:Prop}[Decidable c]{α:Type}{a b:α}(h:¬c:=by omega):(if c then a else b)=b:=if_neg h
def iP{c:Prop}[Decidable c]{α:Type}{a b:α}(h:c:=by omega):(if c then a else b)=a:=if_pos h
inductive IV where
 | bool (b:Bool)
 | int (k:IntKind) (n:Int)
 | str (s:List UInt8)
 | ptr (b o:Nat)
 | nilPtr
 | slice (b o len lb:Nat) (ex:Bool)
 | nilSlice
 | map (b:Nat)
 | nilMap
 | fn (f:FuncId) (first cap:List IV)
 | yield (l:Nat)
 | nilFunc
 | iface (t:TypeId) (v:IV)
 | nilIface
 | agg (cs:List IV)
 | tuple (cs:List IV)
 deriving Inhabited
def UN:IV:=.tuple []
inductive Loc where
 | no
 | dead
 | at (c p ez z:Nat)
abbrev Mu:=Nat->Loc
def LocR(μ:Mu)(b o:Nat)(a:Addr):Prop:=match μ b with|.at c p _ _=>a=⟨c,p+o,none⟩|.dead=>True|.no=>False
def SlR(μ:Mu)(b o:Nat)(ex:Bool)(cap:Nat)(a:Addr):Prop:=match μ b with|.at c p ez z=>(cap=0\/a=⟨c,p+o,none⟩)/\(ex=false->ez≠0->o+cap*ez<=z)|.dead=>True|.no=>False
def akl(n lb:Nat)(ex:Bool)(cap:Nat):Prop:=n<=lb/\lb<=cap/\cap<2^63/\(ex=true->cap=lb)
mutual
def VR(μ:Mu):IV->Value->Prop|.bool b,v=>v=.bool b|.int k n,v=>v=.int k n|.str l,v=>v=.string ⟨⟨l⟩⟩|.ptr b o,v=>∃a:Addr,v=.pointer (some a)/\LocR μ b o a|.nilPtr,v=>v=.pointer none|.slice b o n lb ex,v=>∃(a:Addr) (cap:Nat),v=.slice (some a) n cap/\akl n lb ex cap/\SlR μ b o ex cap a|.nilSlice,v=>v=.slice none 0 0|.map b,v=>∃r:Nat,v=.map (some r)/\LocR μ b 0 ⟨r,0,none⟩|.nilMap,v=>v=.map none|.fn f l r,v=>∃E F:Array Value,v=.func (.func f) E F/\VRs μ l E.toList/\VRs μ r F.toList|.yield b,v=>∃r:Nat,v=.func (.yield r) #[] #[]/\LocR μ b 0 ⟨r,0,none⟩|.nilFunc,v=>v=.nilFunc|.iface t x,v=>∃I:Value,v=.iface t I/\VR μ x I|.nilIface,v=>v=.nilIface|.agg l,v=>∃E:Array Value,v=.agg E/\VRs μ l E.toList|.tuple l,v=>∃E:Array Value,v=.tuple E/\VRs μ l E.toList
def VRs(μ:Mu):List IV->List Value->Prop|[],l=>l=[]|x::xs,l=>∃(y:Value) (ys:List Value),l=y::ys/\VR μ x y/\VRs μ xs ys
end
def Mu.le(μ E:Mu):Prop:=∀b,μ b≠.no->E b=μ b\/E b=.dead
def Mu.le_refl(μ:Mu):μ.le μ:=λ_ _=>.inl rfl
def Mu.le_trans{a b c:Mu}(h:a.le b)(k:b.le c):a.le c:=λx hx=>by rcases h x hx with e|e;{rw[<-e];exact k x (by rw[e];exact hx)};{rcases k x (by rw[e];exactλh=>by cases h) with E|E<;>grind}
def LocR.mono{μ E:Mu}{b o:Nat}{a:Addr}(hl:μ.le E)(h:LocR μ b o a):LocR E b o a:=by unfold LocR at *;have hn:μ b≠.no:=by{intro e;rw[e] at h;exact h};rcases hl b hn with e|e<;>grind
def SlR.mono{μ E:Mu}{b o cap:Nat}{ex:Bool}{a:Addr}(hl:μ.le E)(h:SlR μ b o ex cap a):SlR E b o ex cap a:=by unfold SlR at *;have hn:μ b≠.no:=by{intro e;rw[e] at h;exact h};rcases hl b hn with e|e<;>grind
mutual
def VR.mono{μ F:Mu}(hl:μ.le F):∀(x:IV)(v:Value),VR μ x v->VR F x v|.bool _,_,h=>h|.int _ _,_,h=>h|.str _,_,h=>h|.ptr _ _,_,h=>by obtain⟨a,e,k⟩:=h;exact⟨a,e,k.mono hl⟩|.nilPtr,_,h=>h|.slice _ _ _ _ _,_,h=>by obtain⟨a,c,e,k,l⟩:=h;exact⟨a,c,e,k,l.mono hl⟩|.nilSlice,_,h=>h|.map _,_,h=>by obtain⟨a,e,k⟩:=h;exact⟨a,e,k.mono hl⟩|.nilMap,_,h=>h|.fn _ l r,_,h=>by obtain⟨E,T,e,I,O⟩:=h;exact⟨E,T,e,VRs.mono hl l _ I,VRs.mono hl r _ O⟩|.yield _,_,h=>by obtain⟨a,e,k⟩:=h;exact⟨a,e,k.mono hl⟩|.nilFunc,_,h=>h|.iface _ x,_,h=>by obtain⟨U,e,k⟩:=h;exact⟨U,e,VR.mono hl x _ k⟩|.nilIface,_,h=>h|.agg l,_,h=>by obtain⟨E,e,k⟩:=h;exact⟨E,e,VRs.mono hl l _ k⟩|.tuple l,_,h=>by obtain⟨E,e,k⟩:=h;exact⟨E,e,VRs.mono hl l _ k⟩
def VRs.mono{μ E:Mu}(hl:μ.le E):∀(x:List IV)(v:List Value),VRs μ x v->VRs E x v|[],_,h=>h|x::xs,_,h=>by obtain⟨y,ys,e,k,ks⟩:=h;exact⟨y,ys,e,VR.mono hl x _ k,VRs.mono hl xs _ ks⟩
end
section
variable {μ:Mu}
def VRs.length:∀{l:List IV}{E:List Value},VRs μ l E->l.length=E.length|[],_,h=>by cases h;rfl|_::_,_,h=>by obtain⟨y,ys,rfl,_,k⟩:=h;simp[VRs.length k]
def VRs.get:∀{l:List IV}{E:List Value}{i:Nat}{x:IV},VRs μ l E->l[i]? =some x->∃y,E[i]? =some y/\VR μ x y|[],_,_,_,_,h=>by simp at h|a::F,_,0,x,h,e=>by obtain⟨y,ys,rfl,k,_⟩:=h;simp at e;subst e;exact⟨y,by simp,k⟩|a::F,_,i+1,x,h,e=>by obtain⟨y,ys,rfl,_,k⟩:=h;obtain⟨z,O,I⟩:=VRs.get k (i:=i) (by simpa using e);exact⟨z,by simpa using O,I⟩
def VRs.append:∀{l:List IV}{E:List Value}{r:List IV}{F:List Value},VRs μ l E->VRs μ r F->VRs μ (l++r) (E++F)|[],_,_,_,h,k=>by cases h;simpa using k|_::_,_,_,_,h,k=>by obtain⟨y,ys,rfl,a,b⟩:=h;exact⟨y,_,rfl,a,b.append k⟩
def VRs.take:∀{l:List IV}{E:List Value}(n:Nat),VRs μ l E->VRs μ (l.take n) (E.take n)|[],_,n,h=>by cases h;simp[VRs]|_::_,_,0,_=>by simp[VRs]|_::_,_,n+1,h=>by obtain⟨y,ys,rfl,a,b⟩:=h;exact⟨y,_,rfl,a,b.take n⟩
def VRs.drop:∀{l:List IV}{E:List Value}(n:Nat),VRs μ l E->VRs μ (l.drop n) (E.drop n)|[],_,n,h=>by cases h;simp[VRs]|_::_,_,0,h=>h|_::_,_,n+1,h=>by obtain⟨y,ys,rfl,a,b⟩:=h;exact b.drop n
def VRs.set:∀{l:List IV}{E:List Value}(i:Nat){x:IV}{y:Value},VRs μ l E->VR μ x y->VRs μ (l.set i x) (E.set i y)|[],_,_,_,_,h,_=>by cases h;simp[VRs]|_::_,_,0,_,y,h,k=>by obtain⟨z,ys,rfl,a,b⟩:=h;exact⟨y,ys,rfl,k,b⟩|_::_,_,i+1,_,_,h,k=>by obtain⟨z,ys,rfl,a,b⟩:=h;exact⟨z,_,rfl,a,b.set i k⟩
def Cy:∀{l:List IV}{E:List Value},l.length=E.length->(∀(i:Nat)(x:IV)(y:Value),l[i]? =some x->E[i]? =some y->VR μ x y)->VRs μ l E|[],[],_,_=>rfl|[],_::_,h,_=>by simp at h|_::_,[],h,_=>by simp at h|x::xs,y::ys,h,k=>⟨y,ys,rfl,k 0 x y rfl rfl,Cy (by simpa using h) λi a b F I=>k (i+1) a b (by simpa using F) (by simpa using I)⟩
end
inductive Tr(α:Type)where
 | leaf
 | node (v:Option α) (l r:Tr α)
def Tr.get{α:Type}:Tr α->Nat->Option α|.leaf,_=>none|.node v l r,i=>match i with|0=>v|j+1=>if j%2=0 then l.get (j / 2) else r.get (j / 2)
def Tr.setF{α:Type}:Nat->Tr α->Nat->α->Tr α|0,t,_,_=>t|f+1,t,i,x=>match t,i with|.leaf,0=>.node (some x) .leaf .leaf|.node _ l r,0=>.node (some x) l r|.leaf,j+1=>if j%2=0 then .node none (Tr.setF f .leaf (j / 2) x) .leaf else .node none .leaf (Tr.setF f .leaf (j / 2) x)|.node v l r,j+1=>if j%2=0 then .node v (Tr.setF f l (j / 2) x) r else .node v l (Tr.setF f r (j / 2) x)
def Tr.set{α:Type}(t:Tr α)(i:Nat)(x:α):Tr α:=Tr.setF (i+1) t i x
theorem qY{α:Type}(i:Nat):(Tr.leaf:Tr α).get i=none:=by unfold Tr.get;rfl
def KD{α:Type}:∀(f:Nat)(t:Tr α)(i j:Nat)(x:α),i<f->(Tr.setF f t i x).get j=if i=j then some x else t.get j:=by intro f;induction f with|zero=>intro t i j x h;omega|succ f I=>intro t i j x h;cases t with|leaf=>(cases i with|zero=>cases j<;>simp[Tr.setF,Tr.get]|succ i=>have hi:i / 2<f:=Om;by_cases E:i%2=0;{cases j with|zero=>simp[Tr.setF,E,Tr.get]|succ j=>by_cases F:j%2=0;{simp only[Tr.setF,E,if_true,Tr.get,F,I _ _ _ _ hi];grind};{simp only[Tr.setF,E,if_true,Tr.get,F,if_false];grind}};{cases j with|zero=>simp[Tr.setF,E,Tr.get]|succ j=>by_cases F:j%2=0;{simp only[Tr.setF,E,if_false,Tr.get,F,if_true];grind};{simp only[Tr.setF,E,if_false,Tr.get,F,I _ _ _ _ hi];grind}})|node v l r=>cases i with|zero=>cases j<;>simp[Tr.setF,Tr.get]|succ i=>have hi:i / 2<f:=Om;by_cases E:i%2=0;{cases j with|zero=>simp[Tr.setF,E,Tr.get]|succ j=>by_cases F:j%2=0;{simp only[Tr.setF,E,if_true,Tr.get,F,I _ _ _ _ hi];grind};{simp only[Tr.setF,E,if_true,Tr.get,F,if_false];grind}};{cases j with|zero=>simp[Tr.setF,E,Tr.get]|succ j=>by_cases F:j%2=0;{simp only[Tr.setF,E,if_false,Tr.get,F,if_true];grind};{simp only[Tr.setF,E,if_false,Tr.get,F,I _ _ _ _ hi];grind}}
def tN{α:Type}(t:Tr α)(i j:Nat)(x:α):(t.set i x).get j=if i=j then some x else t.get j:=KD _ _ _ _ _ (Nat.lt_succ_self i)
inductive IA where
 | tmp (t:Nat)
 | val (v:IV)
 | glob (g:Nat)
 deriving Inhabited
inductive Pk where
 | bool | int | str
 deriving DecidableEq,Inhabited
inductive Nk where
 | ptr | sl | map | fn
 deriving DecidableEq,Inhabited
inductive Kd where
 | move
 | pick
 | alloc (e ez:Nat) (zs:List IV)
 | box (e ez:Nat)
 | build (zs:List IV) (offs:List (Nat×Nat))
 | buildSl (e ez n:Nat) (zs:List IV) (offs:List (Nat×Nat))
 | load (n:Option Nat)
 | store (n:Nat)
 | nilCheck
 | bin (op:BinOp)
 | eqBool (neg:Bool)
 | eqFlat (neg:Bool) (ds:List Pk)
 | eqNil (neg:Bool) (k:Nk)
 | un (op:UnOp)
 | conv (k:IntKind)
 | mkfn (f:FuncId) (k:Nat)
 | mkmap
 | mksl (e ez bytes:Nat) (zs:List IV)
 | slc (size:Nat) (lo hi mx:Bool)
 | fieldAddr (off:Nat)
 | idxSl (size:Nat)
 | idxArrAddr (len size:Nat)
 | idxArr (len size:Nat) (n:Option Nat)
 | lookup (t:TypeId) (ky:Bool×List Pk) (zero:IV) (ok:Bool)
 | mapUpd (ky:Bool×List Pk)
 | mapEntry (t:TypeId) (ky:Bool×List Pk) (zero:IV)
 | entryStore
 | delete (ky:Bool×List Pk)
 | lenSl
 | lenMap
 | cap
 | append (e size bytes:Nat)
 | copy (size:Nat)
 | min
 | max
 | extract (i:Nat)
 | clear (zs:List IV)
 | rangeM
 | nextM
 | entryM
 | call
 deriving Inhabited
structure IOp where
 dst:Option Nat
 kd:Kd
 args:List IA
 guard:Option (Nat×Bool)
 amb:Bool
 idx:Nat
 mask:Nat
 deriving Inhabited
inductive Sg where
 | seq | free
 deriving DecidableEq,Inhabited
inductive IC where
 | skip
 | ops (l:List (Sg×List IOp))
 | seq (a b:IC)
 | cond (c:IA) (a b:IC)
 | block (id:Nat) (c:IC)
 | scope (c:IC)
 | loop (c:IC)
 | rfn (f:IA) (ps:List Nat) (asg body:IC)
 | exit (id:Nat)
 | ret
 deriving Inhabited
inductive Jmp where
 | exit (id:Nat)
 | ret
inductive IObj where
 | cells (ro:Bool) (e ez:Nat) (cs:List IV)
 | map (es:List (IV×IV×Nat)) (clock:Nat)
 | loop (st:LoopState) (pend:Option Jmp) (tm:List IV) (ps:List Nat) (asg body:IC) (df:Nat)
 | deferred
 | taken
 | iter (m:Option Nat) (since:Nat) (seen:List Nat) (last:Nat)
 | dead
structure Heap where
 n:Nat
 t:Tr IObj
def Heap.get(H:Heap)(b:Nat):Option IObj:=H.t.get b
def Heap.put(H:Heap)(b:Nat)(o:IObj):Heap:=⟨H.n,H.t.set b o⟩
def Heap.new(H:Heap)(o:IObj):Heap:=⟨H.n+1,H.t.set H.n o⟩
def aa(H:Heap)(b b':Nat)(o:IObj):(H.put b o).get b'=if b=b' then some o else H.get b':=tN _ _ _ _
def ak(H:Heap)(b':Nat)(o:IObj):(H.new o).get b'=if H.n=b' then some o else H.get b':=tN _ _ _ _
theorem ae(H:Heap)(b:Nat)(o:IObj):(H.put b o).n=H.n:=rfl
theorem af(H:Heap)(o:IObj):(H.new o).n=H.n+1:=rfl
def IV.cells:IV->List IV|.agg l=>l|v=>[v]
def az:List IV->Nat->List IV->List IV|[],_,_=>[]|c::cs,0,[]=>c::cs|_::cs,0,v::vs=>v::az cs 0 vs|c::cs,o+1,vs=>c::az cs o vs
def Heap.read(H:Heap)(b o n:Nat):Option (List IV):=match H.get b with|some (.cells _ _ _ cs)=>if o+n<=cs.length then some ((cs.drop o).take n) else none|_=>none
def IV.one:IV->Bool|.agg _|.tuple _=>false|_=>true
def Heap.write(H:Heap)(lo b o:Nat)(vs:List IV):Option Heap:=match H.get b with|some (.cells false e ez cs)=>if lo<=b/\o+vs.length<=cs.length/\vs.all IV.one then some (H.put b (.cells false e ez (az cs o vs))) else none|_=>none
def ah(n:Option Nat)(l:List IV):Option IV:=match n,l with|some _,l=>some (.agg l)|none,[v]=>some v|none,_=>none
def dK:List (Nat×Nat)->List IV->List IV->Option (List IV)|[],[],cs=>some cs|(off,size)::E,v::vs,cs=>if v.cells.length=size/\off+size<=cs.length then dK E vs (az cs off v.cells) else none|_,_,_=>none
def MY:Pk->IV->IV->Option Bool|.bool,.bool a,.bool b=>some (a==b)|.int,.int k a,.int E b=>if k=E then some (a==b) else none|.str,.str a,.str b=>some (a==b)|_,_,_=>none
def jo:List Pk->List IV->List IV->Option Bool|[],[],[]=>some true|d::ds,x::xs,y::ys=>(match MY d x y,jo ds xs ys with|some a,some b=>some (a&&b)|_,_=>none)|_,_,_=>none
def Ym:Pk->IV->Bool|.bool,.bool _=>true|.int,.int _ _=>true|.str,.str _=>true|_,_=>false
def vk:List Pk->List IV->Bool|[],[]=>true|d::ds,x::xs=>Ym d x&&vk ds xs|_,_=>false
def pw(op:BinOp):IV->IV->Option IV|.int k a,.int E b=>(match op with|.shl=>if b<0 then none else some (.int k (k.wrap (a*2^(Min.min b.toNat k.bits))))|.shr=>if b<0 then none else some (.int k (a.fdiv (2^(Min.min b.toNat k.bits))))|_=>if k=E then match op with|.add=>some (.int k (k.wrap (a+b)))|.sub=>some (.int k (k.wrap (a - b)))|.mul=>some (.int k (k.wrap (a*b)))|.quo=>if b=0 then none else some (.int k (k.wrap (a.tdiv b)))|.rem=>if b=0 then none else some (.int k (a.tmod b))|.and=>some (.int k (k.wrap (BitVec.ofInt k.bits a&&& BitVec.ofInt k.bits b).toNat))|.or=>some (.int k (k.wrap (BitVec.ofInt k.bits a||| BitVec.ofInt k.bits b).toNat))|.xor=>some (.int k (k.wrap (BitVec.ofInt k.bits a^^^BitVec.ofInt k.bits b).toNat))|.andNot=>some (.int k (k.wrap (BitVec.ofInt k.bits a&&& ~~~(BitVec.ofInt k.bits b)).toNat))|.eql=>some (.bool (a==b))|.neq=>some (.bool (a !=b))|.lss=>some (.bool (decide (a<b)))|.leq=>some (.bool (decide (a<=b)))|.gtr=>some (.bool (decide (a>b)))|.geq=>some (.bool (decide (a>=b)))|_=>none else none)|.str a,.str b=>(match op with|.add=>if a.length+b.length<2^40 then some (.str (a++b)) else none|.eql=>some (.bool (a==b))|.neq=>some (.bool !(a==b))|.lss=>some (.bool (Op.bytesLess a b))|.leq=>some (.bool (Op.bytesLess a b||a==b))|.gtr=>some (.bool !(Op.bytesLess a b||a==b))|.geq=>some (.bool !(Op.bytesLess a b))|_=>none)|_,_=>none
def unI(op:UnOp):IV->Option IV|.int k n=>(match op with|.neg=>some (.int k (k.wrap (0 - n)))|.xor=>some (.int k (k.wrap (BitVec.ofInt k.bits (if k.signed then -1 else k.max)^^^BitVec.ofInt k.bits n).toNat))|_=>none)|.bool b=>(match op with|.not=>some (.bool !b)|_=>none)|_=>none
def kQ:Nk->IV->Option Bool|.ptr,.nilPtr|.sl,.nilSlice|.map,.nilMap|.fn,.nilFunc=>some true|.ptr,.ptr _ _|.sl,.slice _ _ _ _ _|.map,.map _|.fn,.fn _ _ _=>some false|_,_=>none
def bS(y:Nat):IV->Option Nat|.int _ n=>if 0<=n/\n<=(y:Int) then some n.toNat else none|_=>none
def bj(len top:Nat)(lo hi mx:Bool)(l:List IV):Option (Nat×Nat×Option Nat):=match lo,hi,mx,l with|false,false,false,[]=>some (0,len,none)|true,false,false,[a]=>(bS len a).map λa=>(a,len,none)|false,true,false,[b]=>(bS top b).map λb=>(0,b,none)|true,true,false,[a,b]=>(bS top b).bind λb=>(bS b a).map λa=>(a,b,none)|false,true,true,[b,c]=>(bS top c).bind λc=>(bS c b).map λb=>(0,b,some c)|true,true,true,[a,b,c]=>(bS top c).bind λc=>(bS c b).bind λb=>(bS b a).map λa=>(a,b,some c)|_,_,_,_=>none
def bx(E:Bool):IV->Bool|.agg _=>E|_=>!E
def dt(ky:Bool×List Pk)(k:IV):Bool:=bx ky.1 k&&vk ky.2 k.cells
def d6(ky:Bool×List Pk)(k E:IV):Option Bool:=if bx ky.1 k&&bx ky.1 E then jo ky.2 k.cells E.cells else none
def aT(ky:Bool×List Pk)(k:IV):List (IV×IV×Nat)->Nat->Option (Option (Nat×IV))|[],_=>some none|(F,v,_)::E,i=>match d6 ky k F with|some true=>some (some (i,v))|some false=>aT ky k E (i+1)|none=>none
def iu(H:Heap)(size n:Nat):IV->Option (List IV)|.nilSlice=>if n=0 then some [] else none|.slice b o _ _ _=>if n=0 then some [] else H.read b o (n*size)|.str s=>if n<=s.length/\size=1 then some ((s.take n).map λc=>.int .u8 c.toNat) else none|_=>none
def mY:IV->Option Nat|.nilSlice=>some 0|.slice _ _ n _ _=>some n|.str s=>some s.length|_=>none
def ki:Nat->List IV->List IV|0,_=>[]|n+1,zs=>zs++ki n zs
def dm(e size bytes:Nat)(s:IV)(xs:List IV)(n lo:Nat)(H:Heap):Option (IV×Heap):=if xs.all IV.one=false then none else match s with|.nilSlice=>if n=0 then some (.nilSlice,H) else if n*(bytes+1)<=2^40 then some (.slice H.n 0 n n false,H.new (.cells false e size xs)) else none|.slice b o len lb ex=>if n=0 then some (.slice b o len lb ex,H) else if len+n<=lb then(H.write lo b (o+len*size) xs).map λH'=>(.slice b o (len+n) lb ex,H') else if (len+n)*(bytes+1)<=2^40 then if ex then(iu H size len s).map λold=>(.slice H.n 0 (len+n) (len+n) false,H.new (.cells false e size (old++xs))) else match H.get b with|some (.cells false E ez cs)=>if E=e/\ez=size/\0<size/\o=0/\lo<=b/\len*size<=cs.length then some (.slice H.n 0 (len+n) (len+n) false,(H.put b .dead).new (.cells false e size (cs.take (len*size)++xs))) else none|_=>none else none|_=>none
def eE{α:Type}:List α->Nat->List α|[],_=>[]|_::l,0=>l|x::l,i+1=>x::eE l i
def eQ(key val:IV):List (IV×IV×Nat)->Nat->List (IV×IV×Nat)|[],_=>[]|(_,_,s)::l,0=>(key,val,s)::l|x::l,i+1=>x::eQ key val l i
def eT(val:IV)(born:Int):List (IV×IV×Nat)->Option (List (IV×IV×Nat))|[]=>none|(k,v,s)::l=>if (s:Int)=born then some ((k,val,s)::l) else(eT val born l).map ((k,v,s)::·)
def aP(H:Heap)(b:Nat):Option (List (IV×IV×Nat)×Nat):=match H.get b with|some (.map E c)=>some (E,c)|_=>none
def stepM(H:Heap)(r:Nat):Option (IV×Option IObj):=match H.get r with|some (.iter none _ _ _)=>some (.tuple [.bool false],none)|some (.iter (some b) E seen I)=>(match aP H b with|none=>none|some (O,F)=>if seen≠[]/\O≠[]/\(O.all λe=>decide (I<=e.2.2))=true then none else match O.filter λe=>!seen.contains e.2.2 with|[]=>some (.tuple [.bool false],none)|[(k,v,s)]=>if s<E then some (.tuple [.bool true,k,v],some (.iter (some b) E (seen++[s]) F)) else none|_=>none)|_=>none
def BO(H:Heap)(r:Nat):Option IV:=match H.get r with|some (.iter (some b) _ seen F)=>(match seen.getLast? with|none=>none|some s=>match aP H b with|none=>none|some (I,E)=>if E=F then(I.find? λe=>e.2.2==s).map λe=>.tuple [e.1,e.2.1] else none)|_=>none
def oI(H:Heap)(b size:Nat):Bool:=match H.get b with|some (.cells E _ ez _)=>E||ez==size|_=>false
def oN:IV->Option Nat|.nilSlice=>some 0|.slice _ _ n _ _=>some n|_=>none
def ev1(kd:Kd)(xs:List IV)(lo:Nat)(H:Heap):Option (IV×Heap):=match kd with|.move=>(match xs with|[x]=>some (x,H)|_=>none)|.pick=>(match xs with|[.bool c,a,b]=>some (if c then a else b,H)|_=>none)|.alloc e ez zs=>(match xs with|[]=>some (.ptr H.n 0,H.new (.cells false e ez zs))|_=>none)|.box e ez=>(match xs with|[x]=>some (.ptr H.n 0,H.new (.cells false e ez x.cells))|_=>none)|.build zs O=>(match xs with|xs=>(dK O xs zs).map λcs=>(.agg cs,H))|.buildSl e ez n zs O=>(match xs with|xs=>(dK O xs zs).map λcs=>(.slice H.n 0 n n true,H.new (.cells false e ez cs)))|.load n=>(match xs with|[.ptr b o]=>(H.read b o (n.getD 1)).bind λcs=>(ah n cs).map λv=>(v,H)|_=>none)|.store n=>(match xs with|[.ptr b o,x]=>if x.cells.length=n then(H.write lo b o x.cells).map λH'=>(UN,H') else none|_=>none)|.nilCheck=>(match xs with|[x]=>(match x with|.nilPtr|.nilIface|.nilFunc|.yield _=>none|x=>some (x,H))|_=>none)|.bin op=>(match xs with|[x,y]=>(pw op x y).map (·,H)|_=>none)|.eqBool neg=>(match xs with|[.bool a,.bool b]=>some (.bool (neg !=(a==b)),H)|_=>none)|.eqFlat neg ds=>(match xs with|[.agg x,.agg y]=>(jo ds x y).map λr=>(.bool (neg !=r),H)|_=>none)|.eqNil neg Y=>(match xs with|[x,y]=>(match kQ Y x,kQ Y y with|some true,some r=>some (.bool (neg !=r),H)|some r,some true=>some (.bool (neg !=r),H)|_,_=>none)|_=>none)|.un op=>(match xs with|[x]=>(unI op x).map (·,H)|_=>none)|.conv k=>(match xs with|[.int _ n]=>some (.int k (k.wrap n),H)|_=>none)|.mkfn f k=>(match xs with|xs=>some (.fn f (xs.take k) (xs.drop k),H))|.mkmap=>(match xs with|[]=>some (.map H.n,H.new (.map [] 0))|[.int _ _]=>some (.map H.n,H.new (.map [] 0))|_=>none)|.rangeM=>(match xs with|[.nilMap]=>some (.ptr H.n 0,H.new (.iter none 0 [] 0))|[.map b]=>(aP H b).map λp=>(.ptr H.n 0,H.new (.iter (some b) p.2 [] p.2))|_=>none)|.entryM=>(match xs with|[.ptr r 0]=>(BO H r).map (·,H)|_=>none)|.nextM=>(match xs with|[.ptr r 0]=>if lo<=r then(stepM H r).map λp=>(p.1,match p.2 with|none=>H|some o=>H.put r o) else none|_=>none)|.mksl e ez bytes zs=>(match xs with|[.int _ l,.int _ c]=>if 0<=l/\l<=c/\c*(bytes+1)<=2^40 then some (.slice H.n 0 l.toNat c.toNat true,H.new (.cells false e ez (ki c.toNat zs))) else none|_=>none)|.slc size lo hi mx=>(match xs with|s::l=>(match s with|.nilSlice=>(bj 0 0 lo hi mx l).bind λ(a,b,_)=>if a=0/\b=0 then some (.nilSlice,H) else none|.slice b o len lb ex=>if ex||oI H b size then (bj len lb lo hi mx l).map λ(a,h,m)=>match m with|some m=>(.slice b (o+a*size) (h - a) (m - a) true,H)|none=>(.slice b (o+a*size) (h - a) (lb - a) ex,H) else none|_=>none)|_=>none)|.fieldAddr off=>(match xs with|[.ptr b o]=>some (.ptr b (o+off),H)|_=>none)|.idxSl size=>(match xs with|[.slice b o len _ _,.int _ i]=>if 0<=i/\i<(len:Int) then some (.ptr b (o+i.toNat*size),H) else none|_=>none)|.idxArrAddr len size=>(match xs with|[.ptr b o,.int _ i]=>if 0<=i/\i<(len:Int) then some (.ptr b (o+i.toNat*size),H) else none|_=>none)|.idxArr len size n=>(match xs with|[.agg cs,.int _ i]=>if 0<=i/\i<(len:Int)/\i.toNat*size+n.getD 1<=cs.length then(ah n ((cs.drop (i.toNat*size)).take (n.getD 1))).map λv=>(v,H) else none|_=>none)|.lookup _ ky I ok=>(match xs with|[m,k]=>(match (match m with|.nilMap=>some []|.map b=>(aP H b).map (·.1)|_=>none) with|none=>none|some F=>if dt ky k then match aT ky k F 0 with|none=>none|some r=>let (v,T):IV×Bool:=match r with|some (_,v)=>(v,true)|none=>(I,false);some (if ok then .tuple [v,.bool T] else v,H) else none)|_=>none)|.mapUpd ky=>(match xs with|[.map b,k,v]=>(match aP H b with|none=>none|some (F,E)=>if lo<=b/\dt ky k then match aT ky k F 0 with|none=>none|some (some (i,_))=>some (UN,H.put b (.map (eQ k v F i) E))|some none=>some (UN,H.put b (.map (F++[(k,v,E)]) (E+1))) else none)|_=>none)|.mapEntry _ ky I=>(match xs with|[.map b,k]=>(match aP H b with|none=>none|some (F,E)=>if lo<=b/\dt ky k then match aT ky k F 0 with|none=>none|some (some (i,v))=>(F[i]?).map λe=>(.tuple [v,.int .i64 e.2.2],H.put b (.map (eQ k v F i) E))|some none=>some (.tuple [I,.int .i64 E],H.put b (.map (F++[(k,I,E)]) (E+1))) else none)|_=>none)|.entryStore=>(match xs with|[.map b,.int _ s,v]=>(match aP H b with|none=>none|some (F,E)=>if lo<=b then(eT v s F).map λU=>(UN,H.put b (.map U E)) else none)|_=>none)|.delete ky=>(match xs with|[.map b,k]=>(match aP H b with|none=>none|some (F,E)=>if lo<=b/\dt ky k then match aT ky k F 0 with|none=>none|some (some (i,_))=>some (UN,H.put b (.map (eE F i) E))|some none=>some (UN,H) else none)|_=>none)|.lenSl=>(match xs with|[x]=>(match x with|.nilSlice=>some (.int .i64 0,H)|.slice _ _ n _ _=>some (.int .i64 n,H)|_=>none)|_=>none)|.lenMap=>(match xs with|[m]=>(match m with|.nilMap=>some (.int .i64 0,H)|.map b=>(aP H b).map λ(F,_)=>(.int .i64 F.length,H)|_=>none)|_=>none)|.cap=>(match xs with|[x]=>(match x with|.nilSlice=>some (.int .i64 0,H)|.slice _ _ _ c true=>some (.int .i64 c,H)|_=>none)|_=>none)|.append e size bytes=>(match xs with|[s,x]=>(mY x).bind λn=>(iu H size n x).bind λxs=>dm e size bytes s xs n lo H|_=>none)|.copy size=>(match xs with|[d,s]=>(match oN d,mY s with|some n,some m=>(let k:=Min.min m n;if k=0 then some (.int .i64 0,H) else(iu H size k s).bind λxs=>match d with|.slice b o _ _ _=>(H.write lo b o xs).map λH'=>(.int .i64 k,H')|_=>none)|_,_=>none)|_=>none)|.min=>(match xs with|[.int k a,.int V b]=>if k=V then some (.int k (if b<a then b else a),H) else none|_=>none)|.max=>(match xs with|[.int k a,.int V b]=>if k=V then some (.int k (if b>a then b else a),H) else none|_=>none)|.clear zs=>(match xs with|[x]=>(match x with|.nilSlice=>some (.tuple [],H)|.slice b o n _ _=>if n=0 then some (.tuple [],H) else(H.write lo b o (ki n zs)).map λH'=>(.tuple [],H')|_=>none)|_=>none)|.extract i=>(match xs with|[.tuple l]=>(l[i]?).map (·,H)|_=>none)|.call=>none
structure IFn where
 ntmps:Nat
 results:List (Nat×Option (Option Nat))
 body:IC
structure Fr where
 tm:List IV
 marks:List Nat
inductive Ex where
 | normal
 | jmp (j:Jmp)
inductive Fp where
 | none
 | rd (b o n:Nat)
 | wr (b o n:Nat)
 | wb (b:Nat)
 | lk (t:TypeId) (ky:Bool×List Pk) (b:Nat) (k:IV)
 | me (t:TypeId) (ky:Bool×List Pk) (b:Nat) (k:IV)
abbrev dL:=List (Nat×Fp)
inductive Task where
 | code (c:IC) (rd:Option Nat) (fr:Fr)
 | segs (l:List (Sg×List IOp)) (rd:Option Nat) (fr:Fr)
 | ops (free:Option dL) (l:List IOp) (rd:Option Nat) (fr:Fr)
 | call (f:FuncId) (args:List IV)
 | apply (f:IV) (args:List IV)
inductive Out where
 | ex (e:Ex) (fr:Fr)
 | val (v:IV)
structure Env where
 fns:FuncId→Option IFn
 sums:FuncId→Option (List IV→Nat→Heap→Option (IV×Heap))
 g0:Nat
def IA.eval(g0:Nat)(tm:List IV):IA->Option IV|.tmp t=>some (tm.getD t UN)|.val v=>some v|.glob g=>if g<g0 then some (.ptr g 0) else none
def cu(g0:Nat)(tm:List IV):List IA->Option (List IV)|[]=>some []|x::xs=>match x.eval g0 tm with|none=>none|some v=>match cu g0 tm xs with|none=>none|some vs=>some (v::vs)
def Fr.put(fr:Fr)(dst:Option Nat)(v:IV):Fr:=match dst with|none=>fr|some d=>{fr with tm:=fr.tm.set d v}
def dw(tm:List IV):Option (Nat×Bool)->Bool|none=>true|some (t,E)=>match tm.getD t UN with|.bool b=>b==E|_=>false
def ni(H:Heap)(tm:List IV):Nat×Option (Option Nat)->Option IV|(t,none)=>some (tm.getD t UN)|(t,some n)=>match tm.getD t UN with|.ptr b o=>(H.read b o (n.getD 1)).bind (ah n)|_=>none
def aU(H:Heap)(tm:List IV):List (Nat×Option (Option Nat))->Option (List IV)|[]=>some []|r::rs=>match ni H tm r,aU H tm rs with|some v,some vs=>some (v::vs)|_,_=>none
def iq:List IV->IV|[v]=>v|l=>.tuple l
def cY(lo:Nat):List Nat->Heap->Option Heap|[],H=>some H|r::rs,H=>match H.get r with|some .deferred=>if lo<=r then cY lo rs (H.put r .taken) else none|_=>none
def fI:List IV->List Nat->List IV->List IV|tm,p::E,v::vs=>fI (tm.set p v) E vs|tm,_,_=>tm
def dC:Nat->List IV|0=>[]|n+1=>UN::dC n
def Kd.pure:Kd->Bool|.move|.pick|.build _ _|.nilCheck|.bin _|.eqBool _|.eqFlat _ _|.eqNil _ _|.un _|.conv _|.mkfn _ _|.fieldAddr _|.idxSl _|.idxArrAddr _ _|.idxArr _ _ _|.lenSl|.cap|.min|.max|.extract _=>true|_=>false
def Kd.isStore:Kd->Bool|.store _=>true|_=>false
def jF(b o n b' o' E:Nat):Bool:=b≠b'||o+n<=o'||o'+E<=o
def bB:Fp->Fp->Bool|.rd b o n,.wr b' o' E|.wr b o n,.rd b' o' E|.wr b o n,.wr b' o' E=>jF b o n b' o' E|.wb b,.rd b' _ _|.rd b' _ _,.wb b|.wb b,.wr b' _ _|.wr b' _ _,.wb b|.wb b,.wb b'|.wb b,.lk _ _ b' _|.lk _ _ b' _,.wb b|.wb b,.me _ _ b' _|.me _ _ b' _,.wb b=>b≠b'|.lk _ _ b _,.wr b' _ _|.wr b' _ _,.lk _ _ b _|.rd b _ _,.me _ _ b' _|.me _ _ b' _,.rd b _ _|.wr b _ _,.me _ _ b' _|.me _ _ b' _,.wr b _ _|.me _ _ b' _,.me _ _ b _=>b≠b'|.lk t ky b k,.me I _ b' F|.me I _ b' F,.lk t ky b k=>b≠b'||(t==I&&(match d6 ky k F with|some true=>true|_=>false))|_,_=>true
def C0:IV->Fp|.slice b _ _ _ false=>.rd b 0 0|_=>.none
def fy(o:IOp)(xs:List IV):Option Fp:=match o.kd,xs with|.slc _ _ _ _,s::_=>some (C0 s)|.store n,[.ptr b a,_]=>some (.wr b a n)|.store _,_=>none|.load n,[.ptr b a]=>some (.rd b a (n.getD 1))|.load _,_=>none|.lookup t ky _ false,[.map b,k]=>some (.lk t ky b k)|.lookup _ _ _ false,[.nilMap,_]=>some .none|.lookup _ _ _ false,_=>none|.append _ _ _,.slice b _ _ _ _::_=>some (if o.amb then .wb b else .none)|.mapEntry t ky _,[.map b,k]=>some (if o.amb then .me t ky b k else .none)|_,_=>some .none
def nG(E:dL)(o:IOp)(xs:List IV):Option dL:=match fy o xs with|none=>none|some f=>if E.all λp=>o.mask.testBit p.1||bB p.2 f then some ((o.idx,f)::E) else none
def fE(free:Option dL)(o:IOp)(lo:Nat)(H:Heap):Nat:=match free with|none=>lo|some _=>if o.amb then lo else H.n
def bM(free:Option dL)(o:IOp)(xs:List IV):Option (Option dL):=match free with|none=>some none|some E=>(nG E o xs).map some
def jD(rd:Option Nat)(H:Heap):Option (Nat×List Nat×Heap):=match rd with|none=>some (H.n,[H.n],H.new .deferred)|some l=>match H.get l with|some (.loop _ _ _ _ _ _ E)=>some (E,[],H)|_=>none
def kc(l:Nat)(H:Heap):Option Heap:=match H.get l with|some (.loop .ready pend tm I E body F)=>some (H.put l (.loop .busy pend tm I E body F))|_=>none
def C3(l:Nat)(e:Ex)(H:Heap):Option (Out×Heap):=match H.get l with|some (.loop _ _ tm I E body F)=>(match e with|.normal=>some (.val (.bool true),H.put l (.loop .ready none tm I E body F))|.jmp j=>some (.val (.bool false),H.put l (.loop .done (some j) tm I E body F)))|_=>none
def run(E:Env):Nat->Task->Nat->Heap->Option (Out×Heap)|0,_,_,_=>none|n+1,t,lo,H=>match t with|.code c rd fr=>(match c with|.skip=>some (.ex .normal fr,H)|.exit id=>some (.ex (.jmp (.exit id)) fr,H)|.ret=>some (.ex (.jmp .ret) fr,H)|.ops l=>run E n (.segs l rd fr) lo H|.seq a b=>(match run E n (.code a rd fr) lo H with|some (.ex .normal F,H')=>run E n (.code b rd F) lo H'|r=>r)|.cond c a b=>(match c.eval E.g0 fr.tm with|some (.bool true)=>run E n (.code a rd fr) lo H|some (.bool false)=>run E n (.code b rd fr) lo H|_=>none)|.block id c=>(match run E n (.code c rd fr) lo H with|some (.ex (.jmp (.exit Y)) F,H')=>some (.ex (if Y=id then .normal else .jmp (.exit Y)) F,H')|r=>r)|.loop c=>(match run E n (.code c rd fr) lo H with|some (.ex .normal F,H')=>run E n (.code (.loop c) rd F) lo H'|r=>r)|.scope c=>run E n (.code c rd fr) lo H|.rfn f U I body=>match f.eval E.g0 fr.tm,jD rd H with|some g,some (df,marks,H1)=>(match run E n (.apply g [.yield H1.n]) lo (H1.new (.loop .ready none fr.tm U I body df)) with|some (.val _,Z)=>(match Z.get H1.n with|some (.loop st pend tm U I body df)=>(if st=.busy\/H1.n<lo then none else let H3:=Z.put H1.n (.loop .exhausted pend tm U I body df);let F:Fr:={fr with marks:=marks++fr.marks};match pend with|none=>some (.ex .normal F,H3)|some j=>some (.ex (.jmp j) F,H3))|_=>none)|_=>none)|_,_=>none)|.segs l rd fr=>(match l with|[]=>some (.ex .normal fr,H)|(k,os)::l=>match run E n (.ops (match k with|.seq=>none|.free=>some []) os rd fr) lo H with|some (.ex .normal F,H')=>run E n (.segs l rd F) lo H'|_=>none)|.ops free l rd fr=>(match l with|[]=>some (.ex .normal fr,H)|o::l=>if dw fr.tm o.guard then match cu E.g0 fr.tm o.args with|none=>none|some xs=>match bM free o xs with|none=>none|some O=>match o.kd with|.call=>(match xs with|f::xs=>(match run E n (.apply f xs) (fE free o lo H) H with|some (.val v,H')=>run E n (.ops O l rd (fr.put o.dst v)) lo H'|_=>none)|[]=>none)|kd=>match ev1 kd xs (fE free o lo H) H with|some (v,H')=>run E n (.ops O l rd (fr.put o.dst v)) lo H'|none=>none else run E n (.ops free l rd (fr.put o.dst UN)) lo H)|.apply f args=>(match f with|.fn f T cap=>run E n (.call f (T++args++cap)) lo H|.yield l=>(match H.get l with|some (.loop _ _ tm U I body _)=>if args.length=U.length/\lo<=l then match run E n (.code I (some l) ⟨fI tm U args,[]⟩) lo H with|some (.ex .normal fr,H1)=>(match kc l H1 with|some Z=>(match run E n (.code body (some l) fr) lo Z with|some (.ex e _,H3)=>C3 l e H3|_=>none)|none=>none)|_=>none else none|_=>none)|_=>none)|.call f args=>match E.sums f with|some s=>(s args lo H).map λ(v,H')=>(.val v,H')|none=>match E.fns f with|none=>none|some fn=>match run E n (.code fn.body none ⟨args++dC (fn.ntmps - args.length),[]⟩) lo H with|some (.ex e fr,H')=>(match e with|.jmp (.exit _)=>none|_=>match cY lo fr.marks H' with|none=>none|some V=>(aU V fr.tm fn.results).map λvs=>(.val (iq vs),V))|_=>none
def sN:Nat->Value->Option IV|0,_=>none|n+1,v=>match v with|.bool b=>some (.bool b)|.int k n=>some (.int k n)|.string s=>some (.str s.data.toList)|.pointer none=>some .nilPtr|.slice none 0 0=>some .nilSlice|.map none=>some .nilMap|.nilFunc=>some .nilFunc|.nilIface=>some .nilIface|.agg cs=>(cs.toList.mapM (sN n)).map .agg|_=>none
def pe:Operand->Option IA|.tmp t=>some (.tmp t)|.const v=>(sN 3 v).map .val|.global g=>some (.glob g)|.func f=>some (.val (.fn f [] []))
section
variable (P:Program)
def bk(t:TypeId):Option Nat:=(P.info? t).map (·.size)
def m7(t:TypeId):Option Nat:=(P.info? t).map (·.bytes)
def yU(t:TypeId):Option (Option Nat):=match P.underlying t,bk P t with|some (.struct _),some n=>some (some n)|some (.array _ _),some n=>some (some n)|some (.struct _),none=>none|some (.array _ _),none=>none|some _,some _=>some none|_,_=>none
def iS(t:TypeId):Option IV:=((P.info? t).bind (·.zero)).bind (sN 3)
def oF(ax:TypeId->Option (List Pk)):List Field->Nat->Option (List Pk)|[],_=>some []|f::fs,off=>match ax f.type with|some l=>if f.name≠"_"/\f.offset=off/\bk P f.type=some l.length then(oF ax fs (off+l.length)).map (l++·) else none|none=>none
def dc:Nat->TypeId->Option (List Pk)|0,_=>none|d+1,t=>match P.underlying t with|some .bool=>some [.bool]|some (.int _)=>some [.int]|some .string=>some [.str]|some (.struct fs)=>if P.stoodInHeld t then none else oF P (dc d) fs.toList 0|some (.array n e)=>(match dc d e with|some l=>if bk P e=some l.length then some (List.replicate n l).flatten else none|none=>none)|_=>none
def ny(k:TypeId):Option (Bool×List Pk):=(dc P 8 k).map λds=>(match P.underlying k with|some (.struct _)|some (.array _ _)=>true|_=>false,ds)
def oT(l:List Operand):Option (List IA):=l.mapM pe
def vp(t:TypeId)(i:Nat):Option Field:=match P.underlying t with|some (.struct fs)=>fs[i]?|_=>none
def kq(e:TypeId):Option (Nat×List IV):=match bk P e,iS P e with|some n,some z=>if z.cells.length=n then some (n,z.cells) else none|_,_=>none
def aY(b:Builtin)(ts:List TypeId):Option Kd:=match b,ts with|.len,[t]=>(match P.underlying t with|some (.slice _)=>some .lenSl|some (.map _ _)=>some .lenMap|_=>none)|.cap,[t]=>(match P.underlying t with|some (.slice _)=>some .cap|_=>none)|.append,[t,u]=>(match P.underlying t,P.underlying u with|some (.slice e),some (.slice _)=>(kq P e).bind λz=>(m7 P e).map λb=>.append e z.1 b|some (.slice e),some .string=>(kq P e).bind λz=>(m7 P e).map λb=>.append e z.1 b|_,_=>none)|.copy,t::_=>(match P.underlying t with|some (.slice e)=>(bk P e).map .copy|_=>none)|.delete,t::_=>(match P.underlying t with|some (.map k _)=>(ny P k).map .delete|_=>none)|.clear,t::_=>(match P.underlying t with|some (.slice e)=>(kq P e).map λz=>.clear z.2|_=>none)|.min,_=>some .min|.max,_=>some .max|_,_=>none
def Jn(op:BinOp)(t:TypeId):Option Kd:=match op with|.eql|.neq=>(let neg:=op matches .neq;match P.underlying t with|some .bool=>some (.eqBool neg)|some (.int _)|some .string=>some (.bin op)|some (.struct _)|some (.array _ _)=>if P.eqGuardType P.depth t then none else(dc P 8 t).map (.eqFlat neg)|some (.pointer _)=>some (.eqNil neg .ptr)|some (.slice _)=>some (.eqNil neg .sl)|some (.map _ _)=>some (.eqNil neg .map)|some (.func _ _ _)=>some (.eqNil neg .fn)|_=>none)|_=>some (.bin op)
def tq(place:Nat->Option (Nat×Nat))(E:Array (Nat×Operand)):Option (List (Nat×Nat)):=E.toList.mapM λp=>place p.1
def cW(op:Op):Option Kd:=match op with|.move _|.assign _=>some .move|.pick _ _ _=>some .pick|.alloc e=>(bk P e).bind λn=>(iS P e).map λz=>.alloc e n z.cells|.box e _=>(bk P e).map λn=>.box e n|.build t I=>(match P.underlying t with|some (.struct fs)=>if fs.all λf=>(bk P f.type).isSome then (tq (λi=>(fs[i]?).bind λf=>(bk P f.type).map λn=>(f.offset,n)) I).bind λE=>(iS P t).map λz=>.build z.cells E else none|some (.array _ e)=>(bk P e).bind λn=>(tq (λi=>some (i*n,n)) I).bind λE=>(iS P t).map λz=>.build z.cells E|_=>none)|.buildSlice t len I=>(match P.underlying t with|some (.slice e)=>(kq P e).bind λz=>(tq (λi=>some (i*z.1,z.1)) I).bind λE=>if len*z.1<=2^24/\len<2^40 then some (.buildSl e z.1 len (ki len z.2) E) else none|_=>none)|.load t _=>(yU P t).map .load|.store t _ _=>(bk P t).map .store|.nilCheck _=>some .nilCheck|.binOp op t _ _ _=>Jn P op t|.unOp op _ _=>some (.un op)|.convert T dst _=>(match P.underlying T,P.underlying dst with|some (.int _),some (.int k)=>some (.conv k)|_,_=>none)|.makeFunc (.func f) F _=>some (.mkfn f F.size)|.makeMap t _=>(match P.underlying t with|some (.map _ _)=>some .mkmap|_=>none)|.makeSlice t _ _=>(match P.underlying t with|some (.slice e)=>(kq P e).bind λz=>(m7 P e).map λb=>.mksl e z.1 b z.2|_=>none)|.slice t _ lo hi mx=>(match P.underlying t with|some (.slice e)=>(bk P e).map λn=>.slc n lo.isSome hi.isSome mx.isSome|_=>none)|.fieldAddr t _ i=>(vp P t i).bind λf=>(bk P f.type).bind λn=>if n=0 then none else some (.fieldAddr f.offset)|.indexAddr t _ _=>(match P.underlying t with|some (.slice e)=>(bk P e).map .idxSl|some (.array n e)=>(bk P e).map λk=>.idxArrAddr n k|_=>none)|.index t _ _=>(match P.underlying t with|some (.array n e)=>(bk P e).bind λk=>(yU P e).map λa=>.idxArr n k a|_=>none)|.lookup t _ _ ok=>(match P.underlying t with|some (.map k e)=>(ny P k).bind λky=>(iS P e).map λz=>.lookup t ky z ok|_=>none)|.mapUpdate t _ _ _|.insert t _ _ _=>(match P.underlying t with|some (.map O _)=>(ny P O).map .mapUpd|_=>none)|.mapEntry t _ _=>(match P.underlying t with|some (.map O e)=>(ny P O).bind λky=>(iS P e).map λz=>.mapEntry t ky z|_=>none)|.entryStore _ _ _ _=>some .entryStore|.range t _=>(match P.underlying t with|some (.map _ _)=>some .rangeM|_=>none)|.next _ false=>some .nextM|.entry _=>some .entryM|.extract _ i=>some (.extract i)|.call c=>(match c.callee with|.value _=>some .call|.builtin b=>aY P b c.argTypes.toList|_=>none)|_=>none
def V7(o:Oper):Option (Kd×List IA):=do
 let kd←cW P o.op
 let as←oT o.op.operands.toList
 pure (kd,as)
def GN:List Oper->Nat->Bool|[],_=>true|o::os,i=>(o.after.all λe=>!Region.binds .any e||decide (e.on<i))&&GN os (i+1)
def mask(E:List Nat)(o:Oper):Nat:=o.after.toList.foldl (λs e=>if Region.binds .any e then s||| 2^e.on||| E.getD e.on 0 else s) 0
def fX:List Oper->List Nat->List Nat|[],E=>E|o::os,E=>fX os (E++[mask E o])
def gu(ms:List Nat)(i j:Nat):Bool:=(ms.getD (Max.max i j) 0).testBit (Min.min i j)
def zw:IA->Option Nat|.tmp t=>some t|_=>none
def IOp.names(o:IOp):List Nat:=o.dst.toList++o.args.filterMap zw++(o.guard.map (·.1)).toList
def sP(a b:IOp):Bool:=(match a.dst with|some d=>!b.names.contains d|none=>true)&& (match b.dst with|some d=>!a.names.contains d|none=>true)
def nL(ms:List Nat)(i:Nat)(a:IOp):List IOp->Nat->Bool|[],_=>true|b::l,j=>(gu ms i j||sP a b)&&nL ms i a l (j+1)
def qV(ms:List Nat):List IOp->Nat->Bool|[],_=>true|a::l,i=>nL ms i a l (i+1)&&qV ms l (i+1)
def jg(ops:Array Oper)(o:Oper):Option IOp:=do
 let (kd,args)←V7 P o
 let guard←match o.guard with
  | none=>pure none
  | some (j,want)=>do pure (some (←(ops[j]?).bind (·.dst),want))
 pure {dst:=o.dst,kd,args,guard,amb:=true,idx:=0,mask:=0}
def D5(ms:List Nat)(i:Nat):Bool:=(ms.drop i).all λm=>m%2^i=2^i - 1
def oe(l:List IOp):Sg:=if l.length<=1 then .seq else .free
def Kd.isLoad:Kd->Bool|.load _|.slc _ _ _ _=>true|_=>false
def Kd.isLook:Kd->Bool|.lookup _ _ _ false=>true|_=>false
def Kd.light(k:Kd):Bool:=k.pure||k.isLoad||k.isLook
def Kd.isWr:Kd->Bool|.append _ _ _|.mapEntry _ _ _=>true|_=>false
def lj(ms:List Nat)(i:Nat)(ok:Kd->Bool):List IOp->Nat->Bool|[],_=>true|b::l,j=>(i==j||gu ms i j||ok b.kd)&&lj ms i ok l (j+1)
def Kz(ms:List Nat)(l:List IOp)(i:Nat)(k:Kd):Bool:=k.isStore||lj ms i Kd.pure l 0||(k.isWr&&lj ms i Kd.light l 0)
def jz(ms:List Nat)(all:List IOp):List IOp->Nat->List IOp|[],_=>[]|o::l,i=>{o with amb:=Kz ms all i o.kd,idx:=i,mask:=ms.getD i 0}::jz ms all l (i+1)
def mm(a b:IOp):Bool:=a.kd.light||b.kd.light||(a.kd.isStore&&b.kd.isStore)||(!a.amb&&!b.amb)
def lD(ms:List Nat)(i:Nat)(a:IOp):List IOp->Nat->Bool|[],_=>true|b::l,j=>(gu ms i j||mm a b)&&lD ms i a l (j+1)
def nh(ms:List Nat):List IOp->Nat->Bool|[],_=>true|a::l,i=>lD ms i a l (i+1)&&nh ms l (i+1)
def parts(ms:List Nat):List IOp->Nat->List IOp->List (Sg×List IOp)|[],_,[]=>[]|[],_,E=>[(oe E.reverse,E.reverse)]|o::l,i,E=>if D5 ms (i+1) then(oe (o::E).reverse,(o::E).reverse)::parts ms l (i+1) [] else parts ms l (i+1) (o::E)
def Fm(md:Region.Mode)(ops:Array Oper):List Nat->List Nat->Bool|[],seen=>(List.range ops.size).all seen.contains|i::l,seen=>(match ops[i]? with|some o=>o.after.all (λe=>!Region.binds md e||seen.contains e.on)|none=>false)&&Fm md ops l (i::seen)
def wg(ops:Array Oper):Bool:=Fm .any ops (List.range ops.size) []&& (!Region.departs ops||(Fm .text ops (List.range ops.size) []&&Fm .gc ops (Region.linearise .gc ops 0) []))
def de(ops:Array Oper)(draw:Bool):Option (List (Sg×List IOp)):=do
 let l←ops.toList.mapM (jg P ops)
 if draw then
  let ms:=fX ops.toList []
  let l:=jz ms l l 0
  if wg ops&&GN ops.toList 0&&qV ms l 0&&nh ms l 0 then pure (parts ms l 0 []) else none
 else pure [(.seq,l)]
def bi:Code→Option IC
 | .skip=>some .skip
 | .region _ ops draw=>(de P ops draw).map .ops
 | .seq a b=>do pure (.seq (←bi a) (←bi b))
 | .cond c a b=>do pure (.cond (←pe c) (←bi a) (←bi b))
 | .block id c=>do pure (.block id (←bi c))
 | .scope c=>do pure (.scope (←bi c))
 | .label _=>some .skip
 | .loop c=>do pure (.loop (←bi c))
 | .rangeFunc f ps asg body=>do pure (.rfn (←pe f) ps.toList (←bi asg) (←bi body))
 | .exit id=>some (.exit id)
 | .ret=>some .ret
 | _=>none
def yu:ResultVar->Option (Nat×Option (Option Nat))|.tmp t=>some (t,none)|.cell a t=>(yU P t).map λn=>(a,some n)
def iK(f:FuncId):Option IFn:=
 match P.funcs[f]? with
 | none=>none
 | some fn=>
   if fn.name=="runtime.NumGoroutine" then none else
   match fn.body with
   | none=>none
   | some c=>do pure ⟨fn.ntmps,←fn.results.toList.mapM (yu P),←bi P c⟩
end
def IObj.owned:IObj->Bool|.cells true _ _ _=>false|.dead=>false|_=>true
def kR:Jmp->Code|.exit id=>.exit id|.ret=>.ret
def EsR(μ:Mu):List (IV×IV×Nat)->List MapEntry->Prop|[],l=>l=[]|(k,v,s)::F,l=>∃(e:MapEntry) (E:List MapEntry),l=e::E/\VR μ k e.key/\VR μ v e.val/\e.born=s/\EsR μ F E
def EsR.mono{μ E:Mu}(hl:μ.le E):∀{F:List (IV×IV×Nat)}{l:List MapEntry},EsR μ F l->EsR E F l|[],_,h=>h|(k,v,_)::_,_,h=>by obtain⟨e,I,a,b,c,d,f⟩:=h;exact⟨e,I,a,VR.mono hl k _ b,VR.mono hl v _ c,d,EsR.mono hl f⟩
def ObjR(P:Program)(μ:Mu)(o:IObj)(p ez z:Nat)(h:Option Obj):Prop:=match o with|.cells true _ _ cs=>ez=0/\∃(E:Array Value) (e:TypeId) (fz:Nat×Nat),h=some (.cells E e fz)/\p+cs.length<=E.size/\VRs μ cs ((E.toList.drop p).take cs.length)|.cells false e V cs=>p=0/\ez=V/\∃E:Array Value,h=some (.cells E e (0,0))/\E.size=z/\cs.length<=z/\VRs μ cs (E.toList.take cs.length)|.map es F=>p=0/\∃O:Array MapEntry,h=some (.map O F)/\EsR μ es O.toList|.loop st pend tm ps U body Z=>p=0/\∃L:Loop,h=some (.loop L)/\L.state=st/\L.pending=pend.map kR/\VRs μ tm L.tmps.toList/\L.params.toList=ps/\ bi P L.assign=some U/\bi P L.body=some body/\LocR μ Z 0 ⟨L.defers,0,none⟩|.deferred=>p=0/\h=some (.deferred (some []))|.taken=>p=0/\h=some (.deferred none)|.iter m I seen T=>p=0/\∃Y:Option Nat,h=some (.mapIter Y I seen.toArray T)/\VR μ (match m with|none=>.nilMap|some b=>.map b) (.map Y)|.dead=>False
def ObjR.mono{P:Program}{μ F:Mu}{o:IObj}{p ez z:Nat}{h:Option Obj}(hl:μ.le F)(k:ObjR P μ o p ez z h):ObjR P F o p ez z h:=by cases o with|cells ro e Z cs=>cases ro;{obtain⟨a,b,E,c,d,O,f⟩:=k;exact⟨a,b,E,c,d,O,VRs.mono hl _ _ f⟩};{obtain⟨a,E,O,fz,b,c,f⟩:=k;exact⟨a,E,O,fz,b,c,VRs.mono hl _ _ f⟩}|map es I=>obtain⟨a,T,b,c⟩:=k;exact⟨a,T,b,EsR.mono hl c⟩|loop st pend tm ps Y body df=>obtain⟨a,L,b,c,d,e,f,g,i,j⟩:=k;exact⟨a,L,b,c,d,VRs.mono hl _ _ e,f,g,i,j.mono hl⟩|deferred=>exact k|taken=>exact k|iter m U seen V=>obtain⟨a,m',b,c⟩:=k;exact⟨a,m',b,VR.mono hl _ _ c⟩|dead=>exact k
def ObjR.some_{P:Program}{μ:Mu}{o:IObj}{p ez z:Nat}{h:Option Obj}(k:ObjR P μ o p ez z h):∃x,h=some x:=by cases o with|cells Y e V cs=>cases Y;{obtain⟨_,_,F,c,_⟩:=k;exact⟨_,c⟩};{obtain⟨_,F,e',fz,b,_⟩:=k;exact⟨_,b⟩}|map es E=>obtain⟨_,U,b,_⟩:=k;exact⟨_,b⟩|loop st pend tm ps T body Z=>obtain⟨_,L,b,_⟩:=k;exact⟨_,b⟩|deferred=>exact⟨_,k.2⟩|taken=>exact⟨_,k.2⟩|iter m I seen O=>obtain⟨_,m',b,_⟩:=k;exact⟨_,b⟩|dead=>exact k.elim
abbrev Gt:=Nat->Option IObj
def bz(g:Gt)(b:Nat):Prop:=∃o,g b=some o/\o.owned=true
structure Rel(P:Program)(g0:Nat)(μ:Mu)(g:Gt)(n:Nat)(w:World):Prop where
 lt:∀b,μ b≠.no→b < n
 inj:∀b b' c p ez z p' ez' z',μ b=.at c p ez z→μ b'=.at c p' ez' z'→bz g b→b=b'
 obj:∀b c p ez z,μ b=.at c p ez z→∃o,g b=some o∧ObjR P μ o p ez z w.heap[c]?
 glob:∀i,i < g0→μ i=.at i 0 0 0
 ded:∀b,μ b=.dead→g b=some .dead
structure Post(lo:Nat)(μ:Mu)(g:Gt)(n:Nat)(w:World)(μ':Mu)(g':Gt)(n':Nat)(w':World):Prop where
 le:μ.le μ'
 hn:n≤n'
 old:∀b,b < n→μ b=.no→μ' b=.no
 low:∀b,b < lo→b < n→μ' b=μ b∧g' b=g b
 own:∀b,b < n→bz g' b→bz g b
 new:∀b c p ez z,n≤b→μ' b=.at c p ez z→w.heap.size≤c∨∃b0 p0 ez0 z0,lo≤b0∧b0 < n∧bz g b0∧μ b0=.at c p0 ez0 z0
 full:∀b,n≤b→b < n'→μ' b≠.no
 size:w.heap.size≤w'.heap.size
 frame:∀c,c < w.heap.size→(∀b p ez z,lo≤b→b < n→bz g b→μ b≠.at c p ez z)→w'.heap[c]? =w.heap[c]?
 os:w'.os=w.os
 tape:w'.tape=w.tape
 output:w'.output=w.output
 drawn:w.drawn≤w'.drawn
section
variable {P:Program}{g0 lo n:Nat}{μ:Mu}{g:Gt}{w:World}
def Rel.clt(h:Rel P g0 μ g n w){b c p ez z:Nat}(E:μ b=.at c p ez z):c<w.heap.size:=by obtain⟨o,_,ho⟩:=h.obj b c p ez z E;obtain⟨x,hx⟩:=ho.some_;grind
def Rel.heap_eq{w':World}(h:Rel P g0 μ g n w)(e:w'.heap=w.heap):Rel P g0 μ g n w':=⟨h.lt,h.inj,λb c p ez z E=>by rw[e];exact h.obj b c p ez z E,h.glob,h.ded⟩
def Rel.congr{O:Gt}(h:Rel P g0 μ g n w)(e:∀b,μ b≠.no->O b=g b):Rel P g0 μ O n w where lt:=h.lt;inj:=λb b' c p ez z U F V E I ho=>h.inj b b' c p ez z U F V E I (by obtain⟨o,Y,T⟩:=ho;exact⟨o,by grind,T⟩);obj:=λb c p ez z E=>by{rw[e b (by grind)];exact h.obj b c p ez z E};glob:=h.glob;ded:=λb E=>by rw[e b (by grind)];exact h.ded b E
def Rel.more{E:Nat}(h:Rel P g0 μ g n w)(hn:n<=E):Rel P g0 μ g E w:=⟨λb F=>cC (h.lt b F) hn,h.inj,h.obj,h.glob,h.ded⟩
theorem Post.refl(h:Rel P g0 μ g n w):Post lo μ g n w μ g n w where le:=μ.le_refl;hn:=an _;old:=λ_ _ h=>h;low:=λ_ _ _=>⟨rfl,rfl⟩;own:=λ_ _ h=>h;new:=λb c p ez z I e=>absurd (h.lt b (by grind)) Om;full:=λb E F=>Om;size:=an _;frame:=λ_ _ _=>rfl;os:=rfl;tape:=rfl;output:=rfl;drawn:=an _
def Post.trans{n1 n2:Nat}{U ag:Mu}{g1 g2:Gt}{w1 w2:World}(h:Post lo μ g n w U g1 n1 w1)(k:Post lo U g1 n1 w1 ag g2 n2 w2):Post lo μ g n w ag g2 n2 w2 where le:=Mu.le_trans h.le k.le;hn:=cP h.hn k.hn;old:=λb O e=>k.old b (cC O h.hn) (h.old b O e);low:=λb hl O=>by{obtain⟨a1,a2⟩:=h.low b hl O;obtain⟨b1,b2⟩:=k.low b hl (cC O h.hn);grind};own:=λb O o=>h.own b O (k.own b (cC O h.hn) o);new:=λb c p ez z O e=>by{have key:∀b0 V F Y,lo<=b0->b0<n1->bz g1 b0->U b0=.at c V F Y->w.heap.size<=c\/∃b0 V F Y,lo<=b0/\b0<n/\bz g b0/\μ b0=.at c V F Y:=by{intro b0 V F Y Z aE ho e0;by_cases E:b0<n;{have I:μ b0≠.no:=λe'=>by{rw[h.old b0 E e'] at e0;cases e0};rcases h.le b0 I with T|T;{exact .inr ⟨b0,V,F,Y,Z,E,h.own b0 E ho,by rw[<-T];exact e0⟩};{rw[T] at e0;cases e0}};{exact h.new b0 c V F Y Om e0}};by_cases E:b<n1;{have I:U b≠.no:=λe'=>by{rw[k.old b E e'] at e;cases e};rcases k.le b I with T|T;{exact h.new b c p ez z O (by rw[<-T];exact e)};{rw[T] at e;cases e}};{rcases k.new b c p ez z Om e with hc|⟨b0,V,F,Y,h1,h2,h3,h4⟩;{exact .inl (cP h.size hc)};grind}};full:=λb h1 h2=>by{by_cases O:b<n1;{have I:=h.full b h1 O;rcases k.le b I with e|e<;>grind};{exact k.full b Om h2}};size:=cP h.size k.size;frame:=λc hc ad=>by{refine(k.frame c (cC hc h.size) λb p ez z Z aE ho e=>?_).trans (h.frame c hc ad);by_cases E:b<n;{have I:μ b≠.no:=λe'=>by{rw[h.old b E e'] at e;cases e};rcases h.le b I with T|T;{exact ad b p ez z Z E (h.own b E ho) (by rw[<-T];exact e)};{rw[T] at e;cases e}};{rcases h.new b c p ez z Om e with aS|⟨b0,V,F,Y,h1,h2,h3,h4⟩<;>grind}};os:=k.os.trans h.os;tape:=k.tape.trans h.tape;output:=k.output.trans h.output;drawn:=cP h.drawn k.drawn
def Post.lower{E n1:Nat}{F:Mu}{g1:Gt}{T:World}(hl:lo<=E)(h:Post E μ g n w F g1 n1 T):Post lo μ g n w F g1 n1 T where le:=h.le;hn:=h.hn;old:=h.old;low:=λb a c=>h.low b Om c;own:=h.own;new:=λb c p ez z V e=>by{rcases h.new b c p ez z V e with O|⟨b0,p0,U,z0,Z,h2,h3,h4⟩<;>grind};full:=h.full;size:=h.size;frame:=λc O I=>h.frame c O λb p ez z Y=>I b p ez z Om;os:=h.os;tape:=h.tape;output:=h.output;drawn:=h.drawn
def Post.same{w':World}(h:Rel P g0 μ g n w)(e:w'.heap=w.heap)(E:w'.os=w.os)(F:w'.tape=w.tape)(I:w'.output=w.output)(O:w.drawn<=w'.drawn:=by first|exact an _|exact lO _|assumption|(simp;done)|omega):Post lo μ g n w μ g n w' where le:=μ.le_refl;hn:=an _;old:=λ_ _ h=>h;low:=λ_ _ _=>⟨rfl,rfl⟩;own:=λ_ _ h=>h;new:=λb c p ez z V e=>absurd (h.lt b (by grind)) Om;full:=λb T U=>Om;size:=by{rw[e];exact an _};frame:=λ_ _ _=>by{rw[e]};os:=E;tape:=F;output:=I;drawn:=O
def Mu.upd(μ:Mu)(b:Nat)(l:Loc):Mu:=λx=>if x=b then l else μ x
theorem aD(μ:Mu)(b:Nat)(l:Loc):μ.upd b l b=l:=by simp[Mu.upd]
theorem aJ(μ:Mu){b x:Nat}(l:Loc)(h:x≠b):μ.upd b l x=μ x:=by simp[Mu.upd,h]
def Mu.le_upd(μ:Mu){b:Nat}(l:Loc)(h:μ b=.no):μ.le (μ.upd b l):=λx hx=>by left;refine aJ _ _ λe=>hx (by rw[e];exact h)
def Mu.le_kill(μ:Mu)(b:Nat):μ.le (μ.upd b .dead):=λx hx=>by grind[aD,aJ]
def Rel.fresh(h:Rel P g0 μ g n w):μ n=.no:=by cases e:μ n with|no=>rfl|dead=>exact absurd (h.lt n (by grind)) Om|«at» c p ez z=>exact absurd (h.lt n (by grind)) Om
theorem XS(h:Array Obj)(ob:Obj):(h.push ob)[h.size]? =some ob:=by simp
def IQ(h:Array Obj)(ob:Obj){c:Nat}(E:c<h.size):(h.push ob)[c]? =h[c]?:=by grind
def Rel.alloc{H:Heap}(h:Rel P g0 μ H.get H.n w){w':World}{ob:Obj}{o:IObj}{ez z:Nat}(hw:w'.heap=w.heap.push ob)(ho:ObjR P (μ.upd H.n (.at w.heap.size 0 ez z)) o 0 ez z (some ob))(e1:w'.os=w.os)(e2:w'.tape=w.tape)(e3:w'.output=w.output)(e4:w.drawn<=w'.drawn:=by first|exact an _|exact lO _|assumption|(simp;done)|omega):Rel P g0 (μ.upd H.n (.at w.heap.size 0 ez z)) (H.new o).get (H.new o).n w'/\ Post lo μ H.get H.n w (μ.upd H.n (.at w.heap.size 0 ez z)) (H.new o).get (H.new o).n w':=by have U:=h.fresh;have T:=μ.le_upd (.at w.heap.size 0 ez z) U;have old:∀b,b≠H.n->(H.new o).get b=H.get b:=λb E=>by{rw[ak,if_neg (Ne.symm E)]};have ad:(H.new o).get H.n=some o:=by{rw[ak,if_pos rfl]};refine⟨⟨λb E=>?_,?_,?_,λi hi=>?_,λb E=>?_⟩,⟨T,by rw[af];omega,λb E e=>?_,λb _ E=>?_,λb E ho=>?_,λb c p ez z E e=>?_,λb h1 h2=>?_,?_,λc hc _=>?_,e1,e2,e3,e4⟩⟩;{rw[af];by_cases e:b=H.n;{omega};{rw[aJ _ _ e] at E;have:=h.lt b E;omega}};{intro b b' c p ez z p' I Z E F V;by_cases e:b=H.n;{subst e;rw[aD] at E;by_cases O:b'=H.n;{exact O.symm};{rw[aJ _ _ O] at F;have:=h.clt F;grind}};{rw[aJ _ _ e] at E;by_cases O:b'=H.n;{subst O;rw[aD] at F;have:=h.clt E;grind};{rw[aJ _ _ O] at F;refine h.inj b b' c p ez z p' I Z E F ?_;obtain⟨x,hx,Y⟩:=V;exact⟨x,by rw[<-old b e];exact hx,Y⟩}}};{intro b c p I Z E;by_cases e:b=H.n;{grind[aD,XS]};{rw[aJ _ _ e] at E;obtain⟨x,hx,hr⟩:=h.obj b c p I Z E;refine⟨x,by rw[old b e];exact hx,?_⟩;rw[hw,IQ _ _ (h.clt E)];exact hr.mono T}};{have hn:μ i≠.no:=by{rw[h.glob i hi];exactλx=>by cases x};rw[aJ _ _ (Oh (h.lt i hn))];exact h.glob i hi};{by_cases e:b=H.n;{grind[aD]};{rw[aJ _ _ e] at E;rw[old b e];exact h.ded b E}};{grind[aJ]};{grind[aJ]};{obtain⟨x,hx,Y⟩:=ho;exact⟨x,by grind,Y⟩};{by_cases eb:b=H.n;{grind[aD]};{rw[aJ _ _ eb] at e;exact absurd (h.lt b (by grind)) Om}};{grind[af,aD]};{grind};{rw[hw,IQ _ _ hc]}
def Rel.update{H:Heap}(h:Rel P g0 μ H.get H.n w){w':World}{b c p ez z:Nat}{o:IObj}(V:μ b=.at c p ez z)(a0:lo<=b)(O:bz H.get b)(a6:w'.heap.size=w.heap.size)(F:∀c',c'≠c->w'.heap[c']? =w.heap[c']?)(ho:ObjR P μ o p ez z w'.heap[c]?)(e1:w'.os=w.os)(e2:w'.tape=w.tape)(e3:w'.output=w.output)(e4:w.drawn<=w'.drawn:=by first|exact an _|exact lO _|assumption|(simp;done)|omega):Rel P g0 μ (H.put b o).get (H.put b o).n w'/\Post lo μ H.get H.n w μ (H.put b o).get (H.put b o).n w':=by have old:∀x,x≠b->(H.put b o).get x=H.get x:=λx hx=>by{rw[aa,if_neg (Ne.symm hx)]};have ag:(H.put b o).get b=some o:=by{rw[aa,if_pos rfl]};have aE:b<H.n:=h.lt b (by rw[V];exactλx=>by cases x);have I:∀x,bz (H.put b o).get x->bz H.get x:=λx hx=>by{by_cases e:x=b;{subst e;exact O};{obtain⟨y,hy,hz⟩:=hx;exact⟨y,by rw[<-old x e];exact hy,hz⟩}};refine⟨⟨h.lt,λx x' c1 T E U p2 Y z2 hx ad Z=>h.inj x x' c1 T E U p2 Y z2 hx ad (I x Z),λx c1 T E U hx=>?_,h.glob,λx hx=>by rw[old x (λe=>by subst e;rw[V] at hx;cases hx)];exact h.ded x hx⟩,⟨μ.le_refl,an _,λ_ _ e=>e,λx a7 _=>⟨rfl,old x Om⟩,λx _ hx=>I x hx,λx c1 T E U hx e=>absurd (h.lt x (by rw[e];exactλy=>by cases y)) Om,λx h1 h2=>by rw[ae] at h2;omega,Om,λc1 aS a5=>F c1 λe=>?_,e1,e2,e3,e4⟩⟩;{by_cases e:x=b;{subst e;rw[V] at hx;injection hx with a1 a2 a3 a4;subst a1 a2 a3 a4;exact⟨o,ag,ho⟩};{obtain⟨y,hy,hr⟩:=h.obj x c1 T E U hx;refine⟨y,by rw[old x e];exact hy,?_⟩;rw[F c1 λec=>e ?_];{exact hr};{subst ec;exact(h.inj b x c1 p ez z T E U V hx O).symm}}};grind
def Rel.kill{H:Heap}(h:Rel P g0 μ H.get H.n w){b:Nat}(ad:lo<=b)(hg:g0<=b)(hb:μ b≠.no):Rel P g0 (μ.upd b .dead) (H.put b .dead).get (H.put b .dead).n w/\Post lo μ H.get H.n w (μ.upd b .dead) (H.put b .dead).get (H.put b .dead).n w:=by have old:∀x,x≠b->(H.put b .dead).get x=H.get x:=λx hx=>by{rw[aa,if_neg (Ne.symm hx)]};have T:(H.put b .dead).get b=some .dead:=by{rw[aa,if_pos rfl]};have V:b<H.n:=h.lt b hb;have O:=μ.le_kill b;have E:∀x c p ez z,μ.upd b .dead x=.at c p ez z->x≠b/\μ x=.at c p ez z:=λx c p ez z hx=>by{by_cases e:x=b;{subst e;rw[aD] at hx;cases hx};{rw[aJ _ _ e] at hx;exact⟨e,hx⟩}};have F:∀x,bz (H.put b .dead).get x->bz H.get x:=λx hx=>by{by_cases e:x=b;{subst e;obtain⟨y,I,Z⟩:=hx;rw[T] at I;injection I with I;subst I;cases Z};{obtain⟨y,I,Z⟩:=hx;exact⟨y,by rw[<-old x e];exact I,Z⟩}};refine⟨⟨λx hx=>?_,λx x' c p ez z p' U z' hx Y ho=>h.inj x x' c p ez z p' U z' (E _ _ _ _ _ hx).2 (E _ _ _ _ _ Y).2 (F x ho),λx c p ez z hx=>?_,λi hi=>?_,λx hx=>?_⟩,⟨O,an _,λx hx e=>?_,λx ag hx=>⟨aJ _ _ Om,old x Om⟩,λx _ hx=>F x hx,λx c p ez z hx e=>absurd (h.lt x (by rw[(E _ _ _ _ _ e).2];exactλy=>by cases y)) Om,λx h1 h2=>by rw[ae] at h2;omega,an _,λ_ _ _=>rfl,rfl,rfl,rfl,an _⟩⟩;{by_cases e:x=b;{subst e;exact V};{rw[aJ _ _ e] at hx;exact h.lt x hx}};{obtain⟨e,hx⟩:=E _ _ _ _ _ hx;obtain⟨y,I,hr⟩:=h.obj x c p ez z hx;exact⟨y,by rw[old x e];exact I,hr.mono O⟩};{rw[aJ _ _ Om];exact h.glob i hi};{by_cases e:x=b;{subst e;exact T};{rw[aJ _ _ e] at hx;rw[old x e];exact h.ded x hx}};grind[absurd,aJ]
def Rel.regrow{H:Heap}(h:Rel P g0 μ H.get H.n w){w':World}{b c ez z:Nat}{o:IObj}(hb:μ b=.at c 0 ez z)(a5:lo<=b)(hg:g0<=b)(U:bz H.get b)(bd:w'.heap.size=w.heap.size)(Y:∀c',c'≠c->w'.heap[c']? =w.heap[c']?)(ho:ObjR P ((μ.upd b .dead).upd H.n (.at c 0 ez z)) o 0 ez z w'.heap[c]?)(e1:w'.os=w.os)(e2:w'.tape=w.tape)(e3:w'.output=w.output)(e4:w.drawn<=w'.drawn:=by first|exact an _|exact lO _|assumption|(simp;done)|omega):Rel P g0 ((μ.upd b .dead).upd H.n (.at c 0 ez z)) ((H.put b .dead).new o).get ((H.put b .dead).new o).n w'/\ Post lo μ H.get H.n w ((μ.upd b .dead).upd H.n (.at c 0 ez z)) ((H.put b .dead).new o).get ((H.put b .dead).new o).n w':=by have a0:b<H.n:=h.lt b (by rw[hb];exactλx=>by cases x);have old:∀x,x≠b->x≠H.n->((H.put b .dead).new o).get x=H.get x:=λx hx T=>by{rw[ak,if_neg (by rw[ae];exact Ne.symm T),aa,if_neg (Ne.symm hx)]};have a8:((H.put b .dead).new o).get H.n=some o:=by{rw[ak,ae,if_pos rfl]};have aS:((H.put b .dead).new o).get b=some .dead:=by{rw[ak,ae,iN,aa,if_pos rfl]};have mb:(μ.upd b .dead).upd H.n (.at c 0 ez z) b=.dead:=by{rw[aJ _ _ Om,aD]};have mn:(μ.upd b .dead).upd H.n (.at c 0 ez z) H.n=.at c 0 ez z:=aD _ _ _;have mo:∀x,x≠b->x≠H.n->(μ.upd b .dead).upd H.n (.at c 0 ez z) x=μ x:=λx hx T=>by{rw[aJ _ _ T,aJ _ _ hx]};have aE:μ.le ((μ.upd b .dead).upd H.n (.at c 0 ez z)):=λx hx=>by{by_cases e:x=b;{subst e;exact .inr mb};{exact .inl (mo x e λI=>by subst I;exact hx h.fresh)}};have E:∀x c' p' V z',(μ.upd b .dead).upd H.n (.at c 0 ez z) x=.at c' p' V z'->(x=H.n/\c'=c/\p'=0/\V=ez/\z'=z)\/(x≠b/\x≠H.n/\μ x=.at c' p' V z'):=by{intro x c' p' V z' hx;by_cases e:x=H.n;{subst e;rw[mn] at hx;injection hx with F a2 a3 a4;exact .inl ⟨rfl,F.symm,a2.symm,a3.symm,a4.symm⟩};{by_cases I:x=b;{subst I;rw[mb] at hx;cases hx};{rw[mo x I e] at hx;exact .inr ⟨I,e,hx⟩}}};have Z:∀x,x<H.n->bz ((H.put b .dead).new o).get x->bz H.get x:=λx hx ad=>by{obtain⟨y,hy,hz⟩:=ad;by_cases e:x=b;{subst e;exact U};{exact⟨y,by rw[<-old x e Om];exact hy,hz⟩}};refine⟨⟨λx hx=>?_,λx x' c1 p1 O z1 p2 ag z2 hx T a7=>?_,λx c1 p1 O z1 hx=>?_,λi hi=>?_,λx hx=>?_⟩,⟨aE,by rw[af,ae];omega,λx hx e=>?_,λx bh hx=>⟨mo x Om Om,old x Om Om⟩,λx hx ad=>Z x hx ad,λx c1 p1 O z1 hx e=>?_,λx h1 h2=>?_,Om,λc1 a9 bc=>Y c1 λe=>?_,e1,e2,e3,e4⟩⟩;{rw[af,ae];by_cases e:x=H.n;{omega};{by_cases I:x=b;{omega};{rw[mo x I e] at hx;have:=h.lt x hx;omega}}};{rcases E _ _ _ _ _ hx with⟨a,F,-⟩|⟨a,a',F⟩;{rcases E _ _ _ _ _ T with⟨d,-⟩|⟨d,d',d1⟩;{rw[a,d]};{subst F;exact absurd (h.inj b x' c1 0 ez z p2 ag z2 hb d1 U).symm d}};{have a6:=h.lt x (by rw[F];exactλx=>by cases x);rcases E _ _ _ _ _ T with⟨d,d1,-⟩|⟨d,d',d1⟩;{subst d1;exact absurd (h.inj b x c1 0 ez z p1 O z1 hb F U).symm a};{exact h.inj x x' c1 p1 O z1 p2 ag z2 F d1 (Z x a6 a7)}}};{rcases E _ _ _ _ _ hx with⟨a,F,a2,a3,a4⟩|⟨a,a',F⟩;{subst a F a2 a3 a4;exact⟨o,a8,ho⟩};{obtain⟨y,hy,hr⟩:=h.obj x c1 p1 O z1 F;refine⟨y,by rw[old x a a'];exact hy,?_⟩;rw[Y c1 λec=>a ?_];{exact hr.mono aE};{subst ec;exact(h.inj b x c1 0 ez z p1 O z1 hb F U).symm}}};{have hn:μ i≠.no:=by{rw[h.glob i hi];exactλx=>by cases x};rw[mo i Om (Oh (h.lt i hn))];exact h.glob i hi};{by_cases e:x=b;{subst e;exact aS};{by_cases I:x=H.n;{subst I;rw[mn] at hx;cases hx};{rw[mo x e I] at hx;rw[old x e I];exact h.ded x hx}}};{by_cases I:x=b;{subst I;rw[hb] at e;cases e};{rw[mo x I Om];exact e}};{rcases E _ _ _ _ _ e with⟨a,F,-⟩|⟨a,a',F⟩;{subst F;exact .inr ⟨b,0,ez,z,a5,a0,U,hb⟩};{exact absurd (h.lt x (by rw[F];exactλy=>by cases y)) Om}};{have e:x=H.n:=by{rw[af,ae] at h2;omega};subst e;rw[mn];exactλx=>by cases x};grind
end
section
variable {P:Program}{g0 lo:Nat}{μ:Mu}{H:Heap}{w:World}
def Gives(P:Program)(g0 lo:Nat)(μ:Mu)(H:Heap)(w:World)(s:Sem Next)(v:IV)(H':Heap):Prop:=∃(nx:Next) (v':Value) (w':World) (E:Mu),s.run P w=.ok nx w'/\(nx=.value v'\/(nx=.skip/\v'=undef))/\ Rel P g0 E H'.get H'.n w'/\Post lo μ H.get H.n w E H'.get H'.n w'/\VR E v v'
def Gives.pure(h:Rel P g0 μ H.get H.n w){s:Sem Next}{v:IV}{v':Value}(hr:s.run P w=.ok (.value v') w)(E:VR μ v v'):Gives P g0 lo μ H w s v H:=⟨_,v',w,μ,hr,.inl rfl,h,Post.refl h,E⟩
def b9{x:IV}{l:List Value}(h:VRs μ [x] l):∃a,l=[a]/\VR μ x a:=by obtain⟨a,l1,rfl,E,F⟩:=h;cases F;exact⟨a,rfl,E⟩
def bZ{x y:IV}{l:List Value}(h:VRs μ [x,y] l):∃a b,l=[a,b]/\VR μ x a/\VR μ y b:=by obtain⟨a,l1,rfl,E,F⟩:=h;obtain⟨b,rfl,I⟩:=b9 F;exact⟨a,b,rfl,E,I⟩
def oW{x y z:IV}{l:List Value}(h:VRs μ [x,y,z] l):∃a b c,l=[a,b,c]/\VR μ x a/\VR μ y b/\VR μ z c:=by obtain⟨a,l1,rfl,F,E⟩:=h;obtain⟨b,c,rfl,I,O⟩:=bZ E;grind
def jl{k:IntKind}{n:Int}{v:Value}(h:VR μ (.int k n) v):v=.int k n:=h
def mu{b:Bool}{v:Value}(h:VR μ (.bool b) v):v=.bool b:=h
def PC{s:List UInt8}{v:Value}(h:VR μ (.str s) v):v=.string ⟨⟨s⟩⟩:=h
def bI{t:TypeId}{n:Nat}(h:bk P t=some n)(w:World):(sizeOf t).run P w=.ok n w:=by unfold bk at h;cases hi:P.info? t<;>simp_all[sizeOf,typeInfo]
def Ao{t:TypeId}{n:Nat}(h:bk P t=some n):∃i,P.info? t=some i/\i.size=n:=by unfold bk at h;cases hi:P.info? t with|none=>rw[hi] at h;cases h|some i=>rw[hi] at h;injection h with h;exact⟨i,rfl,h⟩
def yz{t:TypeId}{n:Nat}(h:m7 P t=some n):∃i,P.info? t=some i/\i.bytes=n:=by unfold m7 at h;cases hi:P.info? t with|none=>rw[hi] at h;cases h|some i=>rw[hi] at h;injection h with h;exact⟨i,rfl,h⟩
def yt:∀(n:Nat)(v:Value)(x:IV),sN n v=some x->∀μ:Mu,VR μ x v:=by intro n;induction n with|zero=>intro v x h;cases h|succ n I=>intro v x h μ;unfold sN at h;split at h;{injection h with h;subst h;rfl};{injection h with h;subst h;rfl};{injection h with h;subst h;rfl};{injection h with h;subst h;rfl};{injection h with h;subst h;rfl};{injection h with h;subst h;rfl};{injection h with h;subst h;rfl};{injection h with h;subst h;rfl};{rename_i cs;cases hm:List.mapM (sN n) cs.toList with|none=>rw[hm] at h;cases h|some l=>rw[hm] at h;injection h with h;subst h;refine⟨cs,rfl,?_⟩;have key:∀(vs:List Value)(l:List IV),vs.mapM (sN n)=some l->VRs μ l vs:=by{intro vs;induction vs with|nil=>intro l hl;simp at hl;subst hl;rfl|cons a vs F=>intro l hl;simp only[te] at hl;cases E:sN n a with|none=>rw[E] at hl;cases hl|some x=>rw[E] at hl;cases hr:vs.mapM (sN n) with|none=>rw[hr] at hl;cases hl|some xs=>rw[hr] at hl;injection hl with hl;subst hl;exact⟨a,vs,rfl,I a x E μ,F xs hr⟩};exact key _ _ hm};{cases h}
def jv{t:TypeId}{z:IV}(h:iS P t=some z):∃i E,P.info? t=some i/\i.zero=some E/\∀μ:Mu,VR μ z E:=by unfold iS at h;cases hi:P.info? t with|none=>rw[hi] at h;cases h|some i=>rw[hi] at h;cases F:i.zero with|none=>simp[F] at h|some E=>simp[F] at h;exact⟨i,E,rfl,F,yt 3 E z h⟩
def VR.cells_{x:IV}{v:Value}(h:VR μ x v):VRs μ x.cells v.cells.toList:=by cases x with|agg l=>obtain⟨F,rfl,hl⟩:=h;exact hl|ptr b o=>obtain⟨a,rfl,E⟩:=h;exact⟨_,_,rfl,⟨a,rfl,E⟩,rfl⟩|slice b o n lb ex=>obtain⟨a,c,rfl,E⟩:=h;exact⟨_,_,rfl,⟨a,c,rfl,E⟩,rfl⟩|map b=>obtain⟨a,rfl,E⟩:=h;exact⟨_,_,rfl,⟨a,rfl,E⟩,rfl⟩|fn f a b=>obtain⟨l,r,rfl,E⟩:=h;exact⟨_,_,rfl,⟨l,r,rfl,E⟩,rfl⟩|yield b=>obtain⟨a,rfl,E⟩:=h;exact⟨_,_,rfl,⟨a,rfl,E⟩,rfl⟩|iface t x=>obtain⟨a,rfl,E⟩:=h;exact⟨_,_,rfl,⟨a,rfl,E⟩,rfl⟩|tuple l=>obtain⟨F,rfl,hl⟩:=h;exact⟨_,_,rfl,⟨F,rfl,hl⟩,rfl⟩|bool b=>cases h;exact⟨_,_,Rr⟩|int k n=>cases h;exact⟨_,_,Rr⟩|str s=>cases h;exact⟨_,_,Rr⟩|nilPtr=>cases h;exact⟨_,_,Rr⟩|nilSlice=>cases h;exact⟨_,_,Rr⟩|nilMap=>cases h;exact⟨_,_,Rr⟩|nilFunc=>cases h;exact⟨_,_,Rr⟩|nilIface=>cases h;exact⟨_,_,Rr⟩
def VR.one_cell{x:IV}{v:Value}(h:VR μ x v)(ho:x.one=true):v.oneCell'=true:=by cases x with|agg l=>cases ho|tuple l=>cases ho|ptr b o=>obtain⟨a,rfl,E⟩:=h;rfl|slice b o n lb ex=>obtain⟨a,c,rfl,E⟩:=h;rfl|map b=>obtain⟨a,rfl,E⟩:=h;rfl|fn f a b=>obtain⟨l,r,rfl,E⟩:=h;rfl|yield b=>obtain⟨a,rfl,E⟩:=h;rfl|iface t x=>obtain⟨a,rfl,E⟩:=h;rfl|_=>cases h;rfl
def VRs.one_cells:∀{l:List IV}{F:List Value},VRs μ l F->l.all IV.one=true->∀v∈F,v.oneCell'=true|[],_,h,_,v,E=>by cases h;cases E|x::xs,_,h,ho,v,E=>by obtain⟨y,ys,rfl,I,O⟩:=h;simp only[nl,bp] at ho;cases E with|head=>exact I.one_cell ho.1|tail _ E=>exact VRs.one_cells O ho.2 v E
end
section
variable {P:Program}{g0 lo:Nat}{μ:Mu}{H:Heap}{w:World}{ρ:Operand->Value}{type:TypeId}{pos:String}{dst:Option Tmp}{after:Array Edge}{guard:Option (Nat×Bool)}{xs:List IV}{v:IV}{H':Heap}
def TO(h:Rel P g0 μ H.get H.n w){x:Operand}(E:ev1 .move xs lo H=some (v,H'))(hx:VRs μ xs [ρ x]):Gives P g0 lo μ H w (execOp ρ ⟨dst,.move x,type,pos,after,guard⟩) v H'/\Gives P g0 lo μ H w (execOp ρ ⟨dst,.assign x,type,pos,after,guard⟩) v H':=by simp only[ev1] at E;split at E;{injection E with E;injection E with F I;subst F I;obtain⟨y,T,O⟩:=b9 hx;simp_all[Gives.pure,execOp]};{cases E}
def aaV(h:Rel P g0 μ H.get H.n w){c a b:Operand}(E:ev1 .pick xs lo H=some (v,H'))(hx:VRs μ xs [ρ c,ρ a,ρ b]):Gives P g0 lo μ H w (execOp ρ ⟨dst,.pick c a b,type,pos,after,guard⟩) v H':=by simp only[ev1] at E;split at E;{rename_i c1 Y b1;injection E with E;injection E with O T;subst O T;obtain⟨Z,y2,y3,I,F,U,V⟩:=oW hx;simp only[iE,and_true] at I;obtain⟨rfl,rfl,rfl⟩:=I;cases c1;{exact Gives.pure h (v':=ρ b) (by simp[execOp,mu F,asBool]) (by simpa using V)};{exact Gives.pure h (v':=ρ a) (by simp[execOp,mu F,asBool]) (by simpa using U)}};{cases E}
def LP(h:Rel P g0 μ H.get H.n w){x:Operand}(F:ev1 .nilCheck xs lo H=some (v,H'))(hx:VRs μ xs [ρ x]):Gives P g0 lo μ H w (execOp ρ ⟨dst,.nilCheck x,type,pos,after,guard⟩) v H':=by simp only[ev1] at F;split at F;{rename_i a;obtain⟨y,I,E⟩:=b9 hx;injection I with I;subst I;cases a<;>simp only[reduceCtorEq] at F<;>(injection F with F;injection F with O T;subst O T);(case fn f l r=>obtain⟨U,V,e,hl⟩:=E;exact Gives.pure h (v':=ρ x) (by simp[execOp,e]) ⟨U,V,e,hl⟩);(case ptr b o=>obtain⟨a,e,hl⟩:=E;exact Gives.pure h (v':=ρ x) (by simp[execOp,e]) ⟨a,e,hl⟩);(case slice b o n lb ex=>obtain⟨a,c,e,hl⟩:=E;exact Gives.pure h (v':=ρ x) (by simp[execOp,e]) ⟨a,c,e,hl⟩);(case map b=>obtain⟨a,e,hl⟩:=E;exact Gives.pure h (v':=ρ x) (by simp[execOp,e]) ⟨a,e,hl⟩);(case iface t u=>obtain⟨a,e,hl⟩:=E;exact Gives.pure h (v':=ρ x) (by simp[execOp,e]) ⟨a,e,hl⟩);(case agg l=>obtain⟨a,e,hl⟩:=E;exact Gives.pure h (v':=ρ x) (by simp[execOp,e]) ⟨a,e,hl⟩);(case tuple l=>obtain⟨a,e,hl⟩:=E;exact Gives.pure h (v':=ρ x) (by simp[execOp,e]) ⟨a,e,hl⟩);all_goals have e:ρ x=_:=E;exact Gives.pure h (v':=ρ x) (by simp[execOp,e]) e};{cases F}
def Wp{op:BinOp}{k F:IntKind}{a b:Int}{r:IV}(hr:pw op (.int k a) (.int F b)=some r)(t:TypeId):∃I:Value,(binOp op t (.int k a) (.int F b)).run P w=.ok I w/\∀μ:Mu,VR μ r I:=by cases op<;>simp only[pw] at hr;(case shl=>by_cases E:b<0;{grind};{rw[if_neg E] at hr;injection hr with hr;subst hr;exact⟨_,by simp[binOp,Op.shift,E],λ_=>rfl⟩});(case shr=>by_cases E:b<0;{grind};{rw[if_neg E] at hr;injection hr with hr;subst hr;exact⟨_,by simp[binOp,Op.shift,E],λ_=>rfl⟩});all_goals by_cases O:k=F;{subst O;simp only[if_true] at hr;first|(injection hr with hr;subst hr;exact⟨_,by simp[binOp,Op.intArith,Op.intBits,Op.intCmp]<;>rfl,λ_=>rfl⟩)|(by_cases E:b=0;{grind};{rw[if_neg E] at hr;injection hr with hr;subst hr;exact⟨_,by simp[binOp,Op.intDiv,E]<;>rfl,λ_=>rfl⟩})};{grind}
def Ko{s:ByteArray}{l:List UInt8}(h:s.data.toList=l):s=⟨⟨l⟩⟩:=by subst h;rfl
def PV(l:List UInt8):(ByteArray.mk (Array.mk l)).toList=l:=by rw[ByteArray.toList_eq]
def Wo{op:BinOp}{a b:List UInt8}{r:IV}(hr:pw op (.str a) (.str b)=some r)(t:TypeId):∃E:Value,(binOp op t (.string ⟨⟨a⟩⟩) (.string ⟨⟨b⟩⟩)).run P w=.ok E w/\∀μ:Mu,VR μ r E:=by cases op<;>simp only[pw,reduceCtorEq] at hr;(case add=>split at hr;{rename_i hl;injection hr with hr;subst hr;refine⟨.string (⟨⟨a⟩⟩++⟨⟨b⟩⟩),?_,λ_=>?_⟩;{have T:¬((((ByteArray.mk ⟨a⟩).size+(ByteArray.mk ⟨b⟩).size:Nat):Int)>IntKind.i64.max):=by{have F:(ByteArray.mk ⟨a⟩).size=a.length:=rfl;have I:(ByteArray.mk ⟨b⟩).size=b.length:=rfl;have O:IntKind.i64.max=9223372036854775807:=rfl;rw[F,I,O];omega};simp_all[binOp,Op.stringOp,if_neg]};{show Value.string _=Value.string _;exact congrArg Value.string (Ko (by simp))}};{cases hr});all_goals injection hr with hr;subst hr;exact⟨_,by simp[binOp,Op.stringOp,PV]<;>rfl,λ_=>rfl⟩
def jC{op:BinOp}{t:TypeId}{x y:Operand}{a b:Value}(E:∀cs,a≠.agg cs)(F:a≠.nilIface):(eqGuard op t x y a b).run P w=.ok () w:=by simp_all[eqGuard]
def TW(h:Rel P g0 μ H.get H.n w){op:BinOp}{t t2:TypeId}{x y:Operand}(F:ev1 (.bin op) xs lo H=some (v,H'))(hx:VRs μ xs [ρ x,ρ y]):Gives P g0 lo μ H w (execOp ρ ⟨dst,.binOp op t x y t2,type,pos,after,guard⟩) v H':=by simp only[ev1] at F;split at F;{rename_i a b;obtain⟨y1,y2,V,T,U⟩:=bZ hx;simp only[iE,and_true] at V;obtain⟨rfl,rfl⟩:=V;cases hr:pw op a b with|none=>rw[hr] at F;cases F|some r=>rw[hr] at F;injection F with F;injection F with Y Z;subst Y Z;cases a with|int k n=>(cases b with|int k' m=>obtain⟨O,E,I⟩:=Wp (P:=P) (w:=w) hr t;refine Gives.pure h (v':=O) ?_ (I μ);simp only[execOp,jl T,jl U];simp[jC,E]|_=>cases op<;>simp[pw] at hr)|str s=>(cases b with|str s'=>obtain⟨O,E,I⟩:=Wo (P:=P) (w:=w) hr t;refine Gives.pure h (v':=O) ?_ (I μ);simp only[execOp,PC T,PC U];simp[jC,E]|_=>cases op<;>simp[pw] at hr)|_=>cases op<;>simp[pw] at hr};{cases F}
def TT(h:Rel P g0 μ H.get H.n w){op:BinOp}{neg:Bool}{t t2:TypeId}{x y:Operand}(ht:P.underlying t=some .bool)(O:op=.eql/\neg=false\/op=.neq/\neg=true)(F:ev1 (.eqBool neg) xs lo H=some (v,H'))(hx:VRs μ xs [ρ x,ρ y]):Gives P g0 lo μ H w (execOp ρ ⟨dst,.binOp op t x y t2,type,pos,after,guard⟩) v H':=by simp only[ev1] at F;split at F;{rename_i a b;injection F with F;injection F with Y Z;subst Y Z;obtain⟨y1,y2,V,T,U⟩:=bZ hx;simp only[iE,and_true] at V;obtain⟨rfl,rfl⟩:=V;have I:∀d:Nat,(Op.equalIn (d+1) t (.bool a) (.bool b)).run P w=.ok (a==b) w:=λd=>by{simp[Op.equalIn,run_underlying ht]};have E:(Op.equal t (.bool a) (.bool b)).run P w=.ok (a==b) w:=I 9999;rcases O with⟨rfl,rfl⟩|⟨rfl,rfl⟩;{refine Gives.pure h (v':=.bool (a==b)) ?_ (by simp[VR]);simp only[execOp,mu T,mu U];simp[jC,binOp,E]};{refine Gives.pure h (v':=.bool (!(a==b))) ?_ (by simp[VR]);simp only[execOp,mu T,mu U];simp[jC,binOp,E]}};{cases F}
def ag8(h:Rel P g0 μ H.get H.n w){op:UnOp}{t:TypeId}{x:Operand}(E:ev1 (.un op) xs lo H=some (v,H'))(hx:VRs μ xs [ρ x]):Gives P g0 lo μ H w (execOp ρ ⟨dst,.unOp op t x,type,pos,after,guard⟩) v H':=by simp only[ev1] at E;split at E;{rename_i a;obtain⟨y,F,I⟩:=b9 hx;injection F with F;subst F;cases hr:unI op a with|none=>rw[hr] at E;cases E|some r=>rw[hr] at E;injection E with E;injection E with O T;subst O T;cases a with|int k n=>have e:=jl I;cases op<;>simp[unI] at hr<;>subst hr;{exact Gives.pure h (by simp[execOp,e,Op.unary,Op.intArith]<;>rfl) rfl};{exact Gives.pure h (by simp[execOp,e,Op.unary,Op.intBits]<;>rfl) rfl}|bool b=>have e:=mu I;cases op<;>simp[unI] at hr;subst hr;exact Gives.pure h (by simp[execOp,e,Op.unary]<;>rfl) rfl|_=>simp[unI] at hr};{cases E}
def aa0(h:Rel P g0 μ H.get H.n w){k k0:IntKind}{s d:TypeId}{x:Operand}(hs:P.underlying s=some (.int k0))(hd:P.underlying d=some (.int k))(E:ev1 (.conv k) xs lo H=some (v,H'))(hx:VRs μ xs [ρ x]):Gives P g0 lo μ H w (execOp ρ ⟨dst,.convert s d x,type,pos,after,guard⟩) v H':=by simp only[ev1] at E;split at E;{rename_i U n;injection E with E;injection E with I O;subst I O;obtain⟨y,F,T⟩:=b9 hx;injection F with F;subst F;exact Gives.pure h (by simp[execOp,jl T,convert,run_underlying hs,run_underlying hd,Conv.intToInt]<;>rfl) rfl};{cases E}
def aaX(h:Rel P g0 μ H.get H.n w){f:FuncId}{E cap:Array Operand}(F:ev1 (.mkfn f E.size) xs lo H=some (v,H'))(hx:VRs μ xs ((E++cap).toList.map ρ)):Gives P g0 lo μ H w (execOp ρ ⟨dst,.makeFunc (.func f) E cap,type,pos,after,guard⟩) v H':=by simp only[ev1] at F;injection F with F;injection F with I O;subst I O;refine Gives.pure h (v':=.func (.func f) (E.map ρ) (cap.map ρ)) (by simp[execOp,Instr.makeFunc]) ⟨_,_,rfl,?_,?_⟩;{have:=hx.take E.size;simp_all[List.take,s9,List.take_append]};{have:=hx.drop E.size;simp_all[List.drop,AU]}
def Qh(h:Rel P g0 μ H.get H.n w){i:Nat}{x:Operand}(E:ev1 (.extract i) xs lo H=some (v,H'))(hx:VRs μ xs [ρ x]):Gives P g0 lo μ H w (execOp ρ ⟨dst,.extract x i,type,pos,after,guard⟩) v H':=by simp only[ev1] at E;split at E;{rename_i l;cases hl:l[i]? with|none=>rw[hl] at E;cases E|some r=>rw[hl] at E;injection E with E;injection E with T U;subst T U;obtain⟨y,O,Y⟩:=b9 hx;injection O with O;subst O;obtain⟨Z,e,hr⟩:=Y;obtain⟨u,V,I⟩:=hr.get hl;have F:Z[i]? =some u:=by{simpa using V};exact Gives.pure h (v':=u) (by simp[execOp,e,Instr.extract,F]) I};{cases E}
end
section
variable {P:Program}{g0 lo:Nat}{μ:Mu}{H:Heap}{w:World}{ρ:Operand->Value}{type:TypeId}{pos:String}{dst:Option Tmp}{after:Array Edge}{guard:Option (Nat×Bool)}{xs:List IV}{v:IV}{H':Heap}
def xH{t:TypeId}{n:Option Nat}(h:yU P t=some n):(n=none/\(∀w:World,(isAgg t).run P w=.ok false w))\/(∃k,n=some k/\bk P t=some k/\(∀w:World,(isAgg t).run P w=.ok true w)):=by unfold yU at h;cases E:P.underlying t with|none=>simp[E] at h|some d=>cases hs:bk P t with|none=>cases d<;>simp[E,hs] at h|some k=>cases d<;>simp[E,hs] at h<;>subst h<;> first|exact .inl ⟨rfl,λw=>by simp[isAgg,run_underlying E]⟩|exact .inr ⟨k,rfl,rfl,λw=>by simp[isAgg,run_underlying E]⟩
def Mk{t:TypeId}{n:Option Nat}(V:yU P t=some n){cs:List IV}{F:Array Value}(T:VRs μ cs F.toList){off:Nat}{r:IV}(I:off+n.getD 1<=cs.length)(hr:ah n ((cs.drop off).take (n.getD 1))=some r):∃U:Value,(part t F off).run P w=.ok U w/\VR μ r U:=by rcases xH V with⟨rfl,E⟩|⟨k,rfl,hs,E⟩;{simp only[FM] at hr I;have O:off<cs.length:=Om;have e:(cs.drop off).take 1=[cs[off]]:=by{rw[lN O];rfl};rw[e] at hr;injection hr with hr;subst hr;obtain⟨y,Z,Y⟩:=T.get (i:=off) (x:=cs[off]) (bQ O);simp_all[part]};{injection hr with hr;subst hr;refine⟨.agg (F.extract off (off+k)),by simp[part,E,bI hs],_,rfl,?_⟩;have:=(T.drop off).take k;simp_all[Ge]}
def GE{t:TypeId}{i:Nat}{f:Field}(h:vp P t i=some f):∃fs:Array Field,P.underlying t=some (.struct fs)/\fs[i]? =some f:=by grind[vp]
theorem zu(c p n:Nat):(⟨c,p,none⟩:Addr).add n=⟨c,p+n,none⟩:=by grind[Addr.add]
def LocR.add{b o n:Nat}{a:Addr}(h:LocR μ b o a):LocR μ b (o+n) (a.add n):=by grind[LocR,zu,Nat.add_assoc]
def Iw(h:Rel P g0 μ H.get H.n w){t:TypeId}{x:Operand}{i:Nat}{f:Field}{n:Nat}(T:vp P t i=some f)(hs:bk P f.type=some n)(hn:n≠0)(E:ev1 (.fieldAddr f.offset) xs lo H=some (v,H'))(hx:VRs μ xs [ρ x]):Gives P g0 lo μ H w (execOp ρ ⟨dst,.fieldAddr t x i,type,pos,after,guard⟩) v H':=by obtain⟨fs,U,hi⟩:=GE T;simp only[ev1] at E;split at E;{rename_i b o;injection E with E;injection E with I O;subst I O;obtain⟨y,F,a,e,hl⟩:=b9 hx;injection F with F;subst F;exact Gives.pure h (v':=.pointer (some (a.add f.offset))) (by simp_all[execOp,Instr.fieldAt,run_underlying,Instr.sureAddr,fieldPlace,bI]) ⟨_,rfl,hl.add⟩};{cases E}
def SlR.loc{b o cap:Nat}{ex:Bool}{a:Addr}(h:SlR μ b o ex cap a)(E:cap≠0):LocR μ b o a:=by grind[SlR,LocR]
def XI(h:Rel P g0 μ H.get H.n w){t e:TypeId}{x i:Operand}{n:Nat}(Z:P.underlying t=some (.slice e))(hs:bk P e=some n)(E:ev1 (.idxSl n) xs lo H=some (v,H'))(hx:VRs μ xs [ρ x,ρ i]):Gives P g0 lo μ H w (execOp ρ ⟨dst,.indexAddr t x i,type,pos,after,guard⟩) v H':=by simp only[ev1] at E;split at E;{rename_i b o len lb ex k j;split at E;{rename_i Y;injection E with E;injection E with I T;subst I T;obtain⟨y1,y2,O,⟨a,cap,I,V,hl⟩,U⟩:=bZ hx;simp only[iE,and_true] at O;obtain⟨rfl,rfl⟩:=O;have F:cap≠0:=by{obtain⟨c1,c2,_⟩:=V;omega};exact Gives.pure h (v':=.pointer (some (a.add (j.toNat*n)))) (by simp[execOp,Instr.indexAt,jl U,asIntOf,run_underlying Z,I,Y,bI hs]) ⟨_,rfl,(hl.loc F).add⟩};{cases E}};{cases E}
def Fw(h:Rel P g0 μ H.get H.n w){t e:TypeId}{x i:Operand}{len n:Nat}(V:P.underlying t=some (.array len e))(hs:bk P e=some n)(E:ev1 (.idxArrAddr len n) xs lo H=some (v,H'))(hx:VRs μ xs [ρ x,ρ i]):Gives P g0 lo μ H w (execOp ρ ⟨dst,.indexAddr t x i,type,pos,after,guard⟩) v H':=by simp only[ev1] at E;split at E;{rename_i b o k j;split at E;{rename_i U;injection E with E;injection E with F O;subst F O;obtain⟨Y,Z,I,⟨a,F,hl⟩,T⟩:=bZ hx;simp only[iE,and_true] at I;obtain⟨rfl,rfl⟩:=I;exact Gives.pure h (v':=.pointer (some (a.add (j.toNat*n)))) (by simp[execOp,Instr.indexAt,jl T,asIntOf,run_underlying V,F,Instr.sureAddr,U,bI hs]) ⟨_,rfl,hl.add⟩};{cases E}};{cases E}
def TR(h:Rel P g0 μ H.get H.n w){t e:TypeId}{x i:Operand}{len k:Nat}{n:Option Nat}(hu:P.underlying t=some (.array len e))(hs:bk P e=some k)(ha:yU P e=some n)(E:ev1 (.idxArr len k n) xs lo H=some (v,H'))(hx:VRs μ xs [ρ x,ρ i]):Gives P g0 lo μ H w (execOp ρ ⟨dst,.index t x i,type,pos,after,guard⟩) v H':=by simp only[ev1] at E;split at E;{rename_i cs kd j;split at E;{rename_i hj;obtain⟨T,U,F⟩:=hj;cases hr:ah n ((cs.drop (j.toNat*k)).take (n.getD 1)) with|none=>rw[hr] at E;cases E|some r=>rw[hr] at E;injection E with E;injection E with O Y;subst O Y;obtain⟨y1,y2,V,⟨l',O,hl⟩,Z⟩:=bZ hx;simp only[iE,and_true] at V;obtain⟨rfl,rfl⟩:=V;obtain⟨r',I,hv⟩:=Mk (P:=P) (w:=w) ha hl F hr;exact Gives.pure h (v':=r') (by simp[execOp,Instr.index,jl Z,asIntOf,run_underlying hu,O,T,U,bI hs,I]) hv};{cases E}};{cases E}
def XH(h:Rel P g0 μ H.get H.n w){t e:TypeId}{args:Array Operand}{ts:Array TypeId}(T:ts=#[t])(U:P.underlying t=some (.slice e))(F:ev1 .lenSl xs lo H=some (v,H'))(hx:VRs μ xs (args.toList.map ρ)):Gives P g0 lo μ H w (execOp ρ ⟨dst,.call ⟨.builtin .len,args,ts⟩,type,pos,after,guard⟩) v H':=by simp only[ev1] at F;split at F;{rename_i x;obtain⟨y,Y,V⟩:=b9 hx;have E:args.map ρ=#[y]:=by{grind};subst T;cases x with|nilSlice=>injection F with F;injection F with I O;subst I O;cases V;exact Gives.pure h (v':=.int .i64 0) (by simp[execOp,resolve,invoke,builtin,E,Builtin.len_,run_underlying U,goInt]) rfl|slice b o n lb ex=>injection F with F;injection F with I O;subst I O;obtain⟨a,c,rfl,_⟩:=V;exact Gives.pure h (v':=.int .i64 n) (by simp[execOp,resolve,invoke,builtin,E,Builtin.len_,run_underlying U,goInt]) rfl|_=>simp at F};{cases F}
def aew(h:Rel P g0 μ H.get H.n w){t e:TypeId}{args:Array Operand}{ts:Array TypeId}(T:ts=#[t])(U:P.underlying t=some (.slice e))(F:ev1 .cap xs lo H=some (v,H'))(hx:VRs μ xs (args.toList.map ρ)):Gives P g0 lo μ H w (execOp ρ ⟨dst,.call ⟨.builtin .cap,args,ts⟩,type,pos,after,guard⟩) v H':=by simp only[ev1] at F;split at F;{rename_i x;obtain⟨y,Z,V⟩:=b9 hx;have E:args.map ρ=#[y]:=by{grind};subst T;cases x with|nilSlice=>injection F with F;injection F with I O;subst I O;cases V;exact Gives.pure h (v':=.int .i64 0) (by simp[execOp,resolve,invoke,builtin,E,Builtin.cap_,run_underlying U,goInt]) rfl|slice b o n lb ex=>(cases ex with|false=>simp at F|true=>injection F with F;injection F with I O;subst I O;obtain⟨a,c,rfl,Y,_⟩:=V;have:c=lb:=Y.2.2.2 rfl;subst this;exact Gives.pure h (v':=.int .i64 c) (by simp[execOp,resolve,invoke,builtin,E,Builtin.cap_,run_underlying U,goInt]) rfl)|_=>simp at F};{cases F}
def aeu(h:Rel P g0 μ H.get H.n w){args:Array Operand}{ts:Array TypeId}(E:ev1 .min xs lo H=some (v,H'))(hx:VRs μ xs (args.toList.map ρ)):Gives P g0 lo μ H w (execOp ρ ⟨dst,.call ⟨.builtin .min,args,ts⟩,type,pos,after,guard⟩) v H':=by simp only[ev1] at E;split at E;{rename_i k a V b;split at E;{injection E with E;injection E with I O;subst I O;obtain⟨Z,y2,Y,T,U⟩:=bZ hx;cases T;cases U;have F:args.map ρ=#[.int k a,.int V b]:=by{grind};exact Gives.pure h (v':=.int k (if b<a then b else a)) (by simp[execOp,resolve,invoke,builtin,F,Builtin.min_,Builtin.min2]) rfl};{cases E}};{cases E}
def aev(h:Rel P g0 μ H.get H.n w){args:Array Operand}{ts:Array TypeId}(E:ev1 .max xs lo H=some (v,H'))(hx:VRs μ xs (args.toList.map ρ)):Gives P g0 lo μ H w (execOp ρ ⟨dst,.call ⟨.builtin .max,args,ts⟩,type,pos,after,guard⟩) v H':=by simp only[ev1] at E;split at E;{rename_i k a V b;split at E;{injection E with E;injection E with I O;subst I O;obtain⟨Z,y2,Y,T,U⟩:=bZ hx;cases T;cases U;have F:args.map ρ=#[.int k a,.int V b]:=by{grind};exact Gives.pure h (v':=.int k (if b>a then b else a)) (by simp[execOp,resolve,invoke,builtin,F,Builtin.max_,Builtin.max2]) rfl};{cases E}};{cases E}
def eG{y i:Nat}{x:IV}{u:Value}(h:bS y x=some i)(F:VR μ x u)(c:BoundsCode)(E:Nat)(O:y<=E)(w:World):(Instr.sliceBound u E c).run P w=.ok i w/\i<=y:=by cases x with|int k n=>cases F;simp only[bS] at h;split at h;{rename_i hn;injection h with h;subst h;have I:0<=n/\n<=(E:Int):=Om;simp_all[Instr.sliceBound,asIntOf]};{cases h}|_=>simp[bS] at h
def Cs{isSl:Bool}{len top cap:Nat}{l:List IV}{a b:Nat}{m:Option Nat}{Y hi mx:Option Operand}(E:bj len top Y.isSome hi.isSome mx.isSome l=some (a,b,m))(ad:len<=top)(hc:top<=cap)(hv:VRs μ l ((Y.toArray++hi.toArray++mx.toArray).toList.map ρ))(w:World):(Instr.sliceBounds isSl len cap (Y.map ρ) (hi.map ρ) (mx.map ρ)).run P w=.ok (a,b,m.getD cap) w/\a<=b/\b<=m.getD top/\(∀k,m=some k->k<=top):=by cases Y with|none=>(cases hi with|none=>(cases mx with|none=>(match l,E with|[],E=>injection E with E;simp only[kj] at E;obtain⟨rfl,rfl,rfl⟩:=E;exact⟨by simp[Instr.sliceBounds],Om,by simpa using ad,λ_ h=>by cases h⟩)|some z=>simp[bj] at E)|some y=>cases mx with|none=>(match l,E with|[Z],E=>obtain⟨u,T,I⟩:=b9 hv;simp at T;subst T;simp only[bj,wS,AY] at E;cases F:bS top Z with|none=>rw[F] at E;cases E|some i=>rw[F] at E;injection E with E;simp only[kj] at E;obtain⟨rfl,rfl,rfl⟩:=E;have hr:=eG (P:=P) F I;exact⟨by simp_all[Instr.sliceBounds],Om,by simpa using (hr .index cap hc w).2,λ_ h=>by cases h⟩)|some z=>match l,E with|[Z,x2],E=>obtain⟨u,u2,T,I,O⟩:=bZ hv;simp at T;obtain⟨rfl,rfl⟩:=T;simp only[bj,wS,AY] at E;cases U:bS top x2 with|none=>rw[U] at E;cases E|some j=>rw[U] at E;simp only[bH] at E;cases F:bS j Z with|none=>rw[F] at E;cases E|some i=>rw[F] at E;injection E with E;simp only[kj] at E;obtain⟨rfl,rfl,rfl⟩:=E;have hr:=eG (P:=P) F I;have V:=eG (P:=P) U O;exact⟨by simp_all[Instr.sliceBounds,an],Om,by simpa using (hr .index j (an _) w).2,λk h=>by injection h with h;subst h;exact(V .index cap hc w).2⟩)|some q=>cases hi with|none=>(cases mx with|none=>(match l,E with|[Z],E=>obtain⟨u,T,I⟩:=b9 hv;simp at T;subst T;simp only[bj,wS,AY] at E;cases F:bS len Z with|none=>rw[F] at E;cases E|some i=>rw[F] at E;injection E with E;simp only[kj] at E;obtain⟨rfl,rfl,rfl⟩:=E;have hr:=eG (P:=P) F I;exact⟨by simp_all[Instr.sliceBounds,an],by simpa using (hr .index len (an _) w).2,by simpa using ad,λ_ h=>by cases h⟩)|some z=>simp[bj] at E)|some y=>cases mx with|none=>(match l,E with|[Z,x2],E=>obtain⟨u,u2,T,I,O⟩:=bZ hv;simp at T;obtain⟨rfl,rfl⟩:=T;simp only[bj,wS,AY] at E;cases U:bS top x2 with|none=>rw[U] at E;cases E|some j=>rw[U] at E;simp only[bH] at E;cases F:bS j Z with|none=>rw[F] at E;cases E|some i=>rw[F] at E;injection E with E;simp only[kj] at E;obtain⟨rfl,rfl,rfl⟩:=E;have hr:=eG (P:=P) F I;have V:=eG (P:=P) U O;exact⟨by simp_all[Instr.sliceBounds,an],(hr .index j (an _) w).2,by simpa using (V .index cap hc w).2,λ_ h=>by cases h⟩)|some z=>match l,E with|[Z,x2,x3],E=>obtain⟨u,u2,u3,T,I,O,ag⟩:=oW hv;simp at T;obtain⟨rfl,rfl,rfl⟩:=T;simp only[bj,wS,AY] at E;cases h3:bS top x3 with|none=>rw[h3] at E;cases E|some k=>rw[h3] at E;simp only[bH] at E;cases U:bS k x2 with|none=>rw[U] at E;cases E|some j=>rw[U] at E;simp only[bH] at E;cases F:bS j Z with|none=>rw[F] at E;cases E|some i=>rw[F] at E;injection E with E;simp only[kj] at E;obtain⟨rfl,rfl,rfl⟩:=E;have hr:=eG (P:=P) F I;have V:=eG (P:=P) U O;have aE:=eG (P:=P) h3 ag;exact⟨by simp_all[Instr.sliceBounds,an],(hr .index j (an _) w).2,by simpa using (V .index k (an _) w).2,λk' h=>by injection h with h;subst h;exact(aE .index cap hc w).2⟩
end
section
variable {P:Program}{g0 lo:Nat}{μ:Mu}{H:Heap}{w:World}{ρ:Operand->Value}{type:TypeId}{pos:String}{dst:Option Tmp}{after:Array Edge}{guard:Option (Nat×Bool)}{xs:List IV}{v:IV}{H':Heap}
def CO(t:TypeId)(x:Operand)(a b c:Option Operand):(Op.slice t x a b c).operands.toList.map ρ=ρ x::((a.toArray++b.toArray++c.toArray).toList.map ρ):=by simp[Op.operands]
def RA(h:Rel P g0 μ H.get H.n w){b c p ez z size:Nat}(E:oI H b size=true)(I:μ b=.at c p ez z):ez=0\/ez=size:=by unfold oI at E;obtain⟨o,ho,hr⟩:=h.obj b c p ez z I;rw[ho] at E;cases o with|cells O e F cs=>cases O;{simp at E;right;rw[hr.2.1,E]};{left;exact hr.1}|_=>simp at E
def aet(h:Rel P g0 μ H.get H.n w){t e:TypeId}{x:Operand}{a b c:Option Operand}{n:Nat}(hu:P.underlying t=some (.slice e))(hs:bk P e=some n)(E:ev1 (.slc n a.isSome b.isSome c.isSome) xs lo H=some (v,H'))(hx:VRs μ xs ((Op.slice t x a b c).operands.toList.map ρ)):Gives P g0 lo μ H w (execOp ρ ⟨dst,.slice t x a b c,type,pos,after,guard⟩) v H':=by rw[CO] at hx;simp only[ev1] at E;split at E;{rename_i s l;obtain⟨y,ys,hy,hv,hl⟩:=hx;simp only[iE] at hy;obtain⟨rfl,rfl⟩:=hy;cases s with|nilSlice=>(simp only at E;cases hb:bj 0 0 a.isSome b.isSome c.isSome l with|none=>rw[hb] at E;cases E|some r=>obtain⟨i,j,m⟩:=r;rw[hb] at E;simp only[bH] at E;split at E;{rename_i a2;obtain⟨rfl,rfl⟩:=a2;injection E with E;injection E with Z V;subst Z V;obtain⟨O,_,_,hm⟩:=Cs (P:=P) (isSl:=true) hb (an _) (an 0) hl w;have a5:m.getD 0=0:=by{cases m with|none=>rfl|some k=>have:=hm k rfl;simp;omega};rw[a5] at O;have a8:ρ x=.slice none 0 0:=hv;exact Gives.pure h (v':=.slice none 0 0) (by simp[execOp,Instr.sliceAt,run_underlying hu,Instr.slice,a8,O,bI hs]) rfl};{cases E})|slice bl o len lb ex=>simp only at E;split at E;{rename_i a1;cases hb:bj len lb a.isSome b.isSome c.isSome l with|none=>rw[hb] at E;cases E|some r=>obtain⟨i,j,m⟩:=r;rw[hb] at E;obtain⟨ad,cap,a3,⟨c1,c2,c3,c4⟩,I⟩:=hv;obtain⟨O,a2,T,hm⟩:=Cs (P:=P) (isSl:=true) hb c1 c2 hl w;have F:(execOp ρ ⟨dst,.slice t x a b c,type,pos,after,guard⟩).run P w=.ok (.value (.slice (some (if m.getD cap=i then ad else ad.add (i*n))) (j - i) (m.getD cap - i))) w:=by{simp only[execOp];simp[Instr.sliceAt,run_underlying hu,Instr.slice,a3,O,bI hs];split<;>rfl};have U:∀ex':Bool,(ex'=false->ex=false/\m=none)->SlR μ bl (o+i*n) ex' (m.getD cap - i) (if m.getD cap=i then ad else ad.add (i*n)):=by{intro ex' aS;unfold SlR at I⊢;cases ag:μ bl with|no=>rw[ag] at I;exact I|dead=>trivial|«at» q p ez z=>rw[ag] at I;simp only at I⊢;refine⟨?_,λZ V=>?_⟩;{by_cases a6:m.getD cap=i;{left;omega};{right;rw[if_neg a6];have a9:m.getD cap<=cap:=by{cases m with|none=>exact an _|some k=>have:=hm k rfl;simp;omega};have a4:i<=m.getD cap:=by{cases m with|none=>simp at T⊢;omega|some k=>simp at T⊢;omega};have aE:cap≠0:=Om;rw[I.1.resolve_left aE,zu,jp]}};{obtain⟨a0,a7⟩:=aS Z;subst a0 a7;simp only[wG] at a1;rcases RA h a1 ag with h0|h0;{exact absurd h0 V};{subst h0;have:=I.2 rfl V;simp only[FM] at T⊢;have a4:i<=cap:=Om;have:(cap - i)*ez+i*ez=cap*ez:=by{rw[<-oj];congr 1;omega};omega}}};cases m with|none=>simp only[dz] at E;injection E with E;injection E with Z V;subst Z V;have Y:=U ex λe=>⟨e,rfl⟩;simp only[FM] at F Y T;exact Gives.pure h F ⟨_,_,rfl,⟨Om,Om,Om,λe=>by have:=c4 e;omega⟩,Y⟩|some k=>simp only[dz] at E;injection E with E;injection E with Z V;subst Z V;simp only[dZ] at F U T;have:=hm k rfl;exact Gives.pure h F ⟨_,_,rfl,⟨Om,an _,Om,λ_=>rfl⟩,U true λe=>by cases e⟩};{cases E}|_=>simp at E};{cases E}
end
section
variable {P:Program}{g0 lo:Nat}{μ:Mu}{H:Heap}{w:World}{ρ:Operand->Value}{type:TypeId}{pos:String}{dst:Option Tmp}{after:Array Edge}{guard:Option (Nat×Bool)}{xs:List IV}{v:IV}{H':Heap}
theorem dv:∀(cs:List IV)(o:Nat)(vs:List IV),o+vs.length<=cs.length->az cs o vs=cs.take o++vs++cs.drop (o+vs.length)|[],o,vs,h=>by have E:o=0:=by{rw[dq] at h;omega};have F:vs=[]:=by{rw[dq] at h;exact List.length_eq_zero_iff.1 Om};subst E F;rfl|c::cs,0,[],_=>by simp[az]|c::cs,0,v::vs,h=>by simp only[az];rw[dv cs 0 vs (by simp at h;omega)];simp|c::cs,o+1,vs,h=>by simp only[az];rw[dv cs o vs (by simp at h;omega)];simp[Nat.add_right_comm]
theorem sA(cs:List IV)(o:Nat)(vs:List IV)(h:o+vs.length<=cs.length):(az cs o vs).length=cs.length:=by grind[dv]
def JC(off:Nat):∀(vs:List Value)(k:Nat)(cells:Array Value),off+k+vs.length<=cells.size->((vs.zipIdx k).foldl (λcs x=>cs.setIfInBounds (off+x.2) x.1) cells).toList=cells.toList.take (off+k)++vs++cells.toList.drop (off+k+vs.length)|[],k,cells,_=>by simp|v::vs,k,cells,h=>by simp only[List.zipIdx_cons,nm];rw[JC off vs (k+1) _ (by simp at h⊢;omega)];have e:=list_seg_step cells.toList (off+k) v vs (by simp at h⊢;omega);simpa [uO,jp] using e
def qx(place:Nat->Option (Nat×Nat)):∀(parts:List (Nat×Operand))(I:List (Nat×Nat))(xs cs r:List IV)(E:Array Value),parts.mapM (λp=>place p.1)=some I->VRs μ xs (parts.map λp=>ρ p.2)->VRs μ cs E.toList->dK I xs cs=some r->∃r':Array Value,Instr.fill place E (parts.map λp=>(p.1,ρ p.2))=some r'/\VRs μ r r'.toList:=by intro parts;induction parts with|nil=>(intro I xs cs r E ho hx U O;simp at ho;subst ho;cases xs with|nil=>simp[dK] at O;subst O;exact⟨E,rfl,U⟩|cons=>simp[dK] at O)|cons p parts ih=>intro I xs cs r E ho hx U O;simp only[te] at ho;cases hp:place p.1 with|none=>rw[hp] at ho;cases ho|some pl=>obtain⟨off,size⟩:=pl;rw[hp] at ho;cases hr:parts.mapM (λp=>place p.1) with|none=>rw[hr] at ho;cases ho|some T=>rw[hr] at ho;injection ho with ho;subst ho;cases xs with|nil=>simp[dK] at O|cons x xs=>obtain⟨y,ys,hy,hv,ad⟩:=hx;simp only[aH,iE] at hy;obtain⟨rfl,rfl⟩:=hy;simp only[dK] at O;split at O;{rename_i aS;have F:=hv.cells_;have hl:=F.length;have Z:x.cells.length=(ρ p.2).cells.size:=by{simpa using hl};have ag:cs.length=E.size:=by{simpa using U.length};have Y:((ρ p.2).cells.size≠size||off+(ρ p.2).cells.size>E.size)=false:=by{have h1:(ρ p.2).cells.size=size:=Om;simp[h1];omega};have V:VRs μ (az cs off x.cells) ((ρ p.2).cells.zipIdx.foldl (λcs x=>cs.setIfInBounds (off+x.2) x.1) E).toList:=by{rw[<-Array.foldl_toList,Array.toList_zipIdx,JC off _ 0 E (by simp;omega),dv cs off x.cells Om];simp only[pT];rw[show off+(ρ p.2).cells.toList.length=off+x.cells.length by simp[Z]];exact((U.take off).append F).append (U.drop _)};obtain⟨r',aE,a0⟩:=ih T xs _ r _ hr ad V O;simp_all[aH,Instr.fill,if_neg]};{cases O}
def Jd{α E:Type}(F:α->Sem E)(G:α->E)(w:World):∀l:List α,(∀f∈l,(F f).run P w=.ok (G f) w)->(l.mapM F).run P w=.ok (l.map G) w|[],_=>by simp|f::l,h=>by have I:=h f (by simp);have O:=Jd F G w l λg T=>h g (by simp[T]);simp[I,O]
def Mj{fs:Array Field}(hall:(fs.all fun f=>(bk P f.type).isSome)=true)(F:Field→Sem (Nat×Nat))(hF:∀f,F f=(do pure (f.offset,←sizeOf f.type)))(w:World):
  (fs.mapM F).run P w=.ok (fs.map fun f=>(f.offset,(bk P f.type).getD 0)) w:=by
 rw[Array.mapM_eq_mapM_toList]
 have hk:=Jd (P:=P) F (fun f=>(f.offset,(bk P f.type).getD 0)) w fs.toList (fun f hf=>by
  rw[Array.all_eq_true_iff_forall_mem] at hall;have h1:=hall f (by simpa using hf)
  cases hs:bk P f.type with
  | none=>rw[hs] at h1;cases h1
  | some n=>rw[hF];simp[bI hs])
 simp[hk];apply pY;simp
def XK(h:Rel P g0 μ H.get H.n w){t:TypeId}{U:Array (Nat×Operand)}{kd:Kd}(E:cW P (.build t U)=some kd)(I:ev1 kd xs lo H=some (v,H'))(hx:VRs μ xs ((Op.build t U).operands.toList.map ρ)):Gives P g0 lo μ H w (execOp ρ ⟨dst,.build t U,type,pos,after,guard⟩) v H':=by have aE:(Op.build t U).operands.toList.map ρ=U.toList.map λp=>ρ p.2:=by{simp[Op.operands]};rw[aE] at hx;simp only[cW] at E;cases hu:P.underlying t with|none=>rw[hu] at E;cases E|some d=>rw[hu] at E;cases d with|struct fs=>simp only at E;split at E;{rename_i ag;cases ho:tq (λi=>(fs[i]?).bind λf=>(bk P f.type).map λn=>(f.offset,n)) U with|none=>rw[ho] at E;cases E|some F=>rw[ho] at E;cases Z:iS P t with|none=>simp[Z] at E|some z=>simp[Z] at E;subst E;simp only[ev1] at I;cases V:dK F xs z.cells with|none=>rw[V] at I;cases I|some cs=>rw[V] at I;injection I with I;injection I with e1 e2;subst e1 e2;obtain⟨i,zv,hi,ad,Y⟩:=jv Z;obtain⟨r',T,hv⟩:=qx (ρ:=ρ) (μ:=μ) (λi=>(fs[i]?).bind λf=>(bk P f.type).map λn=>(f.offset,n)) U.toList F xs z.cells cs zv.cells ho hx (Y μ).cells_ V;have O:(λi:Nat=>(fs[i]?).bind λf=>(bk P f.type).map λn=>(f.offset,n))=λi:Nat=>Option.map (λf:Field=>(f.offset,(bk P f.type).getD 0)) fs[i]?:=by{funext i;cases a0:fs[i]? with|none=>rfl|some f=>have:(bk P f.type).isSome=true:=by{grind};cases hs:bk P f.type with|none=>rw[hs] at this;cases this|some n=>simp[hs]};rw[O] at T;refine Gives.pure h (v':=.agg r') ?_ ⟨r',rfl,hv⟩;have aS:=Mj ag (λf=>Prod.mk f.offset <$>sizeOf f.type) (λf=>by simp) w;simp only[execOp,Instr.build];simp[zeroValue,typeInfo,hi,ad,run_underlying hu,aS,T]};{cases E}|array k e=>(simp only at E;cases hs:bk P e with|none=>rw[hs] at E;cases E|some n=>rw[hs] at E;simp only[bH] at E;cases ho:tq (λi=>some (i*n,n)) U with|none=>rw[ho] at E;cases E|some F=>rw[ho] at E;cases Z:iS P t with|none=>simp[Z] at E|some z=>simp[Z] at E;subst E;simp only[ev1] at I;cases V:dK F xs z.cells with|none=>rw[V] at I;cases I|some cs=>rw[V] at I;injection I with I;injection I with e1 e2;subst e1 e2;obtain⟨i,zv,hi,ad,Y⟩:=jv Z;obtain⟨r',T,hv⟩:=qx (ρ:=ρ) (μ:=μ) (λi=>some (i*n,n)) U.toList F xs z.cells cs zv.cells ho hx (Y μ).cells_ V;refine Gives.pure h (v':=.agg r') ?_ ⟨r',rfl,hv⟩;simp only[execOp,Instr.build];simp[zeroValue,typeInfo,hi,ad,run_underlying hu,bI hs,T])|_=>simp at E
def ab6{F:Bool}{e ez:Nat}{cs:List IV}{E:Array Value}(I:VRs μ cs E.toList)(hr:F=false):ObjR P μ (.cells F e ez cs) 0 ez E.size (some (.cells E e (0,0))):=by subst hr;have hl:=I.length;refine⟨rfl,rfl,E,rfl,rfl,by simp at hl;omega,?_⟩;grind
def rQ(h:Rel P g0 μ H.get H.n w){e ez:Nat}{cs:List IV}{E:Array Value}(Y:VRs μ cs E.toList){w':World}(Z:w'.heap=w.heap.push (.cells E e (0,0)))(O:w'.os=w.os)(T:w'.tape=w.tape)(U:w'.output=w.output)(V:w.drawn<=w'.drawn:=by first|exact an _|exact lO _|assumption|(simp;done)|omega):∃F:Mu,μ.le F/\F H.n=.at w.heap.size 0 ez E.size/\Rel P g0 F (H.new (.cells false e ez cs)).get (H.new (.cells false e ez cs)).n w'/\ Post lo μ H.get H.n w F (H.new (.cells false e ez cs)).get (H.new (.cells false e ez cs)).n w':=by have I:=μ.le_upd (.at w.heap.size 0 ez E.size) h.fresh;obtain⟨a,b⟩:=h.alloc (lo:=lo) (o:=.cells false e ez cs) (ez:=ez) (z:=E.size) Z (ab6 (VRs.mono I _ _ Y) rfl) O T U V;grind[aD]
def OI{E:Mu}{c ez z n:Nat}(h:E n=.at c 0 ez z):VR E (.ptr n 0) (.pointer (some ⟨c,0,none⟩)):=⟨_,rfl,by unfold LocR;rw[h]⟩
def XL(h:Rel P g0 μ H.get H.n w){e n:Nat}{z:IV}(Y:iS P e=some z)(E:ev1 (.alloc e n z.cells) xs lo H=some (v,H')):Gives P g0 lo μ H w (execOp ρ ⟨dst,.alloc e,type,pos,after,guard⟩) v H':=by simp only[ev1] at E;split at E;{injection E with E;injection E with O T;subst O T;obtain⟨i,zv,hi,Z,F⟩:=jv Y;obtain⟨I,U,hn,hr,V⟩:=rQ (lo:=lo) (e:=e) (ez:=n) h (F μ).cells_ (w':={w with heap:=w.heap.push (.cells zv.cells e (0,0))}) rfl rfl rfl rfl;exact⟨_,_,_,I,by simp_all[execOp,Instr.alloc,zeroValue,typeInfo,newVar,newRow,newObj,Sem.run],.inl rfl,hr,V,OI hn⟩};{cases E}
end
end Go.Iso
