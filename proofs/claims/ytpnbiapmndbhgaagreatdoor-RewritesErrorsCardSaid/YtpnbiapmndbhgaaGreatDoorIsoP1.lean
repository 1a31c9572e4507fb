/-
  values, heaps, the evaluator of isolated heaps, and its first operations: each run of the evaluator stands for a run of the model.
-/
import Derived.Orders
import Derived.Laws.CopyRow
import Derived.Laws.AppendOwn
import Derived.Deep.AppendSrc
import Derived.Laws.MakeOwn
import Derived.ChangeKeysEq
import Derived.Laws.Strings
import Derived.Lib.SmallJoins
import Derived.Lib.Split
set_option linter.unusedSimpArgs false
set_option linter.unusedVariables false
set_option linter.defProp false
namespace Go.Iso
inductive IV where
 | bool (b:Bool)
 | int (k:IntKind) (n:Int)
 | str (s:List UInt8)
 | ptr (b o:Nat)
 | nilPtr
 | slice (b o len lb:Nat) (ex:Bool)
 | nilSlice
 | map (b:Nat)
 | nilMap
 | fn (f:FuncId) (first cap:List IV)
 | yield (l:Nat)
 | nilFunc
 | iface (t:TypeId) (v:IV)
 | nilIface
 | agg (cs:List IV)
 | tuple (cs:List IV)
 deriving Inhabited
def IV.undef:IV:=.tuple []
inductive Loc where
 | no
 | dead
 | at (c p ez z:Nat)
abbrev Mu:=Nat→Loc
def LocR(μ:Mu)(b o:Nat)(a:Addr):Prop:=
 match μ b with
 | .at c p _ _=>a=⟨c,p+o,none⟩
 | .dead=>True
 | .no=>False
def SlR(μ:Mu)(b o:Nat)(ex:Bool)(cap:Nat)(a:Addr):Prop:=
 match μ b with
 | .at c p ez z=>(cap=0∨a=⟨c,p+o,none⟩)∧(ex=false→ez≠0→o+cap*ez≤z)
 | .dead=>True
 | .no=>False
def Yl(n lb:Nat)(ex:Bool)(cap:Nat):Prop:=
 n≤lb∧lb≤cap∧cap < 2^63∧(ex=true→cap=lb)
mutual
def VR(μ:Mu):IV→Value→Prop
 | .bool b,v=>v=.bool b
 | .int k n,v=>v=.int k n
 | .str l,v=>v=.string ⟨⟨l⟩⟩
 | .ptr b o,v=>∃a:Addr,v=.pointer (some a)∧LocR μ b o a
 | .nilPtr,v=>v=.pointer none
 | .slice b o n lb ex,v=>∃(a:Addr) (cap:Nat),v=.slice (some a) n cap∧Yl n lb ex cap∧SlR μ b o ex cap a
 | .nilSlice,v=>v=.slice none 0 0
 | .map b,v=>∃r:Nat,v=.map (some r)∧LocR μ b 0 ⟨r,0,none⟩
 | .nilMap,v=>v=.map none
 | .fn f l r,v=>∃l' r':Array Value,v=.func (.func f) l' r'∧VRs μ l l'.toList∧VRs μ r r'.toList
 | .yield b,v=>∃r:Nat,v=.func (.yield r) #[] #[]∧LocR μ b 0 ⟨r,0,none⟩
 | .nilFunc,v=>v=.nilFunc
 | .iface t x,v=>∃x':Value,v=.iface t x'∧VR μ x x'
 | .nilIface,v=>v=.nilIface
 | .agg l,v=>∃l':Array Value,v=.agg l'∧VRs μ l l'.toList
 | .tuple l,v=>∃l':Array Value,v=.tuple l'∧VRs μ l l'.toList
def VRs(μ:Mu):List IV→List Value→Prop
 | [],l=>l=[]
 | x::xs,l=>∃(y:Value) (ys:List Value),l=y::ys∧VR μ x y∧VRs μ xs ys
end
def Mu.le(μ μ':Mu):Prop:=∀b,μ b≠.no→μ' b=μ b∨μ' b=.dead
theorem Mu.le_refl(μ:Mu):μ.le μ:=fun _ _=>.inl rfl
theorem Mu.le_trans{a b c:Mu}(h:a.le b)(k:b.le c):a.le c:=fun x hx=>by
 rcases h x hx with e | e
 ·rw[←e];exact k x (by rw[e];exact hx)
 ·rcases k x (by rw[e];exact fun h=>by cases h) with e' | e'
  ·right;rw[e',e]
  ·right;exact e'
theorem LocR.mono{μ μ':Mu}{b o:Nat}{a:Addr}(hl:μ.le μ')(h:LocR μ b o a):LocR μ' b o a:=by
 unfold LocR at *;have hn:μ b≠.no:=by intro e;rw[e] at h;exact h
 rcases hl b hn with e | e
 ·rw[e];exact h
 ·rw[e];trivial
theorem SlR.mono{μ μ':Mu}{b o cap:Nat}{ex:Bool}{a:Addr}(hl:μ.le μ')(h:SlR μ b o ex cap a):SlR μ' b o ex cap a:=by
 unfold SlR at *;have hn:μ b≠.no:=by intro e;rw[e] at h;exact h
 rcases hl b hn with e | e
 ·rw[e];exact h
 ·rw[e];trivial
mutual
theorem VR.mono{μ μ':Mu}(hl:μ.le μ'):∀(x:IV) (v:Value),VR μ x v→VR μ' x v
 | .bool _,_,h=>h
 | .int _ _,_,h=>h
 | .str _,_,h=>h
 | .ptr _ _,_,h=>by obtain⟨a,e,k⟩:=h;exact⟨a,e,k.mono hl⟩
 | .nilPtr,_,h=>h
 | .slice _ _ _ _ _,_,h=>by obtain⟨a,c,e,k,l⟩:=h;exact⟨a,c,e,k,l.mono hl⟩
 | .nilSlice,_,h=>h
 | .map _,_,h=>by obtain⟨a,e,k⟩:=h;exact⟨a,e,k.mono hl⟩
 | .nilMap,_,h=>h
 | .fn _ l r,_,h=>by obtain⟨l',r',e,hl',hr'⟩:=h;exact⟨l',r',e,VRs.mono hl l _ hl',VRs.mono hl r _ hr'⟩
 | .yield _,_,h=>by obtain⟨a,e,k⟩:=h;exact⟨a,e,k.mono hl⟩
 | .nilFunc,_,h=>h
 | .iface _ x,_,h=>by obtain⟨x',e,k⟩:=h;exact⟨x',e,VR.mono hl x _ k⟩
 | .nilIface,_,h=>h
 | .agg l,_,h=>by obtain⟨l',e,k⟩:=h;exact⟨l',e,VRs.mono hl l _ k⟩
 | .tuple l,_,h=>by obtain⟨l',e,k⟩:=h;exact⟨l',e,VRs.mono hl l _ k⟩
theorem VRs.mono{μ μ':Mu}(hl:μ.le μ'):∀(x:List IV) (v:List Value),VRs μ x v→VRs μ' x v
 | [],_,h=>h
 | x::xs,_,h=>by obtain⟨y,ys,e,k,ks⟩:=h;exact⟨y,ys,e,VR.mono hl x _ k,VRs.mono hl xs _ ks⟩
end
section
variable {μ:Mu}
theorem VRs.length:∀{l:List IV} {l':List Value},VRs μ l l'→l.length=l'.length
 | [],_,h=>by cases h;rfl
 | _::_,_,h=>by obtain⟨y,ys,rfl,_,k⟩:=h;simp[VRs.length k]
theorem VRs.get:∀{l:List IV} {l':List Value} {i:Nat} {x:IV},VRs μ l l'→l[i]? =some x→∃y,l'[i]? =some y∧VR μ x y
 | [],_,_,_,_,h=>by simp at h
 | a::as,_,0,x,h,e=>by obtain⟨y,ys,rfl,k,_⟩:=h;simp at e;subst e;exact⟨y,by simp,k⟩
 | a::as,_,i+1,x,h,e=>by
   obtain⟨y,ys,rfl,_,k⟩:=h;obtain⟨z,hz,hv⟩:=VRs.get k (i:=i) (by simpa using e);exact⟨z,by simpa using hz,hv⟩
theorem VRs.append:∀{l:List IV} {l':List Value} {r:List IV} {r':List Value},VRs μ l l'→VRs μ r r'→VRs μ (l++r) (l'++r')
 | [],_,_,_,h,k=>by cases h;simpa using k
 | _::_,_,_,_,h,k=>by obtain⟨y,ys,rfl,a,b⟩:=h;exact⟨y,_,rfl,a,b.append k⟩
theorem VRs.take:∀{l:List IV} {l':List Value} (n:Nat),VRs μ l l'→VRs μ (l.take n) (l'.take n)
 | [],_,n,h=>by cases h;simp[VRs]
 | _::_,_,0,_=>by simp[VRs]
 | _::_,_,n+1,h=>by obtain⟨y,ys,rfl,a,b⟩:=h;exact⟨y,_,rfl,a,b.take n⟩
theorem VRs.drop:∀{l:List IV} {l':List Value} (n:Nat),VRs μ l l'→VRs μ (l.drop n) (l'.drop n)
 | [],_,n,h=>by cases h;simp[VRs]
 | _::_,_,0,h=>h
 | _::_,_,n+1,h=>by obtain⟨y,ys,rfl,a,b⟩:=h;exact b.drop n
theorem VRs.set:∀{l:List IV} {l':List Value} (i:Nat) {x:IV} {y:Value},VRs μ l l'→VR μ x y→VRs μ (l.set i x) (l'.set i y)
 | [],_,_,_,_,h,_=>by cases h;simp[VRs]
 | _::_,_,0,_,y,h,k=>by obtain⟨z,ys,rfl,a,b⟩:=h;exact⟨y,ys,rfl,k,b⟩
 | _::_,_,i+1,_,_,h,k=>by obtain⟨z,ys,rfl,a,b⟩:=h;exact⟨z,_,rfl,a,b.set i k⟩
theorem wL:∀{l:List IV} {l':List Value},l.length=l'.length→(∀(i:Nat) (x:IV) (y:Value),l[i]? =some x→l'[i]? =some y→VR μ x y)→VRs μ l l'
 | [],[],_,_=>rfl
 | [],_::_,h,_=>by simp at h
 | _::_,[],h,_=>by simp at h
 | x::xs,y::ys,h,k=>⟨y,ys,rfl,k 0 x y rfl rfl,wL (by simpa using h) fun i a b ha hb=>k (i+1) a b (by simpa using ha) (by simpa using hb)⟩
end
inductive Tr(α:Type)where
 | leaf
 | node (v:Option α) (l r:Tr α)
def Tr.get{α:Type}:Tr α→Nat→Option α
 | .leaf,_=>none
 | .node v l r,i=>match i with
   | 0=>v
   | j+1=>if j%2=0 then l.get (j / 2) else r.get (j / 2)
def Tr.setF{α:Type}:Nat→Tr α→Nat→α→Tr α
 | 0,t,_,_=>t
 | f+1,t,i,x=>
   match t,i with
   | .leaf,0=>.node (some x) .leaf .leaf
   | .node _ l r,0=>.node (some x) l r
   | .leaf,j+1=>if j%2=0 then .node none (Tr.setF f .leaf (j / 2) x) .leaf else .node none .leaf (Tr.setF f .leaf (j / 2) x)
   | .node v l r,j+1=>if j%2=0 then .node v (Tr.setF f l (j / 2) x) r else .node v l (Tr.setF f r (j / 2) x)
def Tr.set{α:Type}(t:Tr α)(i:Nat)(x:α):Tr α:=Tr.setF (i+1) t i x
theorem oa{α:Type}(i:Nat):(Tr.leaf:Tr α).get i=none:=by unfold Tr.get;rfl
theorem CD{α:Type}:∀(f:Nat) (t:Tr α) (i j:Nat) (x:α),i < f→(Tr.setF f t i x).get j=if i=j then some x else t.get j:=by
 intro f
 induction f with
 | zero=>intro t i j x h;omega
 | succ f ih=>
   intro t i j x h
   cases t with
   | leaf=>
     cases i with
     | zero=>cases j<;>simp[Tr.setF,Tr.get]
     | succ i=>
       have hi:i / 2 < f:=by omega
       by_cases he:i%2=0
       ·cases j with
        | zero=>simp[Tr.setF,he,Tr.get]
        | succ j=>
          by_cases hj:j%2=0
          ·simp only[Tr.setF,he,if_true,Tr.get,hj,ih _ _ _ _ hi];by_cases e:i=j
           ·simp[e]
           ·rw[if_neg (by omega),if_neg (by omega)]
          ·simp only[Tr.setF,he,if_true,Tr.get,hj,if_false];rw[if_neg (by intro e;omega)]
       ·cases j with
        | zero=>simp[Tr.setF,he,Tr.get]
        | succ j=>
          by_cases hj:j%2=0
          ·simp only[Tr.setF,he,if_false,Tr.get,hj,if_true];rw[if_neg (by intro e;omega)]
          ·simp only[Tr.setF,he,if_false,Tr.get,hj,ih _ _ _ _ hi];by_cases e:i=j
           ·simp[e]
           ·rw[if_neg (by omega),if_neg (by omega)]
   | node v l r=>
     cases i with
     | zero=>cases j<;>simp[Tr.setF,Tr.get]
     | succ i=>
       have hi:i / 2 < f:=by omega
       by_cases he:i%2=0
       ·cases j with
        | zero=>simp[Tr.setF,he,Tr.get]
        | succ j=>
          by_cases hj:j%2=0
          ·simp only[Tr.setF,he,if_true,Tr.get,hj,ih _ _ _ _ hi];by_cases e:i=j
           ·simp[e]
           ·rw[if_neg (by omega),if_neg (by omega)]
          ·simp only[Tr.setF,he,if_true,Tr.get,hj,if_false];rw[if_neg (by intro e;omega)]
       ·cases j with
        | zero=>simp[Tr.setF,he,Tr.get]
        | succ j=>
          by_cases hj:j%2=0
          ·simp only[Tr.setF,he,if_false,Tr.get,hj,if_true];rw[if_neg (by intro e;omega)]
          ·simp only[Tr.setF,he,if_false,Tr.get,hj,ih _ _ _ _ hi];by_cases e:i=j
           ·simp[e]
           ·rw[if_neg (by omega),if_neg (by omega)]
theorem pP{α:Type}(t:Tr α)(i j:Nat)(x:α):(t.set i x).get j=if i=j then some x else t.get j:=
 CD _ _ _ _ _ (Nat.lt_succ_self i)
inductive IA where
 | tmp (t:Nat)
 | val (v:IV)
 | glob (g:Nat)
 deriving Inhabited
inductive Pk where
 | bool | int | str
 deriving DecidableEq,Inhabited
inductive Nk where
 | ptr | sl | map | fn
 deriving DecidableEq,Inhabited
inductive Kd where
 | move
 | pick
 | alloc (e ez:Nat) (zs:List IV)
 | box (e ez:Nat)
 | build (zs:List IV) (offs:List (Nat×Nat))
 | buildSl (e ez n:Nat) (zs:List IV) (offs:List (Nat×Nat))
 | load (n:Option Nat)
 | store (n:Nat)
 | nilCheck
 | bin (op:BinOp)
 | eqBool (neg:Bool)
 | eqFlat (neg:Bool) (ds:List Pk)
 | eqNil (neg:Bool) (k:Nk)
 | un (op:UnOp)
 | conv (k:IntKind)
 | iface (t:TypeId)
 | mkfn (f:FuncId) (k:Nat)
 | mkmap
 | mksl (e ez bytes:Nat) (zs:List IV)
 | slc (size:Nat) (lo hi mx:Bool)
 | slcStr (lo hi:Bool)
 | slcArr (e n size:Nat) (lo hi mx:Bool)
 | fieldAddr (off:Nat)
 | field (off:Nat) (n:Option Nat)
 | idxSl (size:Nat)
 | idxArrAddr (len size:Nat)
 | idxArr (len size:Nat) (n:Option Nat)
 | idxStr
 | lookup (t:TypeId) (ky:Bool×List Pk) (zero:IV) (ok:Bool)
 | mapUpd (ky:Bool×List Pk)
 | mapEntry (t:TypeId) (ky:Bool×List Pk) (zero:IV)
 | entryStore
 | delete (ky:Bool×List Pk)
 | lenSl
 | lenStr
 | lenArr (n:Nat)
 | lenMap
 | cap
 | append (e size bytes:Nat)
 | copy (size:Nat)
 | min
 | max
 | extract (i:Nat)
 | clear (zs:List IV)
 | appendZ (e size bytes:Nat) (zs:List IV)
 | strOf
 | rangeM
 | nextM
 | entryM
 | call
 deriving Inhabited
structure IOp where
 dst:Option Nat
 kd:Kd
 args:List IA
 guard:Option (Nat×Bool)
 amb:Bool
 idx:Nat
 mask:Nat
 deriving Inhabited
inductive Sg where
 | seq | free
 deriving DecidableEq,Inhabited
inductive IC where
 | skip
 | ops (l:List (Sg×List IOp))
 | seq (a b:IC)
 | cond (c:IA) (a b:IC)
 | block (id:Nat) (c:IC)
 | scope (c:IC)
 | loop (c:IC)
 | rfn (f:IA) (ps:List Nat) (asg body:IC)
 | exit (id:Nat)
 | ret
 deriving Inhabited
inductive Jmp where
 | exit (id:Nat)
 | ret
inductive IObj where
 | cells (ro:Bool) (e ez:Nat) (cs:List IV)
 | map (es:List (IV×IV×Nat)) (clock:Nat)
 | loop (st:LoopState) (pend:Option Jmp) (tm:List IV) (ps:List Nat) (asg body:IC) (df:Nat)
 | deferred
 | taken
 | iter (m:Option Nat) (since:Nat) (seen:List Nat) (last:Nat)
 | dead
structure Heap where
 n:Nat
 t:Tr IObj
def Heap.get(H:Heap)(b:Nat):Option IObj:=H.t.get b
def Heap.put(H:Heap)(b:Nat)(o:IObj):Heap:=⟨H.n,H.t.set b o⟩
def Heap.new(H:Heap)(o:IObj):Heap:=⟨H.n+1,H.t.set H.n o⟩
theorem aa(H:Heap)(b b':Nat)(o:IObj):(H.put b o).get b'=if b=b' then some o else H.get b':=pP _ _ _ _
theorem aj(H:Heap)(b':Nat)(o:IObj):(H.new o).get b'=if H.n=b' then some o else H.get b':=pP _ _ _ _
theorem af(H:Heap)(b:Nat)(o:IObj):(H.put b o).n=H.n:=rfl
theorem ac(H:Heap)(o:IObj):(H.new o).n=H.n+1:=rfl
def IV.cells:IV→List IV
 | .agg l=>l
 | v=>[v]
def ar:List IV→Nat→List IV→List IV
 | [],_,_=>[]
 | c::cs,0,[]=>c::cs
 | _::cs,0,v::vs=>v::ar cs 0 vs
 | c::cs,o+1,vs=>c::ar cs o vs
def Heap.read(H:Heap)(b o n:Nat):Option (List IV):=
 match H.get b with
 | some (.cells _ _ _ cs)=>if o+n≤cs.length then some ((cs.drop o).take n) else none
 | _=>none
def IV.one:IV→Bool
 | .agg _ | .tuple _=>false
 | _=>true
def Heap.write(H:Heap)(lo b o:Nat)(vs:List IV):Option Heap:=
 match H.get b with
 | some (.cells false e ez cs)=>if lo≤b∧o+vs.length≤cs.length∧vs.all IV.one then some (H.put b (.cells false e ez (ar cs o vs))) else none
 | _=>none
def ak(n:Option Nat)(l:List IV):Option IV:=
 match n,l with
 | some _,l=>some (.agg l)
 | none,[v]=>some v
 | none,_=>none
def bD:List (Nat×Nat)→List IV→List IV→Option (List IV)
 | [],[],cs=>some cs
 | (off,size)::offs,v::vs,cs=>
   if v.cells.length=size∧off+size≤cs.length then bD offs vs (ar cs off v.cells) else none
 | _,_,_=>none
def G8:Pk→IV→IV→Option Bool
 | .bool,.bool a,.bool b=>some (a==b)
 | .int,.int k a,.int k' b=>if k=k' then some (a==b) else none
 | .str,.str a,.str b=>some (a==b)
 | _,_,_=>none
def hU:List Pk→List IV→List IV→Option Bool
 | [],[],[]=>some true
 | d::ds,x::xs,y::ys=>
   match G8 d x y,hU ds xs ys with
   | some a,some b=>some (a&&b)
   | _,_=>none
 | _,_,_=>none
def Ns:Pk→IV→Bool
 | .bool,.bool _=>true
 | .int,.int _ _=>true
 | .str,.str _=>true
 | _,_=>false
def qB:List Pk→List IV→Bool
 | [],[]=>true
 | d::ds,x::xs=>Ns d x&&qB ds xs
 | _,_=>false
def nX(op:BinOp):IV→IV→Option IV
 | .int k a,.int k' b=>
   match op with
   | .shl=>if b < 0 then none else some (.int k (k.wrap (a*2^(Min.min b.toNat k.bits))))
   | .shr=>if b < 0 then none else some (.int k (a.fdiv (2^(Min.min b.toNat k.bits))))
   | _=>if k=k' then
      match op with
      | .add=>some (.int k (k.wrap (a+b)))
      | .sub=>some (.int k (k.wrap (a - b)))
      | .mul=>some (.int k (k.wrap (a*b)))
      | .quo=>if b=0 then none else some (.int k (k.wrap (a.tdiv b)))
      | .rem=>if b=0 then none else some (.int k (a.tmod b))
      | .and=>some (.int k (k.wrap (BitVec.ofInt k.bits a&&& BitVec.ofInt k.bits b).toNat))
      | .or=>some (.int k (k.wrap (BitVec.ofInt k.bits a||| BitVec.ofInt k.bits b).toNat))
      | .xor=>some (.int k (k.wrap (BitVec.ofInt k.bits a^^^BitVec.ofInt k.bits b).toNat))
      | .andNot=>some (.int k (k.wrap (BitVec.ofInt k.bits a&&& ~~~(BitVec.ofInt k.bits b)).toNat))
      | .eql=>some (.bool (a==b))
      | .neq=>some (.bool (a !=b))
      | .lss=>some (.bool (decide (a < b)))
      | .leq=>some (.bool (decide (a≤b)))
      | .gtr=>some (.bool (decide (a>b)))
      | .geq=>some (.bool (decide (a≥b)))
      | _=>none
    else none
 | .str a,.str b=>
   match op with
   | .add=>if a.length+b.length < 2^40 then some (.str (a++b)) else none
   | .eql=>some (.bool (a==b))
   | .neq=>some (.bool !(a==b))
   | .lss=>some (.bool (Op.bytesLess a b))
   | .leq=>some (.bool (Op.bytesLess a b||a==b))
   | .gtr=>some (.bool !(Op.bytesLess a b||a==b))
   | .geq=>some (.bool !(Op.bytesLess a b))
   | _=>none
 | _,_=>none
def P4(op:UnOp):IV→Option IV
 | .int k n=>
   match op with
   | .neg=>some (.int k (k.wrap (0 - n)))
   | .xor=>some (.int k (k.wrap (BitVec.ofInt k.bits (if k.signed then -1 else k.max)^^^BitVec.ofInt k.bits n).toNat))
   | _=>none
 | .bool b=>match op with | .not=>some (.bool !b) | _=>none
 | _=>none
def iE:Nk→IV→Option Bool
 | .ptr,.nilPtr | .sl,.nilSlice | .map,.nilMap | .fn,.nilFunc=>some true
 | .ptr,.ptr _ _ | .sl,.slice _ _ _ _ _ | .map,.map _ | .fn,.fn _ _ _=>some false
 | _,_=>none
def bk(y:Nat):IV→Option Nat
 | .int _ n=>if 0≤n∧n≤(y:Int) then some n.toNat else none
 | _=>none
def aI(len top:Nat)(lo hi mx:Bool)(l:List IV):Option (Nat×Nat×Option Nat):=
 match lo,hi,mx,l with
 | false,false,false,[]=>some (0,len,none)
 | true,false,false,[a]=>(bk len a).map fun a=>(a,len,none)
 | false,true,false,[b]=>(bk top b).map fun b=>(0,b,none)
 | true,true,false,[a,b]=>(bk top b).bind fun b=>(bk b a).map fun a=>(a,b,none)
 | false,true,true,[b,c]=>(bk top c).bind fun c=>(bk c b).map fun b=>(0,b,some c)
 | true,true,true,[a,b,c]=>(bk top c).bind fun c=>(bk c b).bind fun b=>(bk b a).map fun a=>(a,b,some c)
 | _,_,_,_=>none
def aT(ag:Bool):IV→Bool
 | .agg _=>ag
 | _=>!ag
def bS(ky:Bool×List Pk)(k:IV):Bool:=aT ky.1 k&&qB ky.2 k.cells
def dU(ky:Bool×List Pk)(k k':IV):Option Bool:=if aT ky.1 k&&aT ky.1 k' then hU ky.2 k.cells k'.cells else none
def aF(ky:Bool×List Pk)(k:IV):List (IV×IV×Nat)→Nat→Option (Option (Nat×IV))
 | [],_=>some none
 | (k',v,_)::es,i=>
   match dU ky k k' with
   | some true=>some (some (i,v))
   | some false=>aF ky k es (i+1)
   | none=>none
def eq(H:Heap)(size n:Nat):IV→Option (List IV)
 | .nilSlice=>if n=0 then some [] else none
 | .slice b o _ _ _=>if n=0 then some [] else H.read b o (n*size)
 | .str s=>if n≤s.length∧size=1 then some ((s.take n).map fun c=>.int .u8 c.toNat) else none
 | _=>none
def i4:IV→Option Nat
 | .nilSlice=>some 0
 | .slice _ _ n _ _=>some n
 | .str s=>some s.length
 | _=>none
def iU:Nat→List IV→List IV
 | 0,_=>[]
 | n+1,zs=>zs++iU n zs
def nV:List IV→Option (List UInt8)
 | []=>some []
 | .int .u8 n::l=>(nV l).map (UInt8.ofNat n.toNat::·)
 | _=>none
def bF(e size bytes:Nat)(s:IV)(xs:List IV)(n lo:Nat)(H:Heap):Option (IV×Heap):=
 if xs.all IV.one=false then none else
  match s with
  | .nilSlice=>
    if n=0 then some (.nilSlice,H)
    else if n*(bytes+1)≤2^40 then some (.slice H.n 0 n n false,H.new (.cells false e size xs))
    else none
  | .slice b o len lb ex=>
    if n=0 then some (.slice b o len lb ex,H)
    else if len+n≤lb then(H.write lo b (o+len*size) xs).map fun H'=>(.slice b o (len+n) lb ex,H')
    else if (len+n)*(bytes+1)≤2^40 then
     if ex then(eq H size len s).map fun old=>(.slice H.n 0 (len+n) (len+n) false,H.new (.cells false e size (old++xs)))
     else
      match H.get b with
      | some (.cells false e' ez cs)=>
        if e'=e∧ez=size∧0 < size∧o=0∧lo≤b∧len*size≤cs.length then
         some (.slice H.n 0 (len+n) (len+n) false,(H.put b .dead).new (.cells false e size (cs.take (len*size)++xs)))
        else none
      | _=>none
    else none
  | _=>none
def dX{α:Type}:List α→Nat→List α
 | [],_=>[]
 | _::l,0=>l
 | x::l,i+1=>x::dX l i
def bP(key val:IV):List (IV×IV×Nat)→Nat→List (IV×IV×Nat)
 | [],_=>[]
 | (_,_,s)::l,0=>(key,val,s)::l
 | x::l,i+1=>x::bP key val l i
def gp(val:IV)(born:Int):List (IV×IV×Nat)→Option (List (IV×IV×Nat))
 | []=>none
 | (k,v,s)::l=>if (s:Int)=born then some ((k,val,s)::l) else(gp val born l).map ((k,v,s)::·)
def az(H:Heap)(b:Nat):Option (List (IV×IV×Nat)×Nat):=
 match H.get b with
 | some (.map es c)=>some (es,c)
 | _=>none
def stepM(H:Heap)(r:Nat):Option (IV×Option IObj):=
 match H.get r with
 | some (.iter none _ _ _)=>some (.tuple [.bool false],none)
 | some (.iter (some b) since seen last)=>
   match az H b with
   | none=>none
   | some (es,clock)=>
     if seen≠[]∧es≠[]∧(es.all fun e=>decide (last≤e.2.2))=true then none
     else match es.filter fun e=>!seen.contains e.2.2 with
      | []=>some (.tuple [.bool false],none)
      | [(k,v,s)]=>if s < since then some (.tuple [.bool true,k,v],some (.iter (some b) since (seen++[s]) clock)) else none
      | _=>none
 | _=>none
def wk(H:Heap)(r:Nat):Option IV:=
 match H.get r with
 | some (.iter (some b) _ seen last)=>
   match seen.getLast? with
   | none=>none
   | some s=>
     match az H b with
     | none=>none
     | some (es,clock)=>if clock=last then(es.find? fun e=>e.2.2==s).map fun e=>.tuple [e.1,e.2.1] else none
 | _=>none
def rX(H:Heap)(b size:Nat):Bool:=
 match H.get b with
 | some (.cells ro _ ez _)=>ro||ez==size
 | _=>false
def jG:IV→Option Nat
 | .nilSlice=>some 0
 | .slice _ _ n _ _=>some n
 | _=>none
def ev1(kd:Kd)(xs:List IV)(lo:Nat)(H:Heap):Option (IV×Heap):=
 match kd with
 | .move=>match xs with
   | [x]=>some (x,H)
   | _=>none
 | .pick=>match xs with
   | [.bool c,a,b]=>some (if c then a else b,H)
   | _=>none
 | .alloc e ez zs=>match xs with
   | []=>some (.ptr H.n 0,H.new (.cells false e ez zs))
   | _=>none
 | .box e ez=>match xs with
   | [x]=>some (.ptr H.n 0,H.new (.cells false e ez x.cells))
   | _=>none
 | .build zs offs=>match xs with
   | xs=>(bD offs xs zs).map fun cs=>(.agg cs,H)
 | .buildSl e ez n zs offs=>match xs with
   | xs=>(bD offs xs zs).map fun cs=>(.slice H.n 0 n n true,H.new (.cells false e ez cs))
 | .load n=>match xs with
   | [.ptr b o]=>(H.read b o (n.getD 1)).bind fun cs=>(ak n cs).map fun v=>(v,H)
   | _=>none
 | .store n=>match xs with
   | [.ptr b o,x]=>if x.cells.length=n then(H.write lo b o x.cells).map fun H'=>(IV.undef,H') else none
   | _=>none
 | .nilCheck=>match xs with
   | [x]=>match x with | .nilPtr | .nilIface | .nilFunc | .yield _=>none | x=>some (x,H)
   | _=>none
 | .bin op=>match xs with
   | [x,y]=>(nX op x y).map (·,H)
   | _=>none
 | .eqBool neg=>match xs with
   | [.bool a,.bool b]=>some (.bool (neg !=(a==b)),H)
   | _=>none
 | .eqFlat neg ds=>match xs with
   | [.agg x,.agg y]=>(hU ds x y).map fun r=>(.bool (neg !=r),H)
   | _=>none
 | .eqNil neg nk=>match xs with
   | [x,y]=>
     match iE nk x,iE nk y with
     | some true,some r=>some (.bool (neg !=r),H)
     | some r,some true=>some (.bool (neg !=r),H)
     | _,_=>none
   | _=>none
 | .un op=>match xs with
   | [x]=>(P4 op x).map (·,H)
   | _=>none
 | .conv k=>match xs with
   | [.int _ n]=>some (.int k (k.wrap n),H)
   | _=>none
 | .iface t=>match xs with
   | [x]=>some (.iface t x,H)
   | _=>none
 | .mkfn f k=>match xs with
   | xs=>some (.fn f (xs.take k) (xs.drop k),H)
 | .mkmap=>match xs with
   | []=>some (.map H.n,H.new (.map [] 0))
   | [.int _ _]=>some (.map H.n,H.new (.map [] 0))
   | _=>none
 | .rangeM=>match xs with
   | [.nilMap]=>some (.ptr H.n 0,H.new (.iter none 0 [] 0))
   | [.map b]=>(az H b).map fun p=>(.ptr H.n 0,H.new (.iter (some b) p.2 [] p.2))
   | _=>none
 | .entryM=>match xs with
   | [.ptr r 0]=>(wk H r).map (·,H)
   | _=>none
 | .nextM=>match xs with
   | [.ptr r 0]=>if lo≤r then(stepM H r).map fun p=>(p.1,match p.2 with | none=>H | some o=>H.put r o) else none
   | _=>none
 | .mksl e ez bytes zs=>match xs with
   | [.int _ l,.int _ c]=>
     if 0≤l∧l≤c∧c*(bytes+1)≤2^40 then
      some (.slice H.n 0 l.toNat c.toNat true,H.new (.cells false e ez (iU c.toNat zs)))
     else none
   | _=>none
 | .slc size lo hi mx=>match xs with
   | s::l=>
     match s with
     | .nilSlice=>(aI 0 0 lo hi mx l).bind fun(a,b,_)=>if a=0∧b=0 then some (.nilSlice,H) else none
     | .slice b o len lb ex=>
       if ex||rX H b size then
        (aI len lb lo hi mx l).map fun(a,h,m)=>
         match m with
         | some m=>(.slice b (o+a*size) (h - a) (m - a) true,H)
         | none=>(.slice b (o+a*size) (h - a) (lb - a) ex,H)
       else none
     | _=>none
   | _=>none
 | .slcStr lo hi=>match xs with
   | .str s::l=>
     (aI s.length s.length lo hi false l).map fun(a,h,_)=>(.str ((s.drop a).take (h - a)),H)
   | _=>none
 | .slcArr _ n size lo hi mx=>match xs with
   | .ptr b o::l=>
     (aI n n lo hi mx l).bind fun(a,h,m)=>if 0 < n∧n≤2^40 then
      some (.slice b (o+a*size) (h - a) (m.getD n - a) true,H) else none
   | _=>none
 | .fieldAddr off=>match xs with
   | [.ptr b o]=>some (.ptr b (o+off),H)
   | _=>none
 | .field off n=>match xs with
   | [.agg cs]=>if off+n.getD 1≤cs.length then(ak n ((cs.drop off).take (n.getD 1))).map fun v=>(v,H) else none
   | _=>none
 | .idxSl size=>match xs with
   | [.slice b o len _ _,.int _ i]=>if 0≤i∧i < (len:Int) then some (.ptr b (o+i.toNat*size),H) else none
   | _=>none
 | .idxArrAddr len size=>match xs with
   | [.ptr b o,.int _ i]=>if 0≤i∧i < (len:Int) then some (.ptr b (o+i.toNat*size),H) else none
   | _=>none
 | .idxArr len size n=>match xs with
   | [.agg cs,.int _ i]=>
     if 0≤i∧i < (len:Int)∧i.toNat*size+n.getD 1≤cs.length then(ak n ((cs.drop (i.toNat*size)).take (n.getD 1))).map fun v=>(v,H) else none
   | _=>none
 | .idxStr=>match xs with
   | [.str s,.int _ i]=>if 0≤i then(s[i.toNat]?).map fun c=>(.int .u8 c.toNat,H) else none
   | _=>none
 | .lookup _ ky zero ok=>match xs with
   | [m,k]=>
     match (match m with | .nilMap=>some [] | .map b=>(az H b).map (·.1) | _=>none) with
     | none=>none
     | some es=>
       if bS ky k then
        match aF ky k es 0 with
        | none=>none
        | some r=>
          let (v,there):IV×Bool:=match r with | some (_,v)=>(v,true) | none=>(zero,false)
          some (if ok then .tuple [v,.bool there] else v,H)
       else none
   | _=>none
 | .mapUpd ky=>match xs with
   | [.map b,k,v]=>
     match az H b with
     | none=>none
     | some (es,clock)=>
       if lo≤b∧bS ky k then
        match aF ky k es 0 with
        | none=>none
        | some (some (i,_))=>some (IV.undef,H.put b (.map (bP k v es i) clock))
        | some none=>some (IV.undef,H.put b (.map (es++[(k,v,clock)]) (clock+1)))
       else none
   | _=>none
 | .mapEntry _ ky zero=>match xs with
   | [.map b,k]=>
     match az H b with
     | none=>none
     | some (es,clock)=>
       if lo≤b∧bS ky k then
        match aF ky k es 0 with
        | none=>none
        | some (some (i,v))=>(es[i]?).map fun e=>(.tuple [v,.int .i64 e.2.2],H.put b (.map (bP k v es i) clock))
        | some none=>some (.tuple [zero,.int .i64 clock],H.put b (.map (es++[(k,zero,clock)]) (clock+1)))
       else none
   | _=>none
 | .entryStore=>match xs with
   | [.map b,.int _ s,v]=>
     match az H b with
     | none=>none
     | some (es,clock)=>if lo≤b then(gp v s es).map fun es'=>(IV.undef,H.put b (.map es' clock)) else none
   | _=>none
 | .delete ky=>match xs with
   | [.map b,k]=>
     match az H b with
     | none=>none
     | some (es,clock)=>
       if lo≤b∧bS ky k then
        match aF ky k es 0 with
        | none=>none
        | some (some (i,_))=>some (IV.undef,H.put b (.map (dX es i) clock))
        | some none=>some (IV.undef,H)
       else none
   | _=>none
 | .lenSl=>match xs with
   | [x]=>match x with | .nilSlice=>some (.int .i64 0,H) | .slice _ _ n _ _=>some (.int .i64 n,H) | _=>none
   | _=>none
 | .lenStr=>match xs with
   | [.str s]=>some (.int .i64 s.length,H)
   | _=>none
 | .lenArr n=>match xs with
   | [_]=>some (.int .i64 n,H)
   | _=>none
 | .lenMap=>match xs with
   | [m]=>match m with | .nilMap=>some (.int .i64 0,H) | .map b=>(az H b).map fun(es,_)=>(.int .i64 es.length,H) | _=>none
   | _=>none
 | .cap=>match xs with
   | [x]=>match x with | .nilSlice=>some (.int .i64 0,H) | .slice _ _ _ c true=>some (.int .i64 c,H) | _=>none
   | _=>none
 | .append e size bytes=>match xs with
   | [s,x]=>(i4 x).bind fun n=>(eq H size n x).bind fun xs=>bF e size bytes s xs n lo H
   | _=>none
 | .copy size=>match xs with
   | [d,s]=>
     match jG d,i4 s with
     | some n,some m=>
       let k:=Min.min m n
       if k=0 then some (.int .i64 0,H)
       else(eq H size k s).bind fun xs=>
        match d with
        | .slice b o _ _ _=>(H.write lo b o xs).map fun H'=>(.int .i64 k,H')
        | _=>none
     | _,_=>none
   | _=>none
 | .min=>match xs with
   | [.int k a,.int k' b]=>if k=k' then some (.int k (if b < a then b else a),H) else none
   | _=>none
 | .max=>match xs with
   | [.int k a,.int k' b]=>if k=k' then some (.int k (if b>a then b else a),H) else none
   | _=>none
 | .clear zs=>match xs with
   | [x]=>
     match x with
     | .nilSlice=>some (.tuple [],H)
     | .slice b o n _ _=>if n=0 then some (.tuple [],H) else(H.write lo b o (iU n zs)).map fun H'=>(.tuple [],H')
     | _=>none
   | _=>none
 | .appendZ e size bytes zs=>match xs with
   | [s,.int _ n]=>
     if 0≤n∧n*(bytes+1)≤2^40 then bF e size bytes s (iU n.toNat zs) n.toNat lo H else none
   | _=>none
 | .strOf=>match xs with
   | [x]=>
     match x with
     | .nilSlice=>some (.str [],H)
     | .slice b o n _ _=>if n=0 then some (.str [],H) else(H.read b o n).bind fun cs=>(nV cs).map fun s=>(.str s,H)
     | _=>none
   | _=>none
 | .extract i=>match xs with
   | [.tuple l]=>(l[i]?).map (·,H)
   | _=>none
 | .call=>none
structure IFn where
 ntmps:Nat
 results:List (Nat×Option (Option Nat))
 body:IC
structure Fr where
 tm:List IV
 marks:List Nat
inductive Ex where
 | normal
 | jmp (j:Jmp)
inductive Fp where
 | none
 | rd (b o n:Nat)
 | wr (b o n:Nat)
 | wb (b:Nat)
 | lk (t:TypeId) (ky:Bool×List Pk) (b:Nat) (k:IV)
 | me (t:TypeId) (ky:Bool×List Pk) (b:Nat) (k:IV)
abbrev bR:=List (Nat×Fp)
inductive Task where
 | code (c:IC) (rd:Option Nat) (fr:Fr)
 | segs (l:List (Sg×List IOp)) (rd:Option Nat) (fr:Fr)
 | ops (free:Option bR) (l:List IOp) (rd:Option Nat) (fr:Fr)
 | call (f:FuncId) (args:List IV)
 | apply (f:IV) (args:List IV)
inductive Out where
 | ex (e:Ex) (fr:Fr)
 | val (v:IV)
structure Env where
 fns:FuncId→Option IFn
 sums:FuncId→Option (List IV→Nat→Heap→Option (IV×Heap))
 g0:Nat
def IA.eval(g0:Nat)(tm:List IV):IA→Option IV
 | .tmp t=>some (tm.getD t IV.undef)
 | .val v=>some v
 | .glob g=>if g < g0 then some (.ptr g 0) else none
def be(g0:Nat)(tm:List IV):List IA→Option (List IV)
 | []=>some []
 | x::xs=>
   match x.eval g0 tm with
   | none=>none
   | some v=>match be g0 tm xs with
     | none=>none
     | some vs=>some (v::vs)
def Fr.put(fr:Fr)(dst:Option Nat)(v:IV):Fr:=
 match dst with
 | none=>fr
 | some d=>{fr with tm:=fr.tm.set d v}
def bA(tm:List IV):Option (Nat×Bool)→Bool
 | none=>true
 | some (t,want)=>match tm.getD t IV.undef with
   | .bool b=>b==want
   | _=>false
def gq(H:Heap)(tm:List IV):Nat×Option (Option Nat)→Option IV
 | (t,none)=>some (tm.getD t IV.undef)
 | (t,some n)=>
   match tm.getD t IV.undef with
   | .ptr b o=>(H.read b o (n.getD 1)).bind (ak n)
   | _=>none
def au(H:Heap)(tm:List IV):List (Nat×Option (Option Nat))→Option (List IV)
 | []=>some []
 | r::rs=>
   match gq H tm r,au H tm rs with
   | some v,some vs=>some (v::vs)
   | _,_=>none
def d8:List IV→IV
 | [v]=>v
 | l=>.tuple l
def bq(lo:Nat):List Nat→Heap→Option Heap
 | [],H=>some H
 | r::rs,H=>match H.get r with
   | some .deferred=>if lo≤r then bq lo rs (H.put r .taken) else none
   | _=>none
def dQ:List IV→List Nat→List IV→List IV
 | tm,p::ps,v::vs=>dQ (tm.set p v) ps vs
 | tm,_,_=>tm
def bT:Nat→List IV
 | 0=>[]
 | n+1=>IV.undef::bT n
def Kd.pure:Kd→Bool
 | .move | .pick | .build _ _ | .nilCheck | .bin _ | .eqBool _ | .eqFlat _ _ | .eqNil _ _ | .un _ | .conv _ | .iface _ | .mkfn _ _
 | .fieldAddr _ | .field _ _ | .idxSl _ | .idxArrAddr _ _ | .idxArr _ _ _ | .idxStr | .lenSl | .lenStr | .lenArr _ | .cap | .min | .max | .extract _=>true
 | _=>false
def Kd.isStore:Kd→Bool
 | .store _=>true
 | _=>false
def ii(b o n b' o' n':Nat):Bool:=b≠b'||o+n≤o'||o'+n'≤o
def bg:Fp→Fp→Bool
 | .rd b o n,.wr b' o' n' | .wr b o n,.rd b' o' n' | .wr b o n,.wr b' o' n'=>ii b o n b' o' n'
 | .wb b,.rd b' _ _ | .rd b' _ _,.wb b | .wb b,.wr b' _ _ | .wr b' _ _,.wb b | .wb b,.wb b' | .wb b,.lk _ _ b' _ | .lk _ _ b' _,.wb b | .wb b,.me _ _ b' _ | .me _ _ b' _,.wb b=>b≠b'
 | .lk _ _ b _,.wr b' _ _ | .wr b' _ _,.lk _ _ b _ | .rd b _ _,.me _ _ b' _ | .me _ _ b' _,.rd b _ _ | .wr b _ _,.me _ _ b' _ | .me _ _ b' _,.wr b _ _ | .me _ _ b' _,.me _ _ b _=>b≠b'
 | .lk t ky b k,.me t' _ b' k' | .me t' _ b' k',.lk t ky b k=>b≠b'||(t==t'&&(match dU ky k k' with | some true=>true | _=>false))
 | _,_=>true
def dW(o:IOp)(xs:List IV):Option Fp:=
 match o.kd,xs with
 | .store n,[.ptr b a,_]=>some (.wr b a n)
 | .store _,_=>none
 | .load n,[.ptr b a]=>some (.rd b a (n.getD 1))
 | .load _,_=>none
 | .lookup t ky _ false,[.map b,k]=>some (.lk t ky b k)
 | .lookup _ _ _ false,[.nilMap,_]=>some .none
 | .lookup _ _ _ false,_=>none
 | .append _ _ _,.slice b _ _ _ _::_=>some (if o.amb then .wb b else .none)
 | .appendZ _ _ _ _,.slice b _ _ _ _::_=>some (if o.amb then .wb b else .none)
 | .mapEntry t ky _,[.map b,k]=>some (if o.amb then .me t ky b k else .none)
 | _,_=>some .none
def lh(fc:bR)(o:IOp)(xs:List IV):Option bR:=
 match dW o xs with
 | none=>none
 | some f=>if fc.all fun p=>o.mask.testBit p.1||bg p.2 f then some ((o.idx,f)::fc) else none
def cU(free:Option bR)(o:IOp)(lo:Nat)(H:Heap):Nat:=
 match free with
 | none=>lo
 | some _=>if o.amb then lo else H.n
def aR(free:Option bR)(o:IOp)(xs:List IV):Option (Option bR):=
 match free with
 | none=>some none
 | some fc=>(lh fc o xs).map some
def gE(rd:Option Nat)(H:Heap):Option (Nat×List Nat×Heap):=
 match rd with
 | none=>some (H.n,[H.n],H.new .deferred)
 | some l=>match H.get l with
   | some (.loop _ _ _ _ _ _ df)=>some (df,[],H)
   | _=>none
def ig(l:Nat)(H:Heap):Option Heap:=
 match H.get l with
 | some (.loop .ready pend tm ps asg body df)=>some (H.put l (.loop .busy pend tm ps asg body df))
 | _=>none
def xf(l:Nat)(e:Ex)(H:Heap):Option (Out×Heap):=
 match H.get l with
 | some (.loop _ _ tm ps asg body df)=>
   match e with
   | .normal=>some (.val (.bool true),H.put l (.loop .ready none tm ps asg body df))
   | .jmp j=>some (.val (.bool false),H.put l (.loop .done (some j) tm ps asg body df))
 | _=>none
def run(E:Env):Nat→Task→Nat→Heap→Option (Out×Heap)
 | 0,_,_,_=>none
 | n+1,t,lo,H=>
   match t with
   | .code c rd fr=>
     match c with
     | .skip=>some (.ex .normal fr,H)
     | .exit id=>some (.ex (.jmp (.exit id)) fr,H)
     | .ret=>some (.ex (.jmp .ret) fr,H)
     | .ops l=>run E n (.segs l rd fr) lo H
     | .seq a b=>
       match run E n (.code a rd fr) lo H with
       | some (.ex .normal fr',H')=>run E n (.code b rd fr') lo H'
       | r=>r
     | .cond c a b=>
       match c.eval E.g0 fr.tm with
       | some (.bool true)=>run E n (.code a rd fr) lo H
       | some (.bool false)=>run E n (.code b rd fr) lo H
       | _=>none
     | .block id c=>
       match run E n (.code c rd fr) lo H with
       | some (.ex (.jmp (.exit id')) fr',H')=>some (.ex (if id'=id then .normal else .jmp (.exit id')) fr',H')
       | r=>r
     | .loop c=>
       match run E n (.code c rd fr) lo H with
       | some (.ex .normal fr',H')=>run E n (.code (.loop c) rd fr') lo H'
       | r=>r
     | .scope c=>run E n (.code c rd fr) lo H
     | .rfn f ps asg body=>
       match f.eval E.g0 fr.tm,gE rd H with
       | some g,some (df,marks,H1)=>
         match run E n (.apply g [.yield H1.n]) lo (H1.new (.loop .ready none fr.tm ps asg body df)) with
         | some (.val _,H2)=>
           match H2.get H1.n with
           | some (.loop st pend tm ps asg body df)=>
             if st=.busy∨H1.n < lo then none
             else
              let H3:=H2.put H1.n (.loop .exhausted pend tm ps asg body df)
              let fr':Fr:={fr with marks:=marks++fr.marks}
              match pend with
              | none=>some (.ex .normal fr',H3)
              | some j=>some (.ex (.jmp j) fr',H3)
           | _=>none
         | _=>none
       | _,_=>none
   | .segs l rd fr=>
     match l with
     | []=>some (.ex .normal fr,H)
     | (k,os)::l=>
       match run E n (.ops (match k with | .seq=>none | .free=>some []) os rd fr) lo H with
       | some (.ex .normal fr',H')=>run E n (.segs l rd fr') lo H'
       | _=>none
   | .ops free l rd fr=>
     match l with
     | []=>some (.ex .normal fr,H)
     | o::l=>
       if bA fr.tm o.guard then
        match be E.g0 fr.tm o.args with
        | none=>none
        | some xs=>
          match aR free o xs with
          | none=>none
          | some free'=>
            match o.kd with
            | .call=>
              match xs with
              | f::xs=>
                match run E n (.apply f xs) (cU free o lo H) H with
                | some (.val v,H')=>run E n (.ops free' l rd (fr.put o.dst v)) lo H'
                | _=>none
              | []=>none
            | kd=>
              match ev1 kd xs (cU free o lo H) H with
              | some (v,H')=>run E n (.ops free' l rd (fr.put o.dst v)) lo H'
              | none=>none
       else run E n (.ops free l rd (fr.put o.dst IV.undef)) lo H
   | .apply f args=>
     match f with
     | .fn f first cap=>run E n (.call f (first++args++cap)) lo H
     | .yield l=>
       match H.get l with
       | some (.loop _ _ tm ps asg body _)=>
         if args.length=ps.length∧lo≤l then
          match run E n (.code asg (some l) ⟨dQ tm ps args,[]⟩) lo H with
          | some (.ex .normal fr,H1)=>
            match ig l H1 with
            | some H2=>
              match run E n (.code body (some l) fr) lo H2 with
              | some (.ex e _,H3)=>xf l e H3
              | _=>none
            | none=>none
          | _=>none
         else none
       | _=>none
     | _=>none
   | .call f args=>
     match E.sums f with
     | some s=>(s args lo H).map fun(v,H')=>(.val v,H')
     | none=>
       match E.fns f with
       | none=>none
       | some fn=>
         match run E n (.code fn.body none ⟨args++bT (fn.ntmps - args.length),[]⟩) lo H with
         | some (.ex e fr,H')=>
           match e with
           | .jmp (.exit _)=>none
           | _=>
             match bq lo fr.marks H' with
             | none=>none
             | some H''=>(au H'' fr.tm fn.results).map fun vs=>(.val (d8 vs),H'')
         | _=>none
def pr:Nat→Value→Option IV
 | 0,_=>none
 | n+1,v=>
   match v with
   | .bool b=>some (.bool b)
   | .int k n=>some (.int k n)
   | .string s=>some (.str s.data.toList)
   | .pointer none=>some .nilPtr
   | .slice none 0 0=>some .nilSlice
   | .map none=>some .nilMap
   | .nilFunc=>some .nilFunc
   | .nilIface=>some .nilIface
   | .agg cs=>(cs.toList.mapM (pr n)).map .agg
   | _=>none
def mB:Operand→Option IA
 | .tmp t=>some (.tmp t)
 | .const v=>(pr 3 v).map .val
 | .global g=>some (.glob g)
 | .func f=>some (.val (.fn f [] []))
section
variable (P:Program)
def aJ(t:TypeId):Option Nat:=(P.info? t).map (·.size)
def hZ(t:TypeId):Option Nat:=(P.info? t).map (·.bytes)
def pO(t:TypeId):Option (Option Nat):=
 match P.underlying t,aJ P t with
 | some (.struct _),some n=>some (some n)
 | some (.array _ _),some n=>some (some n)
 | some (.struct _),none=>none
 | some (.array _ _),none=>none
 | some _,some _=>some none
 | _,_=>none
def fk(t:TypeId):Option IV:=((P.info? t).bind (·.zero)).bind (pr 3)
def lY(aB:TypeId→Option (List Pk)):List Field→Nat→Option (List Pk)
 | [],_=>some []
 | f::fs,off=>
   match aB f.type with
   | some l=>if f.name≠"_"∧f.offset=off∧aJ P f.type=some l.length then(lY aB fs (off+l.length)).map (l++·) else none
   | none=>none
def bH:Nat→TypeId→Option (List Pk)
 | 0,_=>none
 | d+1,t=>
   match P.underlying t with
   | some .bool=>some [.bool]
   | some (.int _)=>some [.int]
   | some .string=>some [.str]
   | some (.struct fs)=>if P.stoodInHeld t then none else lY P (bH d) fs.toList 0
   | some (.array n e)=>
     match bH d e with
     | some l=>if aJ P e=some l.length then some (List.replicate n l).flatten else none
     | none=>none
   | _=>none
def lg(k:TypeId):Option (Bool×List Pk):=
 (bH P 8 k).map fun ds=>(match P.underlying k with | some (.struct _) | some (.array _ _)=>true | _=>false,ds)
def mj(l:List Operand):Option (List IA):=l.mapM mB
def ka(t:TypeId)(i:Nat):Option Field:=
 match P.underlying t with
 | some (.struct fs)=>fs[i]?
 | _=>none
def gF(e:TypeId):Option (Nat×List IV):=
 match aJ P e,fk P e with
 | some n,some z=>if z.cells.length=n then some (n,z.cells) else none
 | _,_=>none
def aH(b:Builtin)(ts:List TypeId):Option Kd:=
 match b,ts with
 | .len,[t]=>
   match P.underlying t with
   | some (.slice _)=>some .lenSl
   | some .string=>some .lenStr
   | some (.array n _)=>some (.lenArr n)
   | some (.map _ _)=>some .lenMap
   | _=>none
 | .cap,[t]=>
   match P.underlying t with
   | some (.slice _)=>some .cap
   | _=>none
 | .append,[t,u]=>
   match P.underlying t,P.underlying u with
   | some (.slice e),some (.slice _)=>(gF P e).bind fun z=>(hZ P e).map fun b=>.append e z.1 b
   | some (.slice e),some .string=>(gF P e).bind fun z=>(hZ P e).map fun b=>.append e z.1 b
   | some (.slice e),some (.int _)=>(gF P e).bind fun z=>(hZ P e).map fun b=>.appendZ e z.1 b z.2
   | _,_=>none
 | .copy,t::_=>
   match P.underlying t with
   | some (.slice e)=>(aJ P e).map .copy
   | _=>none
 | .delete,t::_=>
   match P.underlying t with
   | some (.map k _)=>(lg P k).map .delete
   | _=>none
 | .clear,t::_=>
   match P.underlying t with
   | some (.slice e)=>(gF P e).map fun z=>.clear z.2
   | _=>none
 | .min,_=>some .min
 | .max,_=>some .max
 | _,_=>none
def BQ(op:BinOp)(t:TypeId):Option Kd:=
 match op with
 | .eql | .neq=>
   let neg:=op matches .neq
   match P.underlying t with
   | some .bool=>some (.eqBool neg)
   | some (.int _) | some .string=>some (.bin op)
   | some (.struct _) | some (.array _ _)=>
     if P.eqGuardType P.depth t then none else(bH P 8 t).map (.eqFlat neg)
   | some (.pointer _)=>some (.eqNil neg .ptr)
   | some (.slice _)=>some (.eqNil neg .sl)
   | some (.map _ _)=>some (.eqNil neg .map)
   | some (.func _ _ _)=>some (.eqNil neg .fn)
   | _=>none
 | _=>some (.bin op)
def pE(place:Nat→Option (Nat×Nat))(ps:Array (Nat×Operand)):Option (List (Nat×Nat)):=ps.toList.mapM fun p=>place p.1
def bG(op:Op):Option Kd:=
 match op with
 | .move _ | .assign _=>some .move
 | .pick _ _ _=>some .pick
 | .alloc e=>(aJ P e).bind fun n=>(fk P e).map fun z=>.alloc e n z.cells
 | .box e _=>(aJ P e).map fun n=>.box e n
 | .build t ps=>
   match P.underlying t with
   | some (.struct fs)=>
     if fs.all fun f=>(aJ P f.type).isSome then
      (pE (fun i=>(fs[i]?).bind fun f=>(aJ P f.type).map fun n=>(f.offset,n)) ps).bind fun offs=>(fk P t).map fun z=>.build z.cells offs
     else none
   | some (.array _ e)=>
     (aJ P e).bind fun n=>(pE (fun i=>some (i*n,n)) ps).bind fun offs=>(fk P t).map fun z=>.build z.cells offs
   | _=>none
 | .buildSlice t len ps=>
   match P.underlying t with
   | some (.slice e)=>
     (gF P e).bind fun z=>(pE (fun i=>some (i*z.1,z.1)) ps).bind fun offs=>
      if len*z.1≤2^24∧len < 2^40 then some (.buildSl e z.1 len (iU len z.2) offs) else none
   | _=>none
 | .load t _=>(pO P t).map .load
 | .store t _ _=>(aJ P t).map .store
 | .nilCheck _=>some .nilCheck
 | .binOp op t _ _ _=>BQ P op t
 | .unOp op _ _=>some (.un op)
 | .convert src dst _=>
   match P.underlying src,P.underlying dst with
   | some (.int _),some (.int k)=>some (.conv k)
   | some (.slice e),some .string=>
     match P.underlying e with
     | some (.int .u8)=>some .strOf
     | _=>none
   | _,_=>none
 | .makeInterface t _=>
   match P.underlying t with
   | some (.interface _) | none=>none
   | some _=>some (.iface t)
 | .makeFunc (.func f) first _=>some (.mkfn f first.size)
 | .makeMap t _=>
   match P.underlying t with
   | some (.map _ _)=>some .mkmap
   | _=>none
 | .makeSlice t _ _=>
   match P.underlying t with
   | some (.slice e)=>(gF P e).bind fun z=>(hZ P e).map fun b=>.mksl e z.1 b z.2
   | _=>none
 | .slice t _ lo hi mx=>
   match P.underlying t with
   | some (.slice e)=>(aJ P e).map fun n=>.slc n lo.isSome hi.isSome mx.isSome
   | some .string=>if mx.isSome then none else some (.slcStr lo.isSome hi.isSome)
   | some (.array n e)=>(aJ P e).map fun k=>.slcArr e n k lo.isSome hi.isSome mx.isSome
   | _=>none
 | .fieldAddr t _ i=>(ka P t i).bind fun f=>(aJ P f.type).bind fun n=>if n=0 then none else some (.fieldAddr f.offset)
 | .field t _ i=>(ka P t i).bind fun f=>(pO P f.type).map fun n=>.field f.offset n
 | .indexAddr t _ _=>
   match P.underlying t with
   | some (.slice e)=>(aJ P e).map .idxSl
   | some (.array n e)=>(aJ P e).map fun k=>.idxArrAddr n k
   | _=>none
 | .index t _ _=>
   match P.underlying t with
   | some (.array n e)=>(aJ P e).bind fun k=>(pO P e).map fun a=>.idxArr n k a
   | some .string=>some .idxStr
   | _=>none
 | .lookup t _ _ ok=>
   match P.underlying t with
   | some (.map k e)=>(lg P k).bind fun ky=>(fk P e).map fun z=>.lookup t ky z ok
   | _=>none
 | .mapUpdate t _ _ _ | .insert t _ _ _=>
   match P.underlying t with
   | some (.map kt _)=>(lg P kt).map .mapUpd
   | _=>none
 | .mapEntry t _ _=>
   match P.underlying t with
   | some (.map kt e)=>(lg P kt).bind fun ky=>(fk P e).map fun z=>.mapEntry t ky z
   | _=>none
 | .entryStore _ _ _ _=>some .entryStore
 | .range t _=>
   match P.underlying t with
   | some (.map _ _)=>some .rangeM
   | _=>none
 | .next _ false=>some .nextM
 | .entry _=>some .entryM
 | .extract _ i=>some (.extract i)
 | .call c=>
   match c.callee with
   | .value _=>some .call
   | .builtin b=>aH P b c.argTypes.toList
   | _=>none
 | _=>none
def KR(o:Oper):Option (Kd×List IA):=do
 let kd←bG P o.op
 let as←mj o.op.operands.toList
 pure (kd,as)
def Fn:List Oper→Nat→Bool
 | [],_=>true
 | o::os,i=>(o.after.all fun e=>!Region.binds .any e||decide (e.on < i))&&Fn os (i+1)
def mask(acc:List Nat)(o:Oper):Nat:=
 o.after.toList.foldl (fun s e=>if Region.binds .any e then s||| 2^e.on||| acc.getD e.on 0 else s) 0
def jB:List Oper→List Nat→List Nat
 | [],acc=>acc
 | o::os,acc=>jB os (acc++[mask acc o])
def eZ(ms:List Nat)(i j:Nat):Bool:=(ms.getD (Max.max i j) 0).testBit (Min.min i j)
def uu:IA→Option Nat
 | .tmp t=>some t
 | _=>none
def IOp.names(o:IOp):List Nat:=o.dst.toList++o.args.filterMap uu++(o.guard.map (·.1)).toList
def pu(a b:IOp):Bool:=
 (match a.dst with | some d=>!b.names.contains d | none=>true)&&
 (match b.dst with | some d=>!a.names.contains d | none=>true)
def lr(ms:List Nat)(i:Nat)(a:IOp):List IOp→Nat→Bool
 | [],_=>true
 | b::l,j=>(eZ ms i j||pu a b)&&lr ms i a l (j+1)
def re(ms:List Nat):List IOp→Nat→Bool
 | [],_=>true
 | a::l,i=>lr ms i a l (i+1)&&re ms l (i+1)
def lm(ops:Array Oper)(o:Oper):Option IOp:=do
 let (kd,args)←KR P o
 let guard←match o.guard with
  | none=>pure none
  | some (j,want)=>do pure (some (←(ops[j]?).bind (·.dst),want))
 pure {dst:=o.dst,kd,args,guard,amb:=true,idx:=0,mask:=0}
def x8(ms:List Nat)(i:Nat):Bool:=(ms.drop i).all fun m=>m%2^i=2^i - 1
def j4(l:List IOp):Sg:=if l.length≤1 then .seq else .free
def Kd.isLoad:Kd→Bool
 | .load _=>true
 | _=>false
def Kd.isLook:Kd→Bool
 | .lookup _ _ _ false=>true
 | _=>false
def Kd.light(k:Kd):Bool:=k.pure||k.isLoad||k.isLook
def Kd.isWr:Kd→Bool
 | .append _ _ _ | .appendZ _ _ _ _ | .mapEntry _ _ _=>true
 | _=>false
def jf(ms:List Nat)(i:Nat)(ok:Kd→Bool):List IOp→Nat→Bool
 | [],_=>true
 | b::l,j=>(i==j||eZ ms i j||ok b.kd)&&jf ms i ok l (j+1)
def Cx(ms:List Nat)(l:List IOp)(i:Nat)(k:Kd):Bool:=
 k.isStore||jf ms i Kd.pure l 0||(k.isWr&&jf ms i Kd.light l 0)
def kv(ms:List Nat)(all:List IOp):List IOp→Nat→List IOp
 | [],_=>[]
 | o::l,i=>{o with amb:=Cx ms all i o.kd,idx:=i,mask:=ms.getD i 0}::kv ms all l (i+1)
def jH(a b:IOp):Bool:=
 a.kd.light||b.kd.light||(a.kd.isStore&&b.kd.isStore)||(!a.amb&&!b.amb)
def jw(ms:List Nat)(i:Nat)(a:IOp):List IOp→Nat→Bool
 | [],_=>true
 | b::l,j=>(eZ ms i j||jH a b)&&jw ms i a l (j+1)
def oF(ms:List Nat):List IOp→Nat→Bool
 | [],_=>true
 | a::l,i=>jw ms i a l (i+1)&&oF ms l (i+1)
def parts(ms:List Nat):List IOp→Nat→List IOp→List (Sg×List IOp)
 | [],_,[]=>[]
 | [],_,cur=>[(j4 cur.reverse,cur.reverse)]
 | o::l,i,cur=>if x8 ms (i+1) then(j4 (o::cur).reverse,(o::cur).reverse)::parts ms l (i+1) [] else parts ms l (i+1) (o::cur)
def zl(md:Region.Mode)(ops:Array Oper):List Nat→List Nat→Bool
 | [],seen=>(List.range ops.size).all seen.contains
 | i::l,seen=>(match ops[i]? with | some o=>o.after.all (fun e=>!Region.binds md e||seen.contains e.on) | none=>false)&&zl md ops l (i::seen)
def vf(ops:Array Oper):Bool:=
 zl .any ops (List.range ops.size) []&&
 (!Region.departs ops||(zl .text ops (List.range ops.size) []&&zl .gc ops (Region.linearise .gc ops 0) []))
def ce(ops:Array Oper)(draw:Bool):Option (List (Sg×List IOp)):=do
 let l←ops.toList.mapM (lm P ops)
 if draw then
  let ms:=jB ops.toList []
  let l:=kv ms l l 0
  if vf ops&&Fn ops.toList 0&&re ms l 0&&oF ms l 0 then pure (parts ms l 0 []) else none
 else pure [(.seq,l)]
def aK:Code→Option IC
 | .skip=>some .skip
 | .region _ ops draw=>(ce P ops draw).map .ops
 | .seq a b=>do pure (.seq (←aK a) (←aK b))
 | .cond c a b=>do pure (.cond (←mB c) (←aK a) (←aK b))
 | .block id c=>do pure (.block id (←aK c))
 | .scope c=>do pure (.scope (←aK c))
 | .label _=>some .skip
 | .loop c=>do pure (.loop (←aK c))
 | .rangeFunc f ps asg body=>do pure (.rfn (←mB f) ps.toList (←aK asg) (←aK body))
 | .exit id=>some (.exit id)
 | .ret=>some .ret
 | _=>none
def sV:ResultVar→Option (Nat×Option (Option Nat))
 | .tmp t=>some (t,none)
 | .cell a t=>(pO P t).map fun n=>(a,some n)
def al(f:FuncId):Option IFn:=
 match P.funcs[f]? with
 | none=>none
 | some fn=>
   if fn.name=="runtime.NumGoroutine" then none else
   match fn.body with
   | none=>none
   | some c=>do pure ⟨fn.ntmps,←fn.results.toList.mapM (sV P),←aK P c⟩
end
def IObj.owned:IObj→Bool
 | .cells true _ _ _=>false
 | .dead=>false
 | _=>true
def i6:Jmp→Code
 | .exit id=>.exit id
 | .ret=>.ret
def EsR(μ:Mu):List (IV×IV×Nat)→List MapEntry→Prop
 | [],l=>l=[]
 | (k,v,s)::es,l=>∃(e:MapEntry) (l':List MapEntry),l=e::l'∧VR μ k e.key∧VR μ v e.val∧e.born=s∧EsR μ es l'
theorem EsR.mono{μ μ':Mu}(hl:μ.le μ'):∀{es:List (IV×IV×Nat)} {l:List MapEntry},EsR μ es l→EsR μ' es l
 | [],_,h=>h
 | (k,v,_)::_,_,h=>by obtain⟨e,l',a,b,c,d,f⟩:=h;exact⟨e,l',a,VR.mono hl k _ b,VR.mono hl v _ c,d,EsR.mono hl f⟩
def ObjR(P:Program)(μ:Mu)(o:IObj)(p ez z:Nat)(h:Option Obj):Prop:=
 match o with
 | .cells true _ _ cs=>ez=0∧∃(cs':Array Value) (e:TypeId) (fz:Nat×Nat),h=some (.cells cs' e fz)∧p+cs.length≤cs'.size∧VRs μ cs ((cs'.toList.drop p).take cs.length)
 | .cells false e ez' cs=>p=0∧ez=ez'∧∃cs':Array Value,h=some (.cells cs' e (0,0))∧cs'.size=z∧cs.length≤z∧VRs μ cs (cs'.toList.take cs.length)
 | .map es clock=>p=0∧∃es':Array MapEntry,h=some (.map es' clock)∧EsR μ es es'.toList
 | .loop st pend tm ps asg body df=>p=0∧∃L:Loop,h=some (.loop L)∧L.state=st∧L.pending=pend.map i6∧VRs μ tm L.tmps.toList∧L.params.toList=ps∧
   aK P L.assign=some asg∧aK P L.body=some body∧LocR μ df 0 ⟨L.defers,0,none⟩
 | .deferred=>p=0∧h=some (.deferred (some []))
 | .taken=>p=0∧h=some (.deferred none)
 | .iter m since seen last=>p=0∧∃m':Option Nat,h=some (.mapIter m' since seen.toArray last)∧VR μ (match m with | none=>.nilMap | some b=>.map b) (.map m')
 | .dead=>False
theorem ObjR.mono{P:Program}{μ μ':Mu}{o:IObj}{p ez z:Nat}{h:Option Obj}(hl:μ.le μ')(k:ObjR P μ o p ez z h):ObjR P μ' o p ez z h:=by
 cases o with
 | cells ro e ez' cs=>
   cases ro
   ·obtain⟨a,b,cs',c,d,e',f⟩:=k;exact⟨a,b,cs',c,d,e',VRs.mono hl _ _ f⟩
   ·obtain⟨a,cs',e',fz,b,c,f⟩:=k;exact⟨a,cs',e',fz,b,c,VRs.mono hl _ _ f⟩
 | map es clock=>obtain⟨a,es',b,c⟩:=k;exact⟨a,es',b,EsR.mono hl c⟩
 | loop st pend tm ps asg body df=>obtain⟨a,L,b,c,d,e,f,g,i,j⟩:=k;exact⟨a,L,b,c,d,VRs.mono hl _ _ e,f,g,i,j.mono hl⟩
 | deferred=>exact k
 | taken=>exact k
 | iter m since seen last=>obtain⟨a,m',b,c⟩:=k;exact⟨a,m',b,VR.mono hl _ _ c⟩
 | dead=>exact k
theorem ObjR.some_{P:Program}{μ:Mu}{o:IObj}{p ez z:Nat}{h:Option Obj}(k:ObjR P μ o p ez z h):∃x,h=some x:=by
 cases o with
 | cells ro e ez' cs=>
   cases ro
   ·obtain⟨_,_,cs',c,_⟩:=k;exact⟨_,c⟩
   ·obtain⟨_,cs',e',fz,b,_⟩:=k;exact⟨_,b⟩
 | map es clock=>obtain⟨_,es',b,_⟩:=k;exact⟨_,b⟩
 | loop st pend tm ps asg body df=>obtain⟨_,L,b,_⟩:=k;exact⟨_,b⟩
 | deferred=>exact⟨_,k.2⟩
 | taken=>exact⟨_,k.2⟩
 | iter m since seen last=>obtain⟨_,m',b,_⟩:=k;exact⟨_,b⟩
 | dead=>exact k.elim
abbrev Gt:=Nat→Option IObj
def aY(g:Gt)(b:Nat):Prop:=∃o,g b=some o∧o.owned=true
structure Rel(P:Program)(g0:Nat)(μ:Mu)(g:Gt)(n:Nat)(w:World):Prop where
 lt:∀b,μ b≠.no→b < n
 inj:∀b b' c p ez z p' ez' z',μ b=.at c p ez z→μ b'=.at c p' ez' z'→aY g b→b=b'
 obj:∀b c p ez z,μ b=.at c p ez z→∃o,g b=some o∧ObjR P μ o p ez z w.heap[c]?
 glob:∀i,i < g0→μ i=.at i 0 0 0
 ded:∀b,μ b=.dead→g b=some .dead
structure Post(lo:Nat)(μ:Mu)(g:Gt)(n:Nat)(w:World)(μ':Mu)(g':Gt)(n':Nat)(w':World):Prop where
 le:μ.le μ'
 hn:n≤n'
 old:∀b,b < n→μ b=.no→μ' b=.no
 low:∀b,b < lo→b < n→μ' b=μ b∧g' b=g b
 own:∀b,b < n→aY g' b→aY g b
 new:∀b c p ez z,n≤b→μ' b=.at c p ez z→w.heap.size≤c∨∃b0 p0 ez0 z0,lo≤b0∧b0 < n∧aY g b0∧μ b0=.at c p0 ez0 z0
 full:∀b,n≤b→b < n'→μ' b≠.no
 size:w.heap.size≤w'.heap.size
 frame:∀c,c < w.heap.size→(∀b p ez z,lo≤b→b < n→aY g b→μ b≠.at c p ez z)→w'.heap[c]? =w.heap[c]?
 os:w'.os=w.os
 tape:w'.tape=w.tape
 output:w'.output=w.output
 drawn:w.drawn≤w'.drawn
section
variable {P:Program}{g0 lo n:Nat}{μ:Mu}{g:Gt}{w:World}
theorem Rel.clt(h:Rel P g0 μ g n w){b c p ez z:Nat}(hb:μ b=.at c p ez z):c < w.heap.size:=by
 obtain⟨o,_,ho⟩:=h.obj b c p ez z hb;obtain⟨x,hx⟩:=ho.some_;rcases Nat.lt_or_ge c w.heap.size with hlt | hge
 ·exact hlt
 ·rw[Array.getElem?_eq_none hge] at hx;cases hx
theorem Rel.heap_eq{w':World}(h:Rel P g0 μ g n w)(e:w'.heap=w.heap):Rel P g0 μ g n w':=
 ⟨h.lt,h.inj,fun b c p ez z hb=>by rw[e];exact h.obj b c p ez z hb,h.glob,h.ded⟩
theorem Rel.congr{g':Gt}(h:Rel P g0 μ g n w)(e:∀b,μ b≠.no→g' b=g b):Rel P g0 μ g' n w where
 lt:=h.lt
 inj:=fun b b' c p ez z p' ez' z' hb hb' ho=>h.inj b b' c p ez z p' ez' z' hb hb' (by obtain⟨o,h1,h2⟩:=ho;exact⟨o,by rw[←e b (by rw[hb];exact fun x=>by cases x)];exact h1,h2⟩)
 obj:=fun b c p ez z hb=>by rw[e b (by rw[hb];exact fun x=>by cases x)];exact h.obj b c p ez z hb
 glob:=h.glob
 ded:=fun b hb=>by rw[e b (by rw[hb];exact fun x=>by cases x)];exact h.ded b hb
theorem Rel.more{n':Nat}(h:Rel P g0 μ g n w)(hn:n≤n'):Rel P g0 μ g n' w:=
 ⟨fun b hb=>Nat.lt_of_lt_of_le (h.lt b hb) hn,h.inj,h.obj,h.glob,h.ded⟩
theorem Post.refl(h:Rel P g0 μ g n w):Post lo μ g n w μ g n w where
 le:=μ.le_refl
 hn:=Nat.le_refl _
 old:=fun _ _ h=>h
 low:=fun _ _ _=>⟨rfl,rfl⟩
 own:=fun _ _ h=>h
 new:=fun b c p ez z hb e=>absurd (h.lt b (by rw[e];exact fun x=>by cases x)) (by omega)
 full:=fun b h1 h2=>by omega
 size:=Nat.le_refl _
 frame:=fun _ _ _=>rfl
 os:=rfl
 tape:=rfl
 output:=rfl
 drawn:=Nat.le_refl _
theorem Post.trans{n1 n2:Nat}{μ1 μ2:Mu}{g1 g2:Gt}{w1 w2:World}(h:Post lo μ g n w μ1 g1 n1 w1)(k:Post lo μ1 g1 n1 w1 μ2 g2 n2 w2):Post lo μ g n w μ2 g2 n2 w2 where
 le:=Mu.le_trans h.le k.le
 hn:=Nat.le_trans h.hn k.hn
 old:=fun b hb e=>k.old b (Nat.lt_of_lt_of_le hb h.hn) (h.old b hb e)
 low:=fun b hl hb=>by
  obtain⟨a1,a2⟩:=h.low b hl hb;obtain⟨b1,b2⟩:=k.low b hl (Nat.lt_of_lt_of_le hb h.hn);exact⟨b1.trans a1,b2.trans a2⟩
 own:=fun b hb o=>h.own b hb (k.own b (Nat.lt_of_lt_of_le hb h.hn) o)
 new:=fun b c p ez z hb e=>by
  have key:∀b0 p0 ez0 z0,lo≤b0→b0 < n1→aY g1 b0→μ1 b0=.at c p0 ez0 z0→w.heap.size≤c∨∃b0 p0 ez0 z0,lo≤b0∧b0 < n∧aY g b0∧μ b0=.at c p0 ez0 z0:=by
   intro b0 p0 ez0 z0 hlo hlt ho e0;by_cases hbn:b0 < n
   ·have hne:μ b0≠.no:=fun e'=>by rw[h.old b0 hbn e'] at e0;cases e0
    rcases h.le b0 hne with e1 | e1
    ·exact .inr ⟨b0,p0,ez0,z0,hlo,hbn,h.own b0 hbn ho,by rw[←e1];exact e0⟩
    ·rw[e1] at e0;cases e0
   ·exact h.new b0 c p0 ez0 z0 (by omega) e0
  by_cases hbn:b < n1
  ·have hne:μ1 b≠.no:=fun e'=>by rw[k.old b hbn e'] at e;cases e
   rcases k.le b hne with e1 | e1
   ·exact h.new b c p ez z hb (by rw[←e1];exact e)
   ·rw[e1] at e;cases e
  ·rcases k.new b c p ez z (by omega) e with hc | ⟨b0,p0,ez0,z0,h1,h2,h3,h4⟩
   ·exact .inl (Nat.le_trans h.size hc)
   ·exact key b0 p0 ez0 z0 h1 h2 h3 h4
 full:=fun b h1 h2=>by
  by_cases hb:b < n1
  ·have hne:=h.full b h1 hb;rcases k.le b hne with e | e
   ·rw[e];exact hne
   ·rw[e];exact fun x=>by cases x
  ·exact k.full b (by omega) h2
 size:=Nat.le_trans h.size k.size
 frame:=fun c hc hno=>by
  refine(k.frame c (Nat.lt_of_lt_of_le hc h.size) fun b p ez z hlo hlt ho e=>?_).trans (h.frame c hc hno)
  by_cases hbn:b < n
  ·have hne:μ b≠.no:=fun e'=>by rw[h.old b hbn e'] at e;cases e
   rcases h.le b hne with e1 | e1
   ·exact hno b p ez z hlo hbn (h.own b hbn ho) (by rw[←e1];exact e)
   ·rw[e1] at e;cases e
  ·rcases h.new b c p ez z (by omega) e with hcc | ⟨b0,p0,ez0,z0,h1,h2,h3,h4⟩
   ·omega
   ·exact hno b0 p0 ez0 z0 h1 h2 h3 h4
 os:=k.os.trans h.os
 tape:=k.tape.trans h.tape
 output:=k.output.trans h.output
 drawn:=Nat.le_trans h.drawn k.drawn
theorem Post.lower{lo' n1:Nat}{μ1:Mu}{g1:Gt}{w1:World}(hl:lo≤lo')(h:Post lo' μ g n w μ1 g1 n1 w1):Post lo μ g n w μ1 g1 n1 w1 where
 le:=h.le
 hn:=h.hn
 old:=h.old
 low:=fun b a c=>h.low b (by omega) c
 own:=h.own
 new:=fun b c p ez z hb e=>by
  rcases h.new b c p ez z hb e with hc | ⟨b0,p0,ez0,z0,h1,h2,h3,h4⟩
  ·exact .inl hc
  ·exact .inr ⟨b0,p0,ez0,z0,by omega,h2,h3,h4⟩
 full:=h.full
 size:=h.size
 frame:=fun c hc hno=>h.frame c hc fun b p ez z hlo=>hno b p ez z (by omega)
 os:=h.os
 tape:=h.tape
 output:=h.output
 drawn:=h.drawn
theorem Post.same{w':World}(h:Rel P g0 μ g n w)(e:w'.heap=w.heap)(e1:w'.os=w.os)(e2:w'.tape=w.tape)(e3:w'.output=w.output)(e4:w.drawn≤w'.drawn:=by first | exact Nat.le_refl _ | exact Nat.le_succ _ | assumption | (simp;done) | omega):Post lo μ g n w μ g n w' where
 le:=μ.le_refl
 hn:=Nat.le_refl _
 old:=fun _ _ h=>h
 low:=fun _ _ _=>⟨rfl,rfl⟩
 own:=fun _ _ h=>h
 new:=fun b c p ez z hb e=>absurd (h.lt b (by rw[e];exact fun x=>by cases x)) (by omega)
 full:=fun b h1 h2=>by omega
 size:=by rw[e];exact Nat.le_refl _
 frame:=fun _ _ _=>by rw[e]
 os:=e1
 tape:=e2
 output:=e3
 drawn:=e4
def Mu.upd(μ:Mu)(b:Nat)(l:Loc):Mu:=fun x=>if x=b then l else μ x
theorem av(μ:Mu)(b:Nat)(l:Loc):μ.upd b l b=l:=by simp[Mu.upd]
theorem aw(μ:Mu){b x:Nat}(l:Loc)(h:x≠b):μ.upd b l x=μ x:=by simp[Mu.upd,h]
theorem Mu.le_upd(μ:Mu){b:Nat}(l:Loc)(h:μ b=.no):μ.le (μ.upd b l):=fun x hx=>by
 left;refine aw _ _ fun e=>hx (by rw[e];exact h)
theorem Mu.le_kill(μ:Mu)(b:Nat):μ.le (μ.upd b .dead):=fun x hx=>by
 by_cases e:x=b
 ·right;rw[e];exact av _ _ _
 ·left;exact aw _ _ e
theorem Rel.fresh(h:Rel P g0 μ g n w):μ n=.no:=by
 cases e:μ n with
 | no=>rfl
 | dead=>exact absurd (h.lt n (by rw[e];exact fun x=>by cases x)) (by omega)
 | «at» c p ez z=>exact absurd (h.lt n (by rw[e];exact fun x=>by cases x)) (by omega)
theorem MY(h:Array Obj)(ob:Obj):(h.push ob)[h.size]? =some ob:=by simp
theorem Bm(h:Array Obj)(ob:Obj){c:Nat}(hc:c < h.size):(h.push ob)[c]? =h[c]?:=by
 rw[Array.getElem?_push];rw[if_neg (by omega)]
theorem Rel.alloc{H:Heap}(h:Rel P g0 μ H.get H.n w){w':World}{ob:Obj}{o:IObj}{ez z:Nat}(hw:w'.heap=w.heap.push ob)
  (ho:ObjR P (μ.upd H.n (.at w.heap.size 0 ez z)) o 0 ez z (some ob)) (e1:w'.os=w.os) (e2:w'.tape=w.tape) (e3:w'.output=w.output) (e4:w.drawn≤w'.drawn:=by first | exact Nat.le_refl _ | exact Nat.le_succ _ | assumption | (simp;done) | omega):
  Rel P g0 (μ.upd H.n (.at w.heap.size 0 ez z)) (H.new o).get (H.new o).n w'∧
  Post lo μ H.get H.n w (μ.upd H.n (.at w.heap.size 0 ez z)) (H.new o).get (H.new o).n w':=by
 have hno:=h.fresh;have hle:=μ.le_upd (.at w.heap.size 0 ez z) hno;have old:∀b,b≠H.n→(H.new o).get b=H.get b:=fun b hb=>by rw[aj,if_neg (Ne.symm hb)]
 have neu:(H.new o).get H.n=some o:=by rw[aj,if_pos rfl]
 refine⟨⟨fun b hb=>?_,?_,?_,fun i hi=>?_,fun b hb=>?_⟩,⟨hle,by rw[ac];omega,fun b hb e=>?_,fun b _ hb=>?_,fun b hb ho=>?_,fun b c p ez z hb e=>?_,fun b h1 h2=>?_,?_,fun c hc _=>?_,e1,e2,e3,e4⟩⟩
 ·rw[ac];by_cases e:b=H.n
  ·omega
  ·rw[aw _ _ e] at hb;have:=h.lt b hb;omega
 ·intro b b' c p ez z p' ez' z' hb hb' hob;by_cases e:b=H.n
  ·subst e;rw[av] at hb;by_cases e':b'=H.n
   ·exact e'.symm
   ·rw[aw _ _ e'] at hb'
    have:=h.clt hb'
    injection hb with hc;omega
  ·rw[aw _ _ e] at hb;by_cases e':b'=H.n
   ·subst e';rw[av] at hb'
    have:=h.clt hb
    injection hb' with hc;omega
   ·rw[aw _ _ e'] at hb';refine h.inj b b' c p ez z p' ez' z' hb hb' ?_;obtain⟨x,hx,hy⟩:=hob;exact⟨x,by rw[←old b e];exact hx,hy⟩
 ·intro b c p ez' z' hb;by_cases e:b=H.n
  ·subst e;rw[av] at hb;injection hb with hc hp hez hz;subst hc hp hez hz;refine⟨o,neu,?_⟩;rw[hw,MY];exact ho
  ·rw[aw _ _ e] at hb;obtain⟨x,hx,hr⟩:=h.obj b c p ez' z' hb;refine⟨x,by rw[old b e];exact hx,?_⟩;rw[hw,Bm _ _ (h.clt hb)];exact hr.mono hle
 ·have hn:μ i≠.no:=by rw[h.glob i hi];exact fun x=>by cases x
  rw[aw _ _ (by have:=h.lt i hn;omega)];exact h.glob i hi
 ·by_cases e:b=H.n
  ·subst e;rw[av] at hb;cases hb
  ·rw[aw _ _ e] at hb;rw[old b e];exact h.ded b hb
 ·rw[aw _ _ (by omega)];exact e
 ·exact⟨aw _ _ (by omega),old b (by omega)⟩
 ·obtain⟨x,hx,hy⟩:=ho;exact⟨x,by rw[←old b (by omega)];exact hx,hy⟩
 ·by_cases eb:b=H.n
  ·subst eb;rw[av] at e;injection e with hc;exact .inl (by omega)
  ·rw[aw _ _ eb] at e;exact absurd (h.lt b (by rw[e];exact fun x=>by cases x)) (by omega)
 ·have e:b=H.n:=by rw[ac] at h2;omega
  subst e;rw[av];exact fun x=>by cases x
 ·rw[hw,Array.size_push];omega
 ·rw[hw,Bm _ _ hc]
theorem Rel.update{H:Heap}(h:Rel P g0 μ H.get H.n w){w':World}{b c p ez z:Nat}{o:IObj}(hb:μ b=.at c p ez z)(hlo:lo≤b)(hob:aY H.get b)
  (hsz:w'.heap.size=w.heap.size) (hoth:∀c',c'≠c→w'.heap[c']? =w.heap[c']?)
  (ho:ObjR P μ o p ez z w'.heap[c]?) (e1:w'.os=w.os) (e2:w'.tape=w.tape) (e3:w'.output=w.output) (e4:w.drawn≤w'.drawn:=by first | exact Nat.le_refl _ | exact Nat.le_succ _ | assumption | (simp;done) | omega):
  Rel P g0 μ (H.put b o).get (H.put b o).n w'∧Post lo μ H.get H.n w μ (H.put b o).get (H.put b o).n w':=by
 have old:∀x,x≠b→(H.put b o).get x=H.get x:=fun x hx=>by rw[aa,if_neg (Ne.symm hx)]
 have neu:(H.put b o).get b=some o:=by rw[aa,if_pos rfl]
 have hbn:b < H.n:=h.lt b (by rw[hb];exact fun x=>by cases x)
 have hown:∀x,aY (H.put b o).get x→aY H.get x:=fun x hx=>by
  by_cases e:x=b
  ·subst e;exact hob
  ·obtain⟨y,hy,hz⟩:=hx;exact⟨y,by rw[←old x e];exact hy,hz⟩
 refine⟨⟨h.lt,fun x x' c1 p1 ez1 z1 p2 ez2 z2 hx hx' hox=>h.inj x x' c1 p1 ez1 z1 p2 ez2 z2 hx hx' (hown x hox),fun x c1 p1 ez1 z1 hx=>?_,h.glob,fun x hx=>by rw[old x (fun e=>by subst e;rw[hb] at hx;cases hx)];exact h.ded x hx⟩,
  ⟨μ.le_refl,Nat.le_refl _,fun _ _ e=>e,fun x hxl _=>⟨rfl,old x (by omega)⟩,fun x _ hx=>hown x hx,fun x c1 p1 ez1 z1 hx e=>absurd (h.lt x (by rw[e];exact fun y=>by cases y)) (by omega),fun x h1 h2=>by rw[af] at h2;omega,by omega,fun c1 hc1 hno=>hoth c1 fun e=>?_,e1,e2,e3,e4⟩⟩
 ·by_cases e:x=b
  ·subst e;rw[hb] at hx;injection hx with a1 a2 a3 a4;subst a1 a2 a3 a4;exact⟨o,neu,ho⟩
  ·obtain⟨y,hy,hr⟩:=h.obj x c1 p1 ez1 z1 hx;refine⟨y,by rw[old x e];exact hy,?_⟩;rw[hoth c1 fun ec=>e ?_]
   ·exact hr
   ·subst ec;exact(h.inj b x c1 p ez z p1 ez1 z1 hb hx hob).symm
 ·subst e;exact hno b p ez z hlo hbn hob hb
theorem Rel.kill{H:Heap}(h:Rel P g0 μ H.get H.n w){b:Nat}(hlo:lo≤b)(hg:g0≤b)(hb:μ b≠.no):
  Rel P g0 (μ.upd b .dead) (H.put b .dead).get (H.put b .dead).n w∧Post lo μ H.get H.n w (μ.upd b .dead) (H.put b .dead).get (H.put b .dead).n w:=by
 have old:∀x,x≠b→(H.put b .dead).get x=H.get x:=fun x hx=>by rw[aa,if_neg (Ne.symm hx)]
 have neu:(H.put b .dead).get b=some .dead:=by rw[aa,if_pos rfl]
 have hbn:b < H.n:=h.lt b hb;have hle:=μ.le_kill b
 have hne:∀x c p ez z,μ.upd b .dead x=.at c p ez z→x≠b∧μ x=.at c p ez z:=fun x c p ez z hx=>by
  by_cases e:x=b
  ·subst e;rw[av] at hx;cases hx
  ·rw[aw _ _ e] at hx;exact⟨e,hx⟩
 have hown:∀x,aY (H.put b .dead).get x→aY H.get x:=fun x hx=>by
  by_cases e:x=b
  ·subst e;obtain⟨y,hy,hz⟩:=hx;rw[neu] at hy;injection hy with hy;subst hy;cases hz
  ·obtain⟨y,hy,hz⟩:=hx;exact⟨y,by rw[←old x e];exact hy,hz⟩
 refine⟨⟨fun x hx=>?_,fun x x' c p ez z p' ez' z' hx hx' ho=>h.inj x x' c p ez z p' ez' z' (hne _ _ _ _ _ hx).2 (hne _ _ _ _ _ hx').2 (hown x ho),fun x c p ez z hx=>?_,fun i hi=>?_,fun x hx=>?_⟩,
  ⟨hle,Nat.le_refl _,fun x hx e=>?_,fun x hxl hx=>⟨aw _ _ (by omega),old x (by omega)⟩,fun x _ hx=>hown x hx,fun x c p ez z hx e=>absurd (h.lt x (by rw[(hne _ _ _ _ _ e).2];exact fun y=>by cases y)) (by omega),fun x h1 h2=>by rw[af] at h2;omega,Nat.le_refl _,fun _ _ _=>rfl,rfl,rfl,rfl,Nat.le_refl _⟩⟩
 ·by_cases e:x=b
  ·subst e;exact hbn
  ·rw[aw _ _ e] at hx;exact h.lt x hx
 ·obtain⟨e,hx⟩:=hne _ _ _ _ _ hx;obtain⟨y,hy,hr⟩:=h.obj x c p ez z hx;exact⟨y,by rw[old x e];exact hy,hr.mono hle⟩
 ·rw[aw _ _ (by omega)];exact h.glob i hi
 ·by_cases e:x=b
  ·subst e;exact neu
  ·rw[aw _ _ e] at hx;rw[old x e];exact h.ded x hx
 ·by_cases e':x=b
  ·subst e';exact absurd e hb
  ·rw[aw _ _ e'];exact e
theorem Rel.regrow{H:Heap}(h:Rel P g0 μ H.get H.n w){w':World}{b c ez z:Nat}{o:IObj}(hb:μ b=.at c 0 ez z)(hlo:lo≤b)(hg:g0≤b)(hob:aY H.get b)
  (hsz:w'.heap.size=w.heap.size) (hoth:∀c',c'≠c→w'.heap[c']? =w.heap[c']?)
  (ho:ObjR P ((μ.upd b .dead).upd H.n (.at c 0 ez z)) o 0 ez z w'.heap[c]?) (e1:w'.os=w.os) (e2:w'.tape=w.tape) (e3:w'.output=w.output) (e4:w.drawn≤w'.drawn:=by first | exact Nat.le_refl _ | exact Nat.le_succ _ | assumption | (simp;done) | omega):
  Rel P g0 ((μ.upd b .dead).upd H.n (.at c 0 ez z)) ((H.put b .dead).new o).get ((H.put b .dead).new o).n w'∧
  Post lo μ H.get H.n w ((μ.upd b .dead).upd H.n (.at c 0 ez z)) ((H.put b .dead).new o).get ((H.put b .dead).new o).n w':=by
 have hbn:b < H.n:=h.lt b (by rw[hb];exact fun x=>by cases x)
 have old:∀x,x≠b→x≠H.n→((H.put b .dead).new o).get x=H.get x:=fun x hx hx'=>by
  rw[aj,if_neg (by rw[af];exact Ne.symm hx'),aa,if_neg (Ne.symm hx)]
 have neu:((H.put b .dead).new o).get H.n=some o:=by rw[aj,af,if_pos rfl]
 have dea:((H.put b .dead).new o).get b=some .dead:=by rw[aj,af,if_neg (by omega),aa,if_pos rfl]
 have mb:(μ.upd b .dead).upd H.n (.at c 0 ez z) b=.dead:=by rw[aw _ _ (by omega),av]
 have mn:(μ.upd b .dead).upd H.n (.at c 0 ez z) H.n=.at c 0 ez z:=av _ _ _;have mo:∀x,x≠b→x≠H.n→(μ.upd b .dead).upd H.n (.at c 0 ez z) x=μ x:=fun x hx hx'=>by rw[aw _ _ hx',aw _ _ hx]
 have hle:μ.le ((μ.upd b .dead).upd H.n (.at c 0 ez z)):=fun x hx=>by
  by_cases e:x=b
  ·subst e;exact .inr mb
  ·exact .inl (mo x e fun e'=>by subst e';exact hx h.fresh)
 have cases3:∀x c' p' ez' z',(μ.upd b .dead).upd H.n (.at c 0 ez z) x=.at c' p' ez' z'→(x=H.n∧c'=c∧p'=0∧ez'=ez∧z'=z)∨(x≠b∧x≠H.n∧μ x=.at c' p' ez' z'):=by
  intro x c' p' ez' z' hx;by_cases e:x=H.n
  ·subst e;rw[mn] at hx;injection hx with a1 a2 a3 a4;exact .inl ⟨rfl,a1.symm,a2.symm,a3.symm,a4.symm⟩
  ·by_cases e':x=b
   ·subst e';rw[mb] at hx;cases hx
   ·rw[mo x e' e] at hx;exact .inr ⟨e',e,hx⟩
 have hown:∀x,x < H.n→aY ((H.put b .dead).new o).get x→aY H.get x:=fun x hx ho'=>by
  obtain⟨y,hy,hz⟩:=ho';by_cases e:x=b
  ·subst e;exact hob
  ·exact⟨y,by rw[←old x e (by omega)];exact hy,hz⟩
 refine⟨⟨fun x hx=>?_,fun x x' c1 p1 ez1 z1 p2 ez2 z2 hx hx' hox=>?_,fun x c1 p1 ez1 z1 hx=>?_,fun i hi=>?_,fun x hx=>?_⟩,
  ⟨hle,by rw[ac,af];omega,fun x hx e=>?_,fun x hxl hx=>⟨mo x (by omega) (by omega),old x (by omega) (by omega)⟩,fun x hx ho'=>hown x hx ho',fun x c1 p1 ez1 z1 hx e=>?_,fun x h1 h2=>?_,by omega,fun c1 hc1 hno=>hoth c1 fun e=>?_,e1,e2,e3,e4⟩⟩
 ·rw[ac,af];by_cases e:x=H.n
  ·omega
  ·by_cases e':x=b
   ·omega
   ·rw[mo x e' e] at hx;have:=h.lt x hx;omega
 ·rcases cases3 _ _ _ _ _ hx with⟨a,a1, -⟩ | ⟨a,a',a1⟩
  ·rcases cases3 _ _ _ _ _ hx' with⟨d, -⟩ | ⟨d,d',d1⟩
   ·rw[a,d]
   ·subst a1;exact absurd (h.inj b x' c1 0 ez z p2 ez2 z2 hb d1 hob).symm d
  ·have hlt:=h.lt x (by rw[a1];exact fun x=>by cases x);rcases cases3 _ _ _ _ _ hx' with⟨d,d1, -⟩ | ⟨d,d',d1⟩
   ·subst d1;exact absurd (h.inj b x c1 0 ez z p1 ez1 z1 hb a1 hob).symm a
   ·exact h.inj x x' c1 p1 ez1 z1 p2 ez2 z2 a1 d1 (hown x hlt hox)
 ·rcases cases3 _ _ _ _ _ hx with⟨a,a1,a2,a3,a4⟩ | ⟨a,a',a1⟩
  ·subst a a1 a2 a3 a4;exact⟨o,neu,ho⟩
  ·obtain⟨y,hy,hr⟩:=h.obj x c1 p1 ez1 z1 a1;refine⟨y,by rw[old x a a'];exact hy,?_⟩;rw[hoth c1 fun ec=>a ?_]
   ·exact hr.mono hle
   ·subst ec;exact(h.inj b x c1 0 ez z p1 ez1 z1 hb a1 hob).symm
 ·have hn:μ i≠.no:=by rw[h.glob i hi];exact fun x=>by cases x
  rw[mo i (by omega) (by have:=h.lt i hn;omega)];exact h.glob i hi
 ·by_cases e:x=b
  ·subst e;exact dea
  ·by_cases e':x=H.n
   ·subst e';rw[mn] at hx;cases hx
   ·rw[mo x e e'] at hx;rw[old x e e'];exact h.ded x hx
 ·by_cases e':x=b
  ·subst e';rw[hb] at e;cases e
  ·rw[mo x e' (by omega)];exact e
 ·rcases cases3 _ _ _ _ _ e with⟨a,a1, -⟩ | ⟨a,a',a1⟩
  ·subst a1;exact .inr ⟨b,0,ez,z,hlo,hbn,hob,hb⟩
  ·exact absurd (h.lt x (by rw[a1];exact fun y=>by cases y)) (by omega)
 ·have e:x=H.n:=by rw[ac,af] at h2;omega
  subst e;rw[mn];exact fun x=>by cases x
 ·subst e;exact hno b 0 ez z hlo hbn hob hb
end
section
variable {P:Program}{g0 lo:Nat}{μ:Mu}{H:Heap}{w:World}
def Gives(P:Program)(g0 lo:Nat)(μ:Mu)(H:Heap)(w:World)(s:Sem Next)(v:IV)(H':Heap):Prop:=
 ∃(nx:Next) (v':Value) (w':World) (μ':Mu),s.run P w=.ok nx w'∧(nx=.value v'∨(nx=.skip∧v'=undef))∧
  Rel P g0 μ' H'.get H'.n w'∧Post lo μ H.get H.n w μ' H'.get H'.n w'∧VR μ' v v'
theorem Gives.pure(h:Rel P g0 μ H.get H.n w){s:Sem Next}{v:IV}{v':Value}(hr:s.run P w=.ok (.value v') w)(hv:VR μ v v'):Gives P g0 lo μ H w s v H:=
 ⟨_,v',w,μ,hr,.inl rfl,h,Post.refl h,hv⟩
theorem aO{x:IV}{l:List Value}(h:VRs μ [x] l):∃a,l=[a]∧VR μ x a:=by
 obtain⟨a,l1,rfl,h1,h2⟩:=h;cases h2;exact⟨a,rfl,h1⟩
theorem ba{x y:IV}{l:List Value}(h:VRs μ [x,y] l):∃a b,l=[a,b]∧VR μ x a∧VR μ y b:=by
 obtain⟨a,l1,rfl,h1,h2⟩:=h;obtain⟨b,rfl,h3⟩:=aO h2;exact⟨a,b,rfl,h1,h3⟩
theorem mv{x y z:IV}{l:List Value}(h:VRs μ [x,y,z] l):∃a b c,l=[a,b,c]∧VR μ x a∧VR μ y b∧VR μ z c:=by
 obtain⟨a,l1,rfl,h1,h2⟩:=h;obtain⟨b,c,rfl,h3,h4⟩:=ba h2;exact⟨a,b,c,rfl,h1,h3,h4⟩
theorem dZ{k:IntKind}{n:Int}{v:Value}(h:VR μ (.int k n) v):v=.int k n:=h
theorem jL{b:Bool}{v:Value}(h:VR μ (.bool b) v):v=.bool b:=h
theorem ut{s:List UInt8}{v:Value}(h:VR μ (.str s) v):v=.string ⟨⟨s⟩⟩:=h
theorem aP{t:TypeId}{n:Nat}(h:aJ P t=some n)(w:World):(sizeOf t).run P w=.ok n w:=by
 unfold aJ at h
 cases hi:P.info? t with
 | none=>rw[hi] at h;cases h
 | some i=>rw[hi] at h;injection h with h;subst h;simp[sizeOf,typeInfo,hi]
theorem vp{t:TypeId}{n:Nat}(h:aJ P t=some n):∃i,P.info? t=some i∧i.size=n:=by
 unfold aJ at h
 cases hi:P.info? t with
 | none=>rw[hi] at h;cases h
 | some i=>rw[hi] at h;injection h with h;exact⟨i,rfl,h⟩
theorem nU{t:TypeId}{n:Nat}(h:hZ P t=some n):∃i,P.info? t=some i∧i.bytes=n:=by
 unfold hZ at h
 cases hi:P.info? t with
 | none=>rw[hi] at h;cases h
 | some i=>rw[hi] at h;injection h with h;exact⟨i,rfl,h⟩
theorem sU:∀(n:Nat) (v:Value) (x:IV),pr n v=some x→∀μ:Mu,VR μ x v:=by
 intro n
 induction n with
 | zero=>intro v x h;cases h
 | succ n ih=>
   intro v x h μ;unfold pr at h;split at h
   ·injection h with h;subst h;rfl
   ·injection h with h;subst h;rfl
   ·injection h with h;subst h;rfl
   ·injection h with h;subst h;rfl
   ·injection h with h;subst h;rfl
   ·injection h with h;subst h;rfl
   ·injection h with h;subst h;rfl
   ·injection h with h;subst h;rfl
   ·rename_i cs
    cases hm:List.mapM (pr n) cs.toList with
    | none=>rw[hm] at h;cases h
    | some l=>
      rw[hm] at h;injection h with h;subst h;refine⟨cs,rfl,?_⟩
      have key:∀(vs:List Value) (l:List IV),vs.mapM (pr n)=some l→VRs μ l vs:=by
       intro vs
       induction vs with
       | nil=>intro l hl;simp at hl;subst hl;rfl
       | cons a vs ihv=>
         intro l hl;simp only[List.mapM_cons] at hl
         cases ha:pr n a with
         | none=>rw[ha] at hl;cases hl
         | some x=>
           rw[ha] at hl
           cases hr:vs.mapM (pr n) with
           | none=>rw[hr] at hl;cases hl
           | some xs=>
             rw[hr] at hl;injection hl with hl;subst hl;exact⟨a,vs,rfl,ih a x ha μ,ihv xs hr⟩
      exact key _ _ hm
   ·cases h
theorem gU{t:TypeId}{z:IV}(h:fk P t=some z):∃i zv,P.info? t=some i∧i.zero=some zv∧∀μ:Mu,VR μ z zv:=by
 unfold fk at h
 cases hi:P.info? t with
 | none=>rw[hi] at h;cases h
 | some i=>
   rw[hi] at h
   cases hz:i.zero with
   | none=>simp[hz] at h
   | some zv=>simp[hz] at h;exact⟨i,zv,rfl,hz,sU 3 zv z h⟩
theorem VR.cells_{x:IV}{v:Value}(h:VR μ x v):VRs μ x.cells v.cells.toList:=by
 cases x with
 | agg l=>obtain⟨l',rfl,hl⟩:=h;exact hl
 | ptr b o=>obtain⟨a,rfl,ha⟩:=h;exact⟨_,_,rfl,⟨a,rfl,ha⟩,rfl⟩
 | slice b o n lb ex=>obtain⟨a,c,rfl,ha⟩:=h;exact⟨_,_,rfl,⟨a,c,rfl,ha⟩,rfl⟩
 | map b=>obtain⟨a,rfl,ha⟩:=h;exact⟨_,_,rfl,⟨a,rfl,ha⟩,rfl⟩
 | fn f a b=>obtain⟨l,r,rfl,ha⟩:=h;exact⟨_,_,rfl,⟨l,r,rfl,ha⟩,rfl⟩
 | yield b=>obtain⟨a,rfl,ha⟩:=h;exact⟨_,_,rfl,⟨a,rfl,ha⟩,rfl⟩
 | iface t x=>obtain⟨a,rfl,ha⟩:=h;exact⟨_,_,rfl,⟨a,rfl,ha⟩,rfl⟩
 | tuple l=>obtain⟨l',rfl,hl⟩:=h;exact⟨_,_,rfl,⟨l',rfl,hl⟩,rfl⟩
 | bool b=>cases h;exact⟨_,_,rfl,rfl,rfl⟩
 | int k n=>cases h;exact⟨_,_,rfl,rfl,rfl⟩
 | str s=>cases h;exact⟨_,_,rfl,rfl,rfl⟩
 | nilPtr=>cases h;exact⟨_,_,rfl,rfl,rfl⟩
 | nilSlice=>cases h;exact⟨_,_,rfl,rfl,rfl⟩
 | nilMap=>cases h;exact⟨_,_,rfl,rfl,rfl⟩
 | nilFunc=>cases h;exact⟨_,_,rfl,rfl,rfl⟩
 | nilIface=>cases h;exact⟨_,_,rfl,rfl,rfl⟩
theorem VR.one_cell{x:IV}{v:Value}(h:VR μ x v)(ho:x.one=true):v.oneCell'=true:=by
 cases x with
 | agg l=>cases ho
 | tuple l=>cases ho
 | ptr b o=>obtain⟨a,rfl,ha⟩:=h;rfl
 | slice b o n lb ex=>obtain⟨a,c,rfl,ha⟩:=h;rfl
 | map b=>obtain⟨a,rfl,ha⟩:=h;rfl
 | fn f a b=>obtain⟨l,r,rfl,ha⟩:=h;rfl
 | yield b=>obtain⟨a,rfl,ha⟩:=h;rfl
 | iface t x=>obtain⟨a,rfl,ha⟩:=h;rfl
 | _=>cases h;rfl
theorem VRs.one_cells:∀{l:List IV} {l':List Value},VRs μ l l'→l.all IV.one=true→∀v∈l',v.oneCell'=true
 | [],_,h,_,v,hv=>by cases h;cases hv
 | x::xs,_,h,ho,v,hv=>by
   obtain⟨y,ys,rfl,h1,h2⟩:=h;simp only[List.all_cons,Bool.and_eq_true] at ho
   cases hv with
   | head=>exact h1.one_cell ho.1
   | tail _ hv=>exact VRs.one_cells h2 ho.2 v hv
end
section
variable {P:Program}{g0 lo:Nat}{μ:Mu}{H:Heap}{w:World}{ρ:Operand→Value}{type:TypeId}{pos:String}{dst:Option Tmp}{after:Array Edge}{guard:Option (Nat×Bool)}
 {xs:List IV} {v:IV} {H':Heap}
theorem I5(h:Rel P g0 μ H.get H.n w){x:Operand}(he:ev1 .move xs lo H=some (v,H'))(hx:VRs μ xs [ρ x]):
  Gives P g0 lo μ H w (execOp ρ ⟨dst,.move x,type,pos,after,guard⟩) v H'∧Gives P g0 lo μ H w (execOp ρ ⟨dst,.assign x,type,pos,after,guard⟩) v H':=by
 simp only[ev1] at he;split at he
 ·injection he with he;injection he with e1 e2;subst e1 e2;obtain⟨y,hy,hv⟩:=aO hx;injection hy with hy;exact⟨Gives.pure h (v':=ρ x) (by simp[execOp]) (by rw[hy];exact hv),Gives.pure h (v':=ρ x) (by simp[execOp]) (by rw[hy];exact hv)⟩
 ·cases he
theorem Qc(h:Rel P g0 μ H.get H.n w){c a b:Operand}(he:ev1 .pick xs lo H=some (v,H'))(hx:VRs μ xs [ρ c,ρ a,ρ b]):
  Gives P g0 lo μ H w (execOp ρ ⟨dst,.pick c a b,type,pos,after,guard⟩) v H':=by
 simp only[ev1] at he;split at he
 ·rename_i c1 a1 b1;injection he with he;injection he with e1 e2;subst e1 e2;obtain⟨y1,y2,y3,hy,h1,h2,h3⟩:=mv hx;simp only[List.cons.injEq,and_true] at hy;obtain⟨rfl,rfl,rfl⟩:=hy;cases c1
  ·exact Gives.pure h (v':=ρ b) (by simp[execOp,jL h1,asBool]) (by simpa using h3)
  ·exact Gives.pure h (v':=ρ a) (by simp[execOp,jL h1,asBool]) (by simpa using h2)
 ·cases he
theorem Dj(h:Rel P g0 μ H.get H.n w){x:Operand}(he:ev1 .nilCheck xs lo H=some (v,H'))(hx:VRs μ xs [ρ x]):
  Gives P g0 lo μ H w (execOp ρ ⟨dst,.nilCheck x,type,pos,after,guard⟩) v H':=by
 simp only[ev1] at he;split at he
 ·rename_i a;obtain⟨y,hy,hv⟩:=aO hx;injection hy with hy;subst hy
  cases a<;>simp only[reduceCtorEq] at he<;>(injection he with he;injection he with e1 e2;subst e1 e2)
  case fn f l r=>
   obtain⟨l',r',e,hl⟩:=hv;exact Gives.pure h (v':=ρ x) (by simp[execOp,e]) ⟨l',r',e,hl⟩
  case ptr b o=>
   obtain⟨a,e,hl⟩:=hv;exact Gives.pure h (v':=ρ x) (by simp[execOp,e]) ⟨a,e,hl⟩
  case slice b o n lb ex=>
   obtain⟨a,c,e,hl⟩:=hv;exact Gives.pure h (v':=ρ x) (by simp[execOp,e]) ⟨a,c,e,hl⟩
  case map b=>
   obtain⟨a,e,hl⟩:=hv;exact Gives.pure h (v':=ρ x) (by simp[execOp,e]) ⟨a,e,hl⟩
  case iface t u=>
   obtain⟨a,e,hl⟩:=hv;exact Gives.pure h (v':=ρ x) (by simp[execOp,e]) ⟨a,e,hl⟩
  case agg l=>
   obtain⟨a,e,hl⟩:=hv;exact Gives.pure h (v':=ρ x) (by simp[execOp,e]) ⟨a,e,hl⟩
  case tuple l=>
   obtain⟨a,e,hl⟩:=hv;exact Gives.pure h (v':=ρ x) (by simp[execOp,e]) ⟨a,e,hl⟩
  all_goals
   have e:ρ x=_:=hv;exact Gives.pure h (v':=ρ x) (by simp[execOp,e]) e
 ·cases he
theorem K5{op:BinOp}{k k':IntKind}{a b:Int}{r:IV}(hr:nX op (.int k a) (.int k' b)=some r)(t:TypeId):
  ∃r':Value,(binOp op t (.int k a) (.int k' b)).run P w=.ok r' w∧∀μ:Mu,VR μ r r':=by
 cases op<;>simp only[nX] at hr
 case shl=>
  by_cases hb:b < 0
  ·rw[if_pos hb] at hr;cases hr
  ·rw[if_neg hb] at hr;injection hr with hr;subst hr;exact⟨_,by simp[binOp,Op.shift,hb],fun _=>rfl⟩
 case shr=>
  by_cases hb:b < 0
  ·rw[if_pos hb] at hr;cases hr
  ·rw[if_neg hb] at hr;injection hr with hr;subst hr;exact⟨_,by simp[binOp,Op.shift,hb],fun _=>rfl⟩
 all_goals
  by_cases hk:k=k'
  ·subst hk;simp only[if_true] at hr
   first
    | (injection hr with hr;subst hr;exact⟨_,by simp[binOp,Op.intArith,Op.intBits,Op.intCmp]<;>rfl,fun _=>rfl⟩)
    | (by_cases hb:b=0
       ·rw[if_pos hb] at hr;cases hr
       ·rw[if_neg hb] at hr;injection hr with hr;subst hr;exact⟨_,by simp[binOp,Op.intDiv,hb]<;>rfl,fun _=>rfl⟩)
  ·rw[if_neg hk] at hr;cases hr
theorem nS{s:ByteArray}{l:List UInt8}(h:s.data.toList=l):s=⟨⟨l⟩⟩:=by
 subst h;rfl
theorem FT(l:List UInt8):(ByteArray.mk (Array.mk l)).toList=l:=by rw[ByteArray.toList_eq]
theorem K4{op:BinOp}{a b:List UInt8}{r:IV}(hr:nX op (.str a) (.str b)=some r)(t:TypeId):
  ∃r':Value,(binOp op t (.string ⟨⟨a⟩⟩) (.string ⟨⟨b⟩⟩)).run P w=.ok r' w∧∀μ:Mu,VR μ r r':=by
 cases op<;>simp only[nX,reduceCtorEq] at hr
 case add=>
  split at hr
  ·rename_i hl;injection hr with hr;subst hr;refine⟨.string (⟨⟨a⟩⟩++⟨⟨b⟩⟩),?_,fun _=>?_⟩
   ·have h1:¬((((ByteArray.mk ⟨a⟩).size+(ByteArray.mk ⟨b⟩).size:Nat):Int)>IntKind.i64.max):=by
     have e1:(ByteArray.mk ⟨a⟩).size=a.length:=rfl;have e2:(ByteArray.mk ⟨b⟩).size=b.length:=rfl;have e3:IntKind.i64.max=9223372036854775807:=rfl;rw[e1,e2,e3];omega
    simp only[binOp,Op.stringOp];rw[if_neg h1];simp
   ·show Value.string _=Value.string _
    exact congrArg Value.string (nS (by simp))
  ·cases hr
 all_goals
  injection hr with hr;subst hr;exact⟨_,by simp[binOp,Op.stringOp,FT]<;>rfl,fun _=>rfl⟩
theorem hX{op:BinOp}{t:TypeId}{x y:Operand}{a b:Value}(ha:∀cs,a≠.agg cs)(hb:a≠.nilIface):(eqGuard op t x y a b).run P w=.ok () w:=by
 cases op<;>simp[eqGuard]<;>cases a<;>simp_all
theorem Jf(h:Rel P g0 μ H.get H.n w){op:BinOp}{t t2:TypeId}{x y:Operand}(he:ev1 (.bin op) xs lo H=some (v,H'))(hx:VRs μ xs [ρ x,ρ y]):
  Gives P g0 lo μ H w (execOp ρ ⟨dst,.binOp op t x y t2,type,pos,after,guard⟩) v H':=by
 simp only[ev1] at he;split at he
 ·rename_i a b;obtain⟨y1,y2,hy,h1,h2⟩:=ba hx;simp only[List.cons.injEq,and_true] at hy;obtain⟨rfl,rfl⟩:=hy
  cases hr:nX op a b with
  | none=>rw[hr] at he;cases he
  | some r=>
    rw[hr] at he;injection he with he;injection he with e1 e2;subst e1 e2
    cases a with
    | int k n=>
      cases b with
      | int k' m=>
        obtain⟨r',hrun,hv⟩:=K5 (P:=P) (w:=w) hr t;refine Gives.pure h (v':=r') ?_ (hv μ);simp only[execOp,dZ h1,dZ h2];simp[hX,hrun]
      | _=>cases op<;>simp[nX] at hr
    | str s=>
      cases b with
      | str s'=>
        obtain⟨r',hrun,hv⟩:=K4 (P:=P) (w:=w) hr t;refine Gives.pure h (v':=r') ?_ (hv μ);simp only[execOp,ut h1,ut h2];simp[hX,hrun]
      | _=>cases op<;>simp[nX] at hr
    | _=>cases op<;>simp[nX] at hr
 ·cases he
theorem Jc(h:Rel P g0 μ H.get H.n w){op:BinOp}{neg:Bool}{t t2:TypeId}{x y:Operand}(ht:P.underlying t=some .bool)(hop:op=.eql∧neg=false∨op=.neq∧neg=true)
  (he:ev1 (.eqBool neg) xs lo H=some (v,H')) (hx:VRs μ xs [ρ x,ρ y]):
  Gives P g0 lo μ H w (execOp ρ ⟨dst,.binOp op t x y t2,type,pos,after,guard⟩) v H':=by
 simp only[ev1] at he;split at he
 ·rename_i a b;injection he with he;injection he with e1 e2;subst e1 e2;obtain⟨y1,y2,hy,h1,h2⟩:=ba hx;simp only[List.cons.injEq,and_true] at hy;obtain⟨rfl,rfl⟩:=hy;have heq:∀d:Nat,(Op.equalIn (d+1) t (.bool a) (.bool b)).run P w=.ok (a==b) w:=fun d=>by simp[Op.equalIn,run_underlying ht]
  have heq':(Op.equal t (.bool a) (.bool b)).run P w=.ok (a==b) w:=heq 9999;rcases hop with⟨rfl,rfl⟩ | ⟨rfl,rfl⟩
  ·refine Gives.pure h (v':=.bool (a==b)) ?_ (by simp[VR]);simp only[execOp,jL h1,jL h2];simp[hX,binOp,heq']
  ·refine Gives.pure h (v':=.bool (!(a==b))) ?_ (by simp[VR]);simp only[execOp,jL h1,jL h2];simp[hX,binOp,heq']
 ·cases he
theorem UD(h:Rel P g0 μ H.get H.n w){op:UnOp}{t:TypeId}{x:Operand}(he:ev1 (.un op) xs lo H=some (v,H'))(hx:VRs μ xs [ρ x]):
  Gives P g0 lo μ H w (execOp ρ ⟨dst,.unOp op t x,type,pos,after,guard⟩) v H':=by
 simp only[ev1] at he;split at he
 ·rename_i a;obtain⟨y,hy,hv⟩:=aO hx;injection hy with hy;subst hy
  cases hr:P4 op a with
  | none=>rw[hr] at he;cases he
  | some r=>
    rw[hr] at he;injection he with he;injection he with e1 e2;subst e1 e2
    cases a with
    | int k n=>
      have e:=dZ hv
      cases op<;>simp[P4] at hr<;>subst hr
      ·exact Gives.pure h (by simp[execOp,e,Op.unary,Op.intArith]<;>rfl) rfl
      ·exact Gives.pure h (by simp[execOp,e,Op.unary,Op.intBits]<;>rfl) rfl
    | bool b=>
      have e:=jL hv
      cases op<;>simp[P4] at hr
      subst hr;exact Gives.pure h (by simp[execOp,e,Op.unary]<;>rfl) rfl
    | _=>simp[P4] at hr
 ·cases he
theorem Qh(h:Rel P g0 μ H.get H.n w){k k0:IntKind}{s d:TypeId}{x:Operand}(hs:P.underlying s=some (.int k0))(hd:P.underlying d=some (.int k))
  (he:ev1 (.conv k) xs lo H=some (v,H')) (hx:VRs μ xs [ρ x]):
  Gives P g0 lo μ H w (execOp ρ ⟨dst,.convert s d x,type,pos,after,guard⟩) v H':=by
 simp only[ev1] at he;split at he
 ·rename_i k1 n;injection he with he;injection he with e1 e2;subst e1 e2;obtain⟨y,hy,hv⟩:=aO hx;injection hy with hy;subst hy;exact Gives.pure h (by simp[execOp,dZ hv,convert,run_underlying hs,run_underlying hd,Conv.intToInt]<;>rfl) rfl
 ·cases he
theorem ML(h:Rel P g0 μ H.get H.n w){t:TypeId}{d:TypeDesc}{x:Operand}(ht:P.underlying t=some d)(hd:∀ms,d≠.interface ms)(he:ev1 (.iface t) xs lo H=some (v,H'))(hx:VRs μ xs [ρ x]):
  Gives P g0 lo μ H w (execOp ρ ⟨dst,.makeInterface t x,type,pos,after,guard⟩) v H':=by
 simp only[ev1] at he;split at he
 ·rename_i a;injection he with he;injection he with e1 e2;subst e1 e2;obtain⟨y,hy,hv⟩:=aO hx;injection hy with hy;subst hy;refine Gives.pure h (v':=.iface t (ρ x)) ?_ ⟨_,rfl,hv⟩
  cases d<;>simp_all [execOp,Instr.makeInterface,run_underlying ht]
 ·cases he
theorem Qe(h:Rel P g0 μ H.get H.n w){f:FuncId}{first cap:Array Operand}(he:ev1 (.mkfn f first.size) xs lo H=some (v,H'))(hx:VRs μ xs ((first++cap).toList.map ρ)):
  Gives P g0 lo μ H w (execOp ρ ⟨dst,.makeFunc (.func f) first cap,type,pos,after,guard⟩) v H':=by
 simp only[ev1] at he;injection he with he;injection he with e1 e2;subst e1 e2;refine Gives.pure h (v':=.func (.func f) (first.map ρ) (cap.map ρ)) (by simp[execOp,Instr.makeFunc]) ⟨_,_,rfl,?_,?_⟩
 ·have:=hx.take first.size
  have e:List.take first.size ((first++cap).toList.map ρ)=(first.map ρ).toList:=by simp[List.map_take,List.take_append]
  rw[e] at this;exact this
 ·have:=hx.drop first.size
  have e:List.drop first.size ((first++cap).toList.map ρ)=(cap.map ρ).toList:=by simp[List.drop_append]
  rw[e] at this;exact this
theorem Gc(h:Rel P g0 μ H.get H.n w){i:Nat}{x:Operand}(he:ev1 (.extract i) xs lo H=some (v,H'))(hx:VRs μ xs [ρ x]):
  Gives P g0 lo μ H w (execOp ρ ⟨dst,.extract x i,type,pos,after,guard⟩) v H':=by
 simp only[ev1] at he;split at he
 ·rename_i l
  cases hl:l[i]? with
  | none=>rw[hl] at he;cases he
  | some r=>
    rw[hl] at he;injection he with he;injection he with e1 e2;subst e1 e2;obtain⟨y,hy,hv⟩:=aO hx;injection hy with hy;subst hy;obtain⟨l',e,hr⟩:=hv;obtain⟨u,hu,hvu⟩:=hr.get hl;have hu':l'[i]? =some u:=by simpa using hu
    exact Gives.pure h (v':=u) (by simp[execOp,e,Instr.extract,hu']) hvu
 ·cases he
end
section
variable {P:Program}{g0 lo:Nat}{μ:Mu}{H:Heap}{w:World}{ρ:Operand→Value}{type:TypeId}{pos:String}{dst:Option Tmp}{after:Array Edge}{guard:Option (Nat×Bool)}
 {xs:List IV} {v:IV} {H':Heap}
theorem sj{t:TypeId}{n:Option Nat}(h:pO P t=some n):
  (n=none∧(∀w:World,(isAgg t).run P w=.ok false w))∨(∃k,n=some k∧aJ P t=some k∧(∀w:World,(isAgg t).run P w=.ok true w)):=by
 unfold pO at h
 cases hu:P.underlying t with
 | none=>simp[hu] at h
 | some d=>
   cases hs:aJ P t with
   | none=>cases d<;>simp[hu,hs] at h
   | some k=>
     cases d<;>simp[hu,hs] at h<;>subst h<;>
      first
       | exact .inl ⟨rfl,fun w=>by simp[isAgg,run_underlying hu]⟩
       | exact .inr ⟨k,rfl,rfl,fun w=>by simp[isAgg,run_underlying hu]⟩
theorem vB{t:TypeId}{n:Option Nat}(ha:pO P t=some n){cs:List IV}{cs':Array Value}(hc:VRs μ cs cs'.toList){off:Nat}{r:IV}(hlen:off+n.getD 1≤cs.length)
  (hr:ak n ((cs.drop off).take (n.getD 1))=some r):∃r':Value,(part t cs' off).run P w=.ok r' w∧VR μ r r':=by
 rcases sj ha with⟨rfl,hagg⟩ | ⟨k,rfl,hs,hagg⟩
 ·simp only[Option.getD_none] at hr hlen;have hlt:off < cs.length:=by omega
  have e:(cs.drop off).take 1=[cs[off]]:=by rw[List.drop_eq_getElem_cons hlt];rfl
  rw[e] at hr;injection hr with hr;subst hr;obtain⟨y,hy,hv⟩:=hc.get (i:=off) (x:=cs[off]) (List.getElem?_eq_getElem hlt);have hy':cs'[off]? =some y:=by simpa using hy
  exact⟨y,by simp[part,hagg,hy'],hv⟩
 ·injection hr with hr;subst hr;refine⟨.agg (cs'.extract off (off+k)),by simp[part,hagg,aP hs],_,rfl,?_⟩
  have:=(hc.drop off).take k
  have e:(cs'.extract off (off+k)).toList=(cs'.toList.drop off).take k:=by simp[List.extract_eq_take_drop]
  rw[e];exact this
theorem qD{t:TypeId}{i:Nat}{f:Field}(h:ka P t i=some f):∃fs:Array Field,P.underlying t=some (.struct fs)∧fs[i]? =some f:=by
 unfold ka at h;split at h
 ·rename_i fs hu;exact⟨fs,hu,h⟩
 ·cases h
theorem MN(h:Rel P g0 μ H.get H.n w){t:TypeId}{x:Operand}{i:Nat}{f:Field}{n:Option Nat}(hf:ka P t i=some f)(ha:pO P f.type=some n)
  (he:ev1 (.field f.offset n) xs lo H=some (v,H')) (hx:VRs μ xs [ρ x]):
  Gives P g0 lo μ H w (execOp ρ ⟨dst,.field t x i,type,pos,after,guard⟩) v H':=by
 obtain⟨fs,hu,hi⟩:=qD hf;simp only[ev1] at he;split at he
 ·rename_i cs;split at he
  ·rename_i hlen
   cases hr:ak n ((cs.drop f.offset).take (n.getD 1)) with
   | none=>rw[hr] at he;cases he
   | some r=>
     rw[hr] at he;injection he with he;injection he with e1 e2;subst e1 e2;obtain⟨y,hy,l',e,hl⟩:=aO hx;injection hy with hy;subst hy;obtain⟨r',hrun,hv⟩:=vB (P:=P) (w:=w) ha hl hlen hr;exact Gives.pure h (v':=r') (by simp[execOp,Instr.field,run_underlying hu,hi,e,asAgg,hrun]) hv
  ·cases he
 ·cases he
theorem ur(c p n:Nat):(⟨c,p,none⟩:Addr).add n=⟨c,p+n,none⟩:=by unfold Addr.add;split<;>simp_all
theorem LocR.add{b o n:Nat}{a:Addr}(h:LocR μ b o a):LocR μ b (o+n) (a.add n):=by
 unfold LocR at *
 cases hb:μ b with
 | no=>rw[hb] at h;exact h.elim
 | dead=>trivial
 | «at» c p ez z=>
   rw[hb] at h;simp only at h⊢;subst h;rw[ur,Nat.add_assoc]
theorem A8(h:Rel P g0 μ H.get H.n w){t:TypeId}{x:Operand}{i:Nat}{f:Field}{n:Nat}(hf:ka P t i=some f)(hs:aJ P f.type=some n)(hn:n≠0)
  (he:ev1 (.fieldAddr f.offset) xs lo H=some (v,H')) (hx:VRs μ xs [ρ x]):
  Gives P g0 lo μ H w (execOp ρ ⟨dst,.fieldAddr t x i,type,pos,after,guard⟩) v H':=by
 obtain⟨fs,hu,hi⟩:=qD hf;simp only[ev1] at he;split at he
 ·rename_i b o;injection he with he;injection he with e1 e2;subst e1 e2;obtain⟨y,hy,a,e,hl⟩:=aO hx;injection hy with hy;subst hy;exact Gives.pure h (v':=.pointer (some (a.add f.offset))) (by simp[execOp,Instr.fieldAt,run_underlying hu,hi,e,Instr.sureAddr,fieldPlace,aP hs,hn]) ⟨_,rfl,hl.add⟩
 ·cases he
theorem SlR.loc{b o cap:Nat}{ex:Bool}{a:Addr}(h:SlR μ b o ex cap a)(hc:cap≠0):LocR μ b o a:=by
 unfold SlR at h;unfold LocR
 cases hb:μ b with
 | no=>rw[hb] at h;exact h
 | dead=>trivial
 | «at» c p ez z=>rw[hb] at h;exact h.1.resolve_left hc
theorem MM(h:Rel P g0 μ H.get H.n w){t e:TypeId}{x i:Operand}{n:Nat}(hu:P.underlying t=some (.slice e))(hs:aJ P e=some n)
  (he:ev1 (.idxSl n) xs lo H=some (v,H')) (hx:VRs μ xs [ρ x,ρ i]):
  Gives P g0 lo μ H w (execOp ρ ⟨dst,.indexAddr t x i,type,pos,after,guard⟩) v H':=by
 simp only[ev1] at he;split at he
 ·rename_i b o len lb ex k j;split at he
  ·rename_i hj;injection he with he;injection he with e1 e2;subst e1 e2;obtain⟨y1,y2,hy,⟨a,cap,e1,hc,hl⟩,h2⟩:=ba hx;simp only[List.cons.injEq,and_true] at hy;obtain⟨rfl,rfl⟩:=hy;have hcap:cap≠0:=by obtain⟨c1,c2,_⟩:=hc;omega
   exact Gives.pure h (v':=.pointer (some (a.add (j.toNat*n)))) (by simp[execOp,Instr.indexAt,dZ h2,asIntOf,run_underlying hu,e1,hj,aP hs]) ⟨_,rfl,(hl.loc hcap).add⟩
  ·cases he
 ·cases he
theorem zr(h:Rel P g0 μ H.get H.n w){t e:TypeId}{x i:Operand}{len n:Nat}(hu:P.underlying t=some (.array len e))(hs:aJ P e=some n)
  (he:ev1 (.idxArrAddr len n) xs lo H=some (v,H')) (hx:VRs μ xs [ρ x,ρ i]):
  Gives P g0 lo μ H w (execOp ρ ⟨dst,.indexAddr t x i,type,pos,after,guard⟩) v H':=by
 simp only[ev1] at he;split at he
 ·rename_i b o k j;split at he
  ·rename_i hj;injection he with he;injection he with e1 e2;subst e1 e2;obtain⟨y1,y2,hy,⟨a,e1,hl⟩,h2⟩:=ba hx;simp only[List.cons.injEq,and_true] at hy;obtain⟨rfl,rfl⟩:=hy;exact Gives.pure h (v':=.pointer (some (a.add (j.toNat*n)))) (by simp[execOp,Instr.indexAt,dZ h2,asIntOf,run_underlying hu,e1,Instr.sureAddr,hj,aP hs]) ⟨_,rfl,hl.add⟩
  ·cases he
 ·cases he
theorem Jb(h:Rel P g0 μ H.get H.n w){t e:TypeId}{x i:Operand}{len k:Nat}{n:Option Nat}(hu:P.underlying t=some (.array len e))(hs:aJ P e=some k)(ha:pO P e=some n)
  (he:ev1 (.idxArr len k n) xs lo H=some (v,H')) (hx:VRs μ xs [ρ x,ρ i]):
  Gives P g0 lo μ H w (execOp ρ ⟨dst,.index t x i,type,pos,after,guard⟩) v H':=by
 simp only[ev1] at he;split at he
 ·rename_i cs kd j;split at he
  ·rename_i hj;obtain⟨hj0,hj1,hlen⟩:=hj
   cases hr:ak n ((cs.drop (j.toNat*k)).take (n.getD 1)) with
   | none=>rw[hr] at he;cases he
   | some r=>
     rw[hr] at he;injection he with he;injection he with e1 e2;subst e1 e2;obtain⟨y1,y2,hy,⟨l',e1,hl⟩,h2⟩:=ba hx;simp only[List.cons.injEq,and_true] at hy;obtain⟨rfl,rfl⟩:=hy;obtain⟨r',hrun,hv⟩:=vB (P:=P) (w:=w) ha hl hlen hr;exact Gives.pure h (v':=r') (by simp[execOp,Instr.index,dZ h2,asIntOf,run_underlying hu,e1,hj0,hj1,aP hs,hrun]) hv
  ·cases he
 ·cases he
theorem Ja(h:Rel P g0 μ H.get H.n w){t:TypeId}{x i:Operand}(hu:P.underlying t=some .string)
  (he:ev1 .idxStr xs lo H=some (v,H')) (hx:VRs μ xs [ρ x,ρ i]):
  Gives P g0 lo μ H w (execOp ρ ⟨dst,.index t x i,type,pos,after,guard⟩) v H':=by
 simp only[ev1] at he;split at he
 ·rename_i s kd j;split at he
  ·rename_i hj
   cases hs:s[j.toNat]? with
   | none=>rw[hs] at he;cases he
   | some c=>
     rw[hs] at he;injection he with he;injection he with e1 e2;subst e1 e2;obtain⟨y1,y2,hy,h1,h2⟩:=ba hx;simp only[List.cons.injEq,and_true] at hy;obtain⟨rfl,rfl⟩:=hy
     have hc:(ByteArray.mk ⟨s⟩:ByteArray)[j.toNat]? =some c:=by
      obtain⟨hlt,hc⟩:=List.getElem?_eq_some_iff.1 hs;have hlt':j.toNat < (ByteArray.mk ⟨s⟩).size:=hlt;rw[getElem?_pos (ByteArray.mk ⟨s⟩) j.toNat hlt'];exact congrArg some hc
     exact Gives.pure h (v':=.int .u8 c.toNat) (by simp[execOp,Instr.index,dZ h2,asIntOf,run_underlying hu,ut h1,hj,hc]) rfl
  ·cases he
 ·cases he
theorem MK(h:Rel P g0 μ H.get H.n w){t e:TypeId}{args:Array Operand}{ts:Array TypeId}(hts:ts=#[t])(hu:P.underlying t=some (.slice e))
  (he:ev1 .lenSl xs lo H=some (v,H')) (hx:VRs μ xs (args.toList.map ρ)):
  Gives P g0 lo μ H w (execOp ρ ⟨dst,.call ⟨.builtin .len,args,ts⟩,type,pos,after,guard⟩) v H':=by
 simp only[ev1] at he;split at he
 ·rename_i x;obtain⟨y,hy,hv⟩:=aO hx;have hargs:args.map ρ=#[y]:=by apply Array.ext';simpa using hy
  subst hts
  cases x with
  | nilSlice=>
    injection he with he;injection he with e1 e2;subst e1 e2;cases hv;exact Gives.pure h (v':=.int .i64 0) (by simp[execOp,resolve,invoke,builtin,hargs,Builtin.len_,run_underlying hu,goInt]) rfl
  | slice b o n lb ex=>
    injection he with he;injection he with e1 e2;subst e1 e2;obtain⟨a,c,rfl,_⟩:=hv;exact Gives.pure h (v':=.int .i64 n) (by simp[execOp,resolve,invoke,builtin,hargs,Builtin.len_,run_underlying hu,goInt]) rfl
  | _=>simp at he
 ·cases he
theorem I7(h:Rel P g0 μ H.get H.n w){t:TypeId}{args:Array Operand}{ts:Array TypeId}(hts:ts=#[t])(hu:P.underlying t=some .string)
  (he:ev1 .lenStr xs lo H=some (v,H')) (hx:VRs μ xs (args.toList.map ρ)):
  Gives P g0 lo μ H w (execOp ρ ⟨dst,.call ⟨.builtin .len,args,ts⟩,type,pos,after,guard⟩) v H':=by
 simp only[ev1] at he;split at he
 ·rename_i s;injection he with he;injection he with e1 e2;subst e1 e2;obtain⟨y,hy,hv⟩:=aO hx;have hargs:args.map ρ=#[y]:=by apply Array.ext';simpa using hy
  subst hts;cases hv;have e:(ByteArray.mk ⟨s⟩).size=s.length:=rfl;exact Gives.pure h (v':=.int .i64 s.length) (by simp[execOp,resolve,invoke,builtin,hargs,Builtin.len_,run_underlying hu,goInt,e]) rfl
 ·cases he
theorem I9(h:Rel P g0 μ H.get H.n w){t e:TypeId}{n:Nat}{args:Array Operand}{ts:Array TypeId}(hts:ts=#[t])(hu:P.underlying t=some (.array n e))
  (he:ev1 (.lenArr n) xs lo H=some (v,H')) (hx:VRs μ xs (args.toList.map ρ)):
  Gives P g0 lo μ H w (execOp ρ ⟨dst,.call ⟨.builtin .len,args,ts⟩,type,pos,after,guard⟩) v H':=by
 simp only[ev1] at he;split at he
 ·injection he with he;injection he with e1 e2;subst e1 e2;obtain⟨y,hy,hv⟩:=aO hx;have hargs:args.map ρ=#[y]:=by apply Array.ext';simpa using hy
  subst hts;exact Gives.pure h (v':=.int .i64 n) (by simp[execOp,resolve,invoke,builtin,hargs,Builtin.len_,run_underlying hu,goInt]) rfl
 ·cases he
theorem R9(h:Rel P g0 μ H.get H.n w){t e:TypeId}{args:Array Operand}{ts:Array TypeId}(hts:ts=#[t])(hu:P.underlying t=some (.slice e))
  (he:ev1 .cap xs lo H=some (v,H')) (hx:VRs μ xs (args.toList.map ρ)):
  Gives P g0 lo μ H w (execOp ρ ⟨dst,.call ⟨.builtin .cap,args,ts⟩,type,pos,after,guard⟩) v H':=by
 simp only[ev1] at he;split at he
 ·rename_i x;obtain⟨y,hy,hv⟩:=aO hx;have hargs:args.map ρ=#[y]:=by apply Array.ext';simpa using hy
  subst hts
  cases x with
  | nilSlice=>
    injection he with he;injection he with e1 e2;subst e1 e2;cases hv;exact Gives.pure h (v':=.int .i64 0) (by simp[execOp,resolve,invoke,builtin,hargs,Builtin.cap_,run_underlying hu,goInt]) rfl
  | slice b o n lb ex=>
    cases ex with
    | false=>simp at he
    | true=>
      injection he with he;injection he with e1 e2;subst e1 e2;obtain⟨a,c,rfl,hc,_⟩:=hv
      have:c=lb:=hc.2.2.2 rfl
      subst this;exact Gives.pure h (v':=.int .i64 c) (by simp[execOp,resolve,invoke,builtin,hargs,Builtin.cap_,run_underlying hu,goInt]) rfl
  | _=>simp at he
 ·cases he
theorem R7(h:Rel P g0 μ H.get H.n w){args:Array Operand}{ts:Array TypeId}(he:ev1 .min xs lo H=some (v,H'))(hx:VRs μ xs (args.toList.map ρ)):
  Gives P g0 lo μ H w (execOp ρ ⟨dst,.call ⟨.builtin .min,args,ts⟩,type,pos,after,guard⟩) v H':=by
 simp only[ev1] at he;split at he
 ·rename_i k a k' b;split at he
  ·injection he with he;injection he with e1 e2;subst e1 e2;obtain⟨y1,y2,hy,h1,h2⟩:=ba hx
   cases h1;cases h2
   have hargs:args.map ρ=#[.int k a,.int k' b]:=by apply Array.ext';simpa using hy
   exact Gives.pure h (v':=.int k (if b < a then b else a)) (by simp[execOp,resolve,invoke,builtin,hargs,Builtin.min_,Builtin.min2]) rfl
  ·cases he
 ·cases he
theorem R8(h:Rel P g0 μ H.get H.n w){args:Array Operand}{ts:Array TypeId}(he:ev1 .max xs lo H=some (v,H'))(hx:VRs μ xs (args.toList.map ρ)):
  Gives P g0 lo μ H w (execOp ρ ⟨dst,.call ⟨.builtin .max,args,ts⟩,type,pos,after,guard⟩) v H':=by
 simp only[ev1] at he;split at he
 ·rename_i k a k' b;split at he
  ·injection he with he;injection he with e1 e2;subst e1 e2;obtain⟨y1,y2,hy,h1,h2⟩:=ba hx
   cases h1;cases h2
   have hargs:args.map ρ=#[.int k a,.int k' b]:=by apply Array.ext';simpa using hy
   exact Gives.pure h (v':=.int k (if b>a then b else a)) (by simp[execOp,resolve,invoke,builtin,hargs,Builtin.max_,Builtin.max2]) rfl
  ·cases he
 ·cases he
theorem cg{y i:Nat}{x:IV}{u:Value}(h:bk y x=some i)(hv:VR μ x u)(c:BoundsCode)(y':Nat)(hy:y≤y')(w:World):(Instr.sliceBound u y' c).run P w=.ok i w∧i≤y:=by
 cases x with
 | int k n=>
   cases hv;simp only[bk] at h
   split at h
   ·rename_i hn;injection h with h;subst h;have h1:0≤n∧n≤(y':Int):=by omega
    exact⟨by simp[Instr.sliceBound,asIntOf,h1],by omega⟩
   ·cases h
 | _=>simp[bk] at h
theorem mt{isSl:Bool}{len top cap:Nat}{l:List IV}{a b:Nat}{m:Option Nat}{lo' hi mx:Option Operand}(hb:aI len top lo'.isSome hi.isSome mx.isSome l=some (a,b,m))
  (hlt:len≤top) (hc:top≤cap) (hv:VRs μ l ((lo'.toArray++hi.toArray++mx.toArray).toList.map ρ)) (w:World):
  (Instr.sliceBounds isSl len cap (lo'.map ρ) (hi.map ρ) (mx.map ρ)).run P w=.ok (a,b,m.getD cap) w∧a≤b∧b≤m.getD top∧(∀k,m=some k→k≤top):=by
 cases lo' with
 | none=>
   cases hi with
   | none=>
     cases mx with
     | none=>
       match l,hb with
       | [],hb=>
         injection hb with hb;simp only[Prod.mk.injEq] at hb;obtain⟨rfl,rfl,rfl⟩:=hb;exact⟨by simp[Instr.sliceBounds],by omega,by simpa using hlt,fun _ h=>by cases h⟩
     | some z=>simp[aI] at hb
   | some y=>
     cases mx with
     | none=>
       match l,hb with
       | [x1],hb=>
         obtain⟨u,hu,hvu⟩:=aO hv;simp at hu;subst hu;simp only[aI,Option.isSome_none,Option.isSome_some] at hb
         cases h1:bk top x1 with
         | none=>rw[h1] at hb;cases hb
         | some i=>
           rw[h1] at hb;injection hb with hb;simp only[Prod.mk.injEq] at hb;obtain⟨rfl,rfl,rfl⟩:=hb;have hr:=cg (P:=P) h1 hvu;exact⟨by simp[Instr.sliceBounds,(hr _ cap hc w).1],by omega,by simpa using (hr .index cap hc w).2,fun _ h=>by cases h⟩
     | some z=>
       match l,hb with
       | [x1,x2],hb=>
         obtain⟨u,u2,hu,hvu,hvu2⟩:=ba hv;simp at hu;obtain⟨rfl,rfl⟩:=hu;simp only[aI,Option.isSome_none,Option.isSome_some] at hb
         cases h2:bk top x2 with
         | none=>rw[h2] at hb;cases hb
         | some j=>
           rw[h2] at hb;simp only[Option.bind_some] at hb
           cases h1:bk j x1 with
           | none=>rw[h1] at hb;cases hb
           | some i=>
             rw[h1] at hb;injection hb with hb;simp only[Prod.mk.injEq] at hb;obtain⟨rfl,rfl,rfl⟩:=hb;have hr:=cg (P:=P) h1 hvu;have hr2:=cg (P:=P) h2 hvu2;exact⟨by simp[Instr.sliceBounds,(hr _ j (Nat.le_refl _) w).1,(hr2 _ cap hc w).1],by omega,by simpa using (hr .index j (Nat.le_refl _) w).2,fun k h=>by injection h with h;subst h;exact(hr2 .index cap hc w).2⟩
 | some q=>
   cases hi with
   | none=>
     cases mx with
     | none=>
       match l,hb with
       | [x1],hb=>
         obtain⟨u,hu,hvu⟩:=aO hv;simp at hu;subst hu;simp only[aI,Option.isSome_none,Option.isSome_some] at hb
         cases h1:bk len x1 with
         | none=>rw[h1] at hb;cases hb
         | some i=>
           rw[h1] at hb;injection hb with hb;simp only[Prod.mk.injEq] at hb;obtain⟨rfl,rfl,rfl⟩:=hb;have hr:=cg (P:=P) h1 hvu;exact⟨by simp[Instr.sliceBounds,(hr _ len (Nat.le_refl _) w).1],by simpa using (hr .index len (Nat.le_refl _) w).2,by simpa using hlt,fun _ h=>by cases h⟩
     | some z=>simp[aI] at hb
   | some y=>
     cases mx with
     | none=>
       match l,hb with
       | [x1,x2],hb=>
         obtain⟨u,u2,hu,hvu,hvu2⟩:=ba hv;simp at hu;obtain⟨rfl,rfl⟩:=hu;simp only[aI,Option.isSome_none,Option.isSome_some] at hb
         cases h2:bk top x2 with
         | none=>rw[h2] at hb;cases hb
         | some j=>
           rw[h2] at hb;simp only[Option.bind_some] at hb
           cases h1:bk j x1 with
           | none=>rw[h1] at hb;cases hb
           | some i=>
             rw[h1] at hb;injection hb with hb;simp only[Prod.mk.injEq] at hb;obtain⟨rfl,rfl,rfl⟩:=hb;have hr:=cg (P:=P) h1 hvu;have hr2:=cg (P:=P) h2 hvu2;exact⟨by simp[Instr.sliceBounds,(hr _ j (Nat.le_refl _) w).1,(hr2 _ cap hc w).1],(hr .index j (Nat.le_refl _) w).2,by simpa using (hr2 .index cap hc w).2,fun _ h=>by cases h⟩
     | some z=>
       match l,hb with
       | [x1,x2,x3],hb=>
         obtain⟨u,u2,u3,hu,hvu,hvu2,hvu3⟩:=mv hv;simp at hu;obtain⟨rfl,rfl,rfl⟩:=hu;simp only[aI,Option.isSome_none,Option.isSome_some] at hb
         cases h3:bk top x3 with
         | none=>rw[h3] at hb;cases hb
         | some k=>
           rw[h3] at hb;simp only[Option.bind_some] at hb
           cases h2:bk k x2 with
           | none=>rw[h2] at hb;cases hb
           | some j=>
             rw[h2] at hb;simp only[Option.bind_some] at hb
             cases h1:bk j x1 with
             | none=>rw[h1] at hb;cases hb
             | some i=>
               rw[h1] at hb;injection hb with hb;simp only[Prod.mk.injEq] at hb;obtain⟨rfl,rfl,rfl⟩:=hb;have hr:=cg (P:=P) h1 hvu;have hr2:=cg (P:=P) h2 hvu2;have hr3:=cg (P:=P) h3 hvu3;exact⟨by simp[Instr.sliceBounds,(hr _ j (Nat.le_refl _) w).1,(hr2 _ k (Nat.le_refl _) w).1,(hr3 _ cap hc w).1],(hr .index j (Nat.le_refl _) w).2,by simpa using (hr2 .index k (Nat.le_refl _) w).2,fun k' h=>by injection h with h;subst h;exact(hr3 .index cap hc w).2⟩
end
section
variable {P:Program}{g0 lo:Nat}{μ:Mu}{H:Heap}{w:World}{ρ:Operand→Value}{type:TypeId}{pos:String}{dst:Option Tmp}{after:Array Edge}{guard:Option (Nat×Bool)}
 {xs:List IV} {v:IV} {H':Heap}
theorem ku(t:TypeId)(x:Operand)(a b c:Option Operand):(Op.slice t x a b c).operands.toList.map ρ=ρ x::((a.toArray++b.toArray++c.toArray).toList.map ρ):=by
 simp[Op.operands]
theorem G4(h:Rel P g0 μ H.get H.n w){b c p ez z size:Nat}(he:rX H b size=true)(hb:μ b=.at c p ez z):ez=0∨ez=size:=by
 unfold rX at he;obtain⟨o,ho,hr⟩:=h.obj b c p ez z hb;rw[ho] at he
 cases o with
 | cells ro e ez' cs=>
   cases ro
   ·simp at he;right;rw[hr.2.1,he]
   ·left;exact hr.1
 | _=>simp at he
theorem R6(h:Rel P g0 μ H.get H.n w){t e:TypeId}{x:Operand}{a b c:Option Operand}{n:Nat}(hu:P.underlying t=some (.slice e))(hs:aJ P e=some n)
  (he:ev1 (.slc n a.isSome b.isSome c.isSome) xs lo H=some (v,H')) (hx:VRs μ xs ((Op.slice t x a b c).operands.toList.map ρ)):
  Gives P g0 lo μ H w (execOp ρ ⟨dst,.slice t x a b c,type,pos,after,guard⟩) v H':=by
 rw[ku] at hx;simp only[ev1] at he;split at he
 ·rename_i s l;obtain⟨y,ys,hy,hv,hl⟩:=hx;simp only[List.cons.injEq] at hy;obtain⟨rfl,rfl⟩:=hy
  cases s with
  | nilSlice=>
    simp only at he
    cases hb:aI 0 0 a.isSome b.isSome c.isSome l with
    | none=>rw[hb] at he;cases he
    | some r=>
      obtain⟨i,j,m⟩:=r;rw[hb] at he;simp only[Option.bind_some] at he;split at he
      ·rename_i hij;obtain⟨rfl,rfl⟩:=hij;injection he with he;injection he with e1 e2;subst e1 e2;obtain⟨hrun,_,_,hm⟩:=mt (P:=P) (isSl:=true) hb (Nat.le_refl _) (Nat.le_refl 0) hl w
       have hm0:m.getD 0=0:=by
        cases m with
        | none=>rfl
        | some k=>have:=hm k rfl;simp;omega
       rw[hm0] at hrun;have hv0:ρ x=.slice none 0 0:=hv;exact Gives.pure h (v':=.slice none 0 0) (by simp[execOp,Instr.sliceAt,run_underlying hu,Instr.slice,hv0,hrun,aP hs]) rfl
      ·cases he
  | slice bl o len lb ex=>
    simp only at he;split at he
    ·rename_i hez
     cases hb:aI len lb a.isSome b.isSome c.isSome l with
     | none=>rw[hb] at he;cases he
     | some r=>
       obtain⟨i,j,m⟩:=r;rw[hb] at he;obtain⟨ad,cap,hval,⟨c1,c2,c3,c4⟩,hsl⟩:=hv;obtain⟨hrun,hij,hjm,hm⟩:=mt (P:=P) (isSl:=true) hb c1 c2 hl w
       have hrunv:(execOp ρ ⟨dst,.slice t x a b c,type,pos,after,guard⟩).run P w=.ok (.value (.slice (some (if m.getD cap=i then ad else ad.add (i*n))) (j - i) (m.getD cap - i))) w:=by
        simp only[execOp];simp[Instr.sliceAt,run_underlying hu,Instr.slice,hval,hrun,aP hs];split<;>rfl
       have hsl':∀ex':Bool,(ex'=false→ex=false∧m=none)→SlR μ bl (o+i*n) ex' (m.getD cap - i) (if m.getD cap=i then ad else ad.add (i*n)):=by
        intro ex' hex';unfold SlR at hsl⊢
        cases hbl:μ bl with
        | no=>rw[hbl] at hsl;exact hsl
        | dead=>trivial
        | «at» q p ez z=>
          rw[hbl] at hsl;simp only at hsl⊢;refine⟨?_,fun e1 e2=>?_⟩
          ·by_cases hmi:m.getD cap=i
           ·left;omega
           ·right;rw[if_neg hmi]
            have hmc:m.getD cap≤cap:=by cases m with
             | none=>exact Nat.le_refl _
             | some k=>have:=hm k rfl;simp;omega
            have hi':i≤m.getD cap:=by cases m with
             | none=>simp at hjm⊢;omega
             | some k=>simp at hjm⊢;omega
            have hcap:cap≠0:=by omega
            rw[hsl.1.resolve_left hcap,ur,Nat.add_assoc]
          ·obtain⟨hexf,hmn⟩:=hex' e1;subst hexf hmn;simp only[Bool.false_or] at hez;rcases G4 h hez hbl with h0 | h0
           ·exact absurd h0 e2
           ·subst h0
            have:=hsl.2 rfl e2
            simp only[Option.getD_none] at hjm⊢;have hi':i≤cap:=by omega
            have:(cap - i)*ez+i*ez=cap*ez:=by rw[←Nat.add_mul];congr 1;omega
            omega
       cases m with
       | none=>
         simp only[Option.map_some] at he;injection he with he;injection he with e1 e2;subst e1 e2;have hsl2:=hsl' ex fun e=>⟨e,rfl⟩;simp only[Option.getD_none] at hrunv hsl2 hjm;exact Gives.pure h hrunv ⟨_,_,rfl,⟨by omega,by omega,by omega,fun e=>by have:=c4 e;omega⟩,hsl2⟩
       | some k=>
         simp only[Option.map_some] at he;injection he with he;injection he with e1 e2;subst e1 e2;simp only[Option.getD_some] at hrunv hsl' hjm
         have:=hm k rfl
         exact Gives.pure h hrunv ⟨_,_,rfl,⟨by omega,Nat.le_refl _,by omega,fun _=>rfl⟩,hsl' true fun e=>by cases e⟩
    ·cases he
  | _=>simp at he
 ·cases he
theorem I2(h:Rel P g0 μ H.get H.n w){t:TypeId}{x:Operand}{a b:Option Operand}(hu:P.underlying t=some .string)
  (he:ev1 (.slcStr a.isSome b.isSome) xs lo H=some (v,H')) (hx:VRs μ xs ((Op.slice t x a b none).operands.toList.map ρ)):
  Gives P g0 lo μ H w (execOp ρ ⟨dst,.slice t x a b none,type,pos,after,guard⟩) v H':=by
 rw[ku] at hx;simp only[ev1] at he;split at he
 ·rename_i s l;obtain⟨y,ys,hy,hv,hl⟩:=hx;simp only[List.cons.injEq] at hy;obtain⟨rfl,rfl⟩:=hy
  cases hb:aI s.length s.length a.isSome b.isSome false l with
  | none=>rw[hb] at he;cases he
  | some r=>
    obtain⟨i,j,m⟩:=r;rw[hb] at he;injection he with he;injection he with e1 e2;subst e1 e2;obtain⟨hrun,hij,hjm,hm⟩:=mt (P:=P) (isSl:=false) (mx:=none) (cap:=s.length) hb (Nat.le_refl _) (Nat.le_refl _) hl w;have hval:=ut hv;have e:(ByteArray.mk ⟨s⟩).size=s.length:=rfl;refine Gives.pure h (v':=.string ((ByteArray.mk ⟨s⟩).extract i j)) ?_ ?_
    ·simp only[execOp];simp only[Option.map_none] at hrun;simp[Instr.sliceAt,run_underlying hu,Instr.slice,hval,e,hrun]
    ·exact congrArg Value.string (nS (by rw[Lib.extract_data]))
 ·cases he
theorem I3(h:Rel P g0 μ H.get H.n w){t e:TypeId}{x:Operand}{a b c:Option Operand}{k n:Nat}(hu:P.underlying t=some (.array k e))(hs:aJ P e=some n)
  (he:ev1 (.slcArr e k n a.isSome b.isSome c.isSome) xs lo H=some (v,H')) (hx:VRs μ xs ((Op.slice t x a b c).operands.toList.map ρ)):
  Gives P g0 lo μ H w (execOp ρ ⟨dst,.slice t x a b c,type,pos,after,guard⟩) v H':=by
 rw[ku] at hx;simp only[ev1] at he;split at he
 ·rename_i bl o l;obtain⟨y,ys,hy,hv,hl⟩:=hx;simp only[List.cons.injEq] at hy;obtain⟨rfl,rfl⟩:=hy
  cases hb:aI k k a.isSome b.isSome c.isSome l with
  | none=>rw[hb] at he;cases he
  | some r=>
    obtain⟨i,j,m⟩:=r;rw[hb] at he;simp only[Option.bind_some] at he;split at he
    ·rename_i hk;injection he with he;injection he with e1 e2;subst e1 e2;obtain⟨ad,hval,hloc⟩:=hv;obtain⟨hrun,hij,hjm,hm⟩:=mt (P:=P) (isSl:=false) hb (Nat.le_refl _) (Nat.le_refl _) hl w
     have hmk:m.getD k≤k:=by cases m with
      | none=>exact Nat.le_refl _
      | some q=>exact hm q rfl
     refine Gives.pure h (v':=.slice (some (if m.getD k=i then ad else ad.add (i*n))) (j - i) (m.getD k - i)) ?_ ⟨_,_,rfl,⟨by omega,Nat.le_refl _,by omega,fun _=>rfl⟩,?_⟩
     ·simp only[execOp];simp[Instr.sliceAt,run_underlying hu,Instr.sureAddr,hval,hrun,aP hs]
     ·have hadd:=hloc.add (n:=i*n);unfold SlR;unfold LocR at hadd
      cases hbl:μ bl with
      | no=>rw[hbl] at hadd;exact hadd
      | dead=>trivial
      | «at» q p ez z=>
        rw[hbl] at hadd;simp only at hadd⊢;refine⟨?_,fun e1=>by cases e1⟩;by_cases hmi:m.getD k=i
        ·left;omega
        ·right;rw[if_neg hmi];exact hadd
    ·cases he
 ·cases he
end
section
variable {P:Program}{g0 lo:Nat}{μ:Mu}{H:Heap}{w:World}{ρ:Operand→Value}{type:TypeId}{pos:String}{dst:Option Tmp}{after:Array Edge}{guard:Option (Nat×Bool)}
 {xs:List IV} {v:IV} {H':Heap}
theorem bM:∀(cs:List IV) (o:Nat) (vs:List IV),o+vs.length≤cs.length→ar cs o vs=cs.take o++vs++cs.drop (o+vs.length)
 | [],o,vs,h=>by
   have h1:o=0:=by rw[List.length_nil] at h;omega
   have h2:vs=[]:=by rw[List.length_nil] at h;exact List.length_eq_zero_iff.1 (by omega)
   subst h1 h2;rfl
 | c::cs,0,[],_=>by simp[ar]
 | c::cs,0,v::vs,h=>by
   simp only[ar];rw[bM cs 0 vs (by simp at h;omega)];simp
 | c::cs,o+1,vs,h=>by
   simp only[ar];rw[bM cs o vs (by simp at h;omega)];simp[Nat.add_right_comm]
theorem pi(cs:List IV)(o:Nat)(vs:List IV)(h:o+vs.length≤cs.length):(ar cs o vs).length=cs.length:=by
 rw[bM cs o vs h];simp;omega
theorem BU(off:Nat):∀(vs:List Value) (k:Nat) (cells:Array Value),off+k+vs.length≤cells.size→
  ((vs.zipIdx k).foldl (fun cs x=>cs.setIfInBounds (off+x.2) x.1) cells).toList=cells.toList.take (off+k)++vs++cells.toList.drop (off+k+vs.length)
 | [],k,cells,_=>by simp
 | v::vs,k,cells,h=>by
   simp only[List.zipIdx_cons,List.foldl_cons];rw[BU off vs (k+1) _ (by simp at h⊢;omega)];have e:=list_seg_step cells.toList (off+k) v vs (by simp at h⊢;omega);simpa [Array.toList_setIfInBounds,Nat.add_assoc] using e
theorem ny(place:Nat→Option (Nat×Nat)):∀(parts:List (Nat×Operand)) (offs:List (Nat×Nat)) (xs cs r:List IV) (cs':Array Value),parts.mapM (fun p=>place p.1)=some offs→
  VRs μ xs (parts.map fun p=>ρ p.2)→VRs μ cs cs'.toList→bD offs xs cs=some r→
  ∃r':Array Value,Instr.fill place cs' (parts.map fun p=>(p.1,ρ p.2))=some r'∧VRs μ r r'.toList:=by
 intro parts
 induction parts with
 | nil=>
   intro offs xs cs r cs' ho hx hc hf;simp at ho;subst ho
   cases xs with
   | nil=>simp[bD] at hf;subst hf;exact⟨cs',rfl,hc⟩
   | cons=>simp[bD] at hf
 | cons p parts ih=>
   intro offs xs cs r cs' ho hx hc hf;simp only[List.mapM_cons] at ho
   cases hp:place p.1 with
   | none=>rw[hp] at ho;cases ho
   | some pl=>
     obtain⟨off,size⟩:=pl;rw[hp] at ho
     cases hr:parts.mapM (fun p=>place p.1) with
     | none=>rw[hr] at ho;cases ho
     | some offs'=>
       rw[hr] at ho;injection ho with ho;subst ho
       cases xs with
       | nil=>simp[bD] at hf
       | cons x xs=>
         obtain⟨y,ys,hy,hv,hvs⟩:=hx;simp only[List.map_cons,List.cons.injEq] at hy;obtain⟨rfl,rfl⟩:=hy;simp only[bD] at hf;split at hf
         ·rename_i hsz;have hcells:=hv.cells_;have hl:=hcells.length;have hl':x.cells.length=(ρ p.2).cells.size:=by simpa using hl
          have hlc:cs.length=cs'.size:=by simpa using hc.length
          have hcond:((ρ p.2).cells.size≠size||off+(ρ p.2).cells.size>cs'.size)=false:=by
           have h1:(ρ p.2).cells.size=size:=by omega
           simp[h1];omega
          have hnew:VRs μ (ar cs off x.cells) ((ρ p.2).cells.zipIdx.foldl (fun cs x=>cs.setIfInBounds (off+x.2) x.1) cs').toList:=by
           rw[←Array.foldl_toList,Array.toList_zipIdx,BU off _ 0 cs' (by simp;omega),bM cs off x.cells (by omega)];simp only[Nat.add_zero];rw[show off+(ρ p.2).cells.toList.length=off+x.cells.length by simp[hl']];exact((hc.take off).append hcells).append (hc.drop _)
          obtain⟨r',hr',hvr⟩:=ih offs' xs _ r _ hr hvs hnew hf;refine⟨r',?_,hvr⟩;simp only[List.map_cons,Instr.fill,hp];rw[if_neg (by rw[hcond];simp)];exact hr'
         ·cases hf
theorem BH{α β:Type}(F:α→Sem β)(G:α→β)(w:World):∀l:List α,(∀f∈l,(F f).run P w=.ok (G f) w)→(l.mapM F).run P w=.ok (l.map G) w
 | [],_=>by simp
 | f::l,h=>by
   have h1:=h f (by simp);have h2:=BH F G w l fun g hg=>h g (by simp[hg]);simp[h1,h2]
theorem Dt{fs:Array Field}(hall:(fs.all fun f=>(aJ P f.type).isSome)=true)(F:Field→Sem (Nat×Nat))(hF:∀f,F f=(do pure (f.offset,←sizeOf f.type)))(w:World):
  (fs.mapM F).run P w=.ok (fs.map fun f=>(f.offset,(aJ P f.type).getD 0)) w:=by
 rw[Array.mapM_eq_mapM_toList]
 have hk:=BH (P:=P) F (fun f=>(f.offset,(aJ P f.type).getD 0)) w fs.toList (fun f hf=>by
  rw[Array.all_eq_true_iff_forall_mem] at hall;have h1:=hall f (by simpa using hf)
  cases hs:aJ P f.type with
  | none=>rw[hs] at h1;cases h1
  | some n=>rw[hF];simp[aP hs])
 simp[hk];apply Array.ext';simp
theorem MP(h:Rel P g0 μ H.get H.n w){t:TypeId}{ps:Array (Nat×Operand)}{kd:Kd}(hk:bG P (.build t ps)=some kd)
  (he:ev1 kd xs lo H=some (v,H')) (hx:VRs μ xs ((Op.build t ps).operands.toList.map ρ)):
  Gives P g0 lo μ H w (execOp ρ ⟨dst,.build t ps,type,pos,after,guard⟩) v H':=by
 have hops:(Op.build t ps).operands.toList.map ρ=ps.toList.map fun p=>ρ p.2:=by simp[Op.operands]
 rw[hops] at hx;simp only[bG] at hk
 cases hu:P.underlying t with
 | none=>rw[hu] at hk;cases hk
 | some d=>
   rw[hu] at hk
   cases d with
   | struct fs=>
     simp only at hk;split at hk
     ·rename_i hall
      cases ho:pE (fun i=>(fs[i]?).bind fun f=>(aJ P f.type).map fun n=>(f.offset,n)) ps with
      | none=>rw[ho] at hk;cases hk
      | some offs=>
        rw[ho] at hk
        cases hz:fk P t with
        | none=>simp[hz] at hk
        | some z=>
          simp[hz] at hk;subst hk;simp only[ev1] at he
          cases hf:bD offs xs z.cells with
          | none=>rw[hf] at he;cases he
          | some cs=>
            rw[hf] at he;injection he with he;injection he with e1 e2;subst e1 e2;obtain⟨i,zv,hi,hzv,hvr⟩:=gU hz;obtain⟨r',hr',hv⟩:=ny (ρ:=ρ) (μ:=μ) (fun i=>(fs[i]?).bind fun f=>(aJ P f.type).map fun n=>(f.offset,n)) ps.toList offs xs z.cells cs zv.cells ho hx (hvr μ).cells_ hf
            have hplace:(fun i:Nat=>(fs[i]?).bind fun f=>(aJ P f.type).map fun n=>(f.offset,n))=fun i:Nat=>Option.map (fun f:Field=>(f.offset,(aJ P f.type).getD 0)) fs[i]?:=by
             funext i
             cases hfi:fs[i]? with
             | none=>rfl
             | some f=>
               have:(aJ P f.type).isSome=true:=by
                rw[Array.all_eq_true_iff_forall_mem] at hall;exact hall f (Array.mem_of_getElem? hfi)
               cases hs:aJ P f.type with
               | none=>rw[hs] at this;cases this
               | some n=>simp[hs]
            rw[hplace] at hr';refine Gives.pure h (v':=.agg r') ?_ ⟨r',rfl,hv⟩;have hpl:=Dt hall (fun f=>Prod.mk f.offset <$>sizeOf f.type) (fun f=>by simp) w;simp only[execOp,Instr.build];simp[zeroValue,typeInfo,hi,hzv,run_underlying hu,hpl,hr']
     ·cases hk
   | array k e=>
     simp only at hk
     cases hs:aJ P e with
     | none=>rw[hs] at hk;cases hk
     | some n=>
       rw[hs] at hk;simp only[Option.bind_some] at hk
       cases ho:pE (fun i=>some (i*n,n)) ps with
       | none=>rw[ho] at hk;cases hk
       | some offs=>
         rw[ho] at hk
         cases hz:fk P t with
         | none=>simp[hz] at hk
         | some z=>
           simp[hz] at hk;subst hk;simp only[ev1] at he
           cases hf:bD offs xs z.cells with
           | none=>rw[hf] at he;cases he
           | some cs=>
             rw[hf] at he;injection he with he;injection he with e1 e2;subst e1 e2;obtain⟨i,zv,hi,hzv,hvr⟩:=gU hz;obtain⟨r',hr',hv⟩:=ny (ρ:=ρ) (μ:=μ) (fun i=>some (i*n,n)) ps.toList offs xs z.cells cs zv.cells ho hx (hvr μ).cells_ hf;refine Gives.pure h (v':=.agg r') ?_ ⟨r',rfl,hv⟩;simp only[execOp,Instr.build];simp[zeroValue,typeInfo,hi,hzv,run_underlying hu,aP hs,hr']
   | _=>simp at hk
theorem Rh{ro:Bool}{e ez:Nat}{cs:List IV}{cs':Array Value}(hc:VRs μ cs cs'.toList)(hr:ro=false):ObjR P μ (.cells ro e ez cs) 0 ez cs'.size (some (.cells cs' e (0,0))):=by
 subst hr;have hl:=hc.length;refine⟨rfl,rfl,cs',rfl,rfl,by simp at hl;omega,?_⟩;rw[List.take_of_length_le (by rw[hl];exact Nat.le_refl _)];exact hc
theorem oQ(h:Rel P g0 μ H.get H.n w){e ez:Nat}{cs:List IV}{cs':Array Value}(hc:VRs μ cs cs'.toList){w':World}(hw:w'.heap=w.heap.push (.cells cs' e (0,0)))
  (e1:w'.os=w.os) (e2:w'.tape=w.tape) (e3:w'.output=w.output) (e4:w.drawn≤w'.drawn:=by first | exact Nat.le_refl _ | exact Nat.le_succ _ | assumption | (simp;done) | omega):
  ∃μ':Mu,μ.le μ'∧μ' H.n=.at w.heap.size 0 ez cs'.size∧Rel P g0 μ' (H.new (.cells false e ez cs)).get (H.new (.cells false e ez cs)).n w'∧
   Post lo μ H.get H.n w μ' (H.new (.cells false e ez cs)).get (H.new (.cells false e ez cs)).n w':=by
 have hle:=μ.le_upd (.at w.heap.size 0 ez cs'.size) h.fresh;obtain⟨a,b⟩:=h.alloc (lo:=lo) (o:=.cells false e ez cs) (ez:=ez) (z:=cs'.size) hw (Rh (VRs.mono hle _ _ hc) rfl) e1 e2 e3 e4;exact⟨_,hle,av _ _ _,a,b⟩
theorem E7{μ':Mu}{c ez z n:Nat}(h:μ' n=.at c 0 ez z):VR μ' (.ptr n 0) (.pointer (some ⟨c,0,none⟩)):=⟨_,rfl,by unfold LocR;rw[h]⟩
theorem MR(h:Rel P g0 μ H.get H.n w){e n:Nat}{z:IV}(hz:fk P e=some z)(he:ev1 (.alloc e n z.cells) xs lo H=some (v,H')):
  Gives P g0 lo μ H w (execOp ρ ⟨dst,.alloc e,type,pos,after,guard⟩) v H':=by
 simp only[ev1] at he;split at he
 ·injection he with he;injection he with e1 e2;subst e1 e2;obtain⟨i,zv,hi,hzv,hvr⟩:=gU hz;obtain⟨μ',hle,hn,hr,hp⟩:=oQ (lo:=lo) (e:=e) (ez:=n) h (hvr μ).cells_ (w':={w with heap:=w.heap.push (.cells zv.cells e (0,0))}) rfl rfl rfl rfl;exact⟨_,_,_,μ',by simp[execOp,Instr.alloc,zeroValue,typeInfo,hi,hzv,newVar,newRow,newObj,Sem.run]<;>rfl,.inl rfl,hr,hp,E7 hn⟩
 ·cases he
end
end Go.Iso
