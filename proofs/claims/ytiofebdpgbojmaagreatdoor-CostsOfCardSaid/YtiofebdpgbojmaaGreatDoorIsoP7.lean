/-
  rules of runs over ranges, slices and lists.
-/
import Derived.Test.YtiofebdpgbojmaaGreatDoorIsoP6
import Derived.IntWalk
import Derived.Shelf.SlSortCmp.NoneTotal
set_option linter.unusedSimpArgs false
set_option linter.unusedVariables false
set_option maxRecDepth 100000
set_option linter.defProp false
namespace Go.Iso
section
variable {E:Env}{lo:Nat}{rd:Option Nat}{fr:Fr}{H:Heap}{Q:Out->Heap->Prop}
def NJ:Option Jmp->Ex|none=>.normal|some j=>.jmp j
def VX:NJ none=.normal:=rfl
def VW{j:Jmp}:NJ (some j)=.jmp j:=rfl
def RX(l lo:Nat)(marks:List Nat)(fr:Fr)(Q:Out->Heap->Prop)(A:Heap)(ob:Option IObj):Prop:=match ob with|some (.loop st pend tm I q body F)=>st≠.busy/\lo<=l/\Q (.ex (NJ pend) {fr with marks:=marks++fr.marks}) (A.put l (.loop .exhausted pend tm I q body F))|_=>False
def Zy(l lo:Nat)(marks:List Nat)(fr:Fr)(Q:Out->Heap->Prop):Out->Heap->Prop:=λo q=>match o with|.val _=>RX l lo marks fr Q q (q.get l)|_=>False
def aeD(E:Env)(lo:Nat)(A:List Nat)(q body:IC)(fr:Fr)(Q:Out->Heap->Prop)(g:IV)(e:Nat×List Nat×Heap):Prop:=W E lo (.apply g [.yield e.2.2.n]) (e.2.2.new (.loop .ready none fr.tm A q body e.1)) (Zy e.2.2.n lo e.2.1 fr Q)
def Zx{l:Nat}{marks:List Nat}{v:IV}:Zy l lo marks fr Q (.val v) H=RX l lo marks fr Q H (H.get l):=rfl
def Zw{l:Nat}{marks:List Nat}{st:LoopState}{pend:Option Jmp}{tm:List IV}{F:List Nat}{q body:IC}{A:Nat}:RX l lo marks fr Q H (some (.loop st pend tm F q body A))=(st≠.busy/\lo<=l/\Q (.ex (NJ pend) {fr with marks:=marks++fr.marks}) (H.put l (.loop .exhausted pend tm F q body A))):=rfl
def aax{f:IA}{ps:List Nat}{F body:IC}{g:IV}{e:Nat×List Nat×Heap}(hg:f.eval E.g0 fr.tm=some g)(he:kQ rd H=some e):W E lo (.code (.rfn f ps F body) rd fr) H Q=aeD E lo ps F body fr Q g e:=by obtain⟨df,marks,H1⟩:=e;refine propext ⟨?_,?_⟩;{rintro⟨n,o,H',h,hq⟩;cases n with|zero=>cases h|succ n=>rw[run] at h;simp only[hg,he] at h;cases V:run E n (.apply g [.yield H1.n]) lo (H1.new (.loop .ready none fr.tm ps F body df)) with|none=>rw[V] at h;cases h|some p=>rw[V] at h;obtain⟨o1,K⟩:=p;refine⟨n,o1,K,V,?_⟩;cases o1 with|ex e fr=>cases h|val v=>simp only at h;show RX _ _ _ _ _ _ _;cases T:K.get H1.n with|none=>rw[T] at h;cases h|some ob=>rw[T] at h;cases ob with|loop st pend tm U A q O=>(simp only at h;split at h;{cases h};{rename_i hn;refine⟨λe=>hn (.inl e),Nat.le_of_not_lt λe=>hn (.inr e),?_⟩;cases pend with|none=>injection h with h;injection h with Y Z;subst Y Z;exact hq|some j=>injection h with h;injection h with Y Z;subst Y Z;exact hq})|_=>cases h};{intro h;refine acs hg he (h.mono λo K h=>?_);cases o with|ex e fr=>exact h.elim|val v=>have I:RX H1.n lo marks fr Q K (K.get H1.n):=h;cases T:K.get H1.n with|none=>rw[T] at I;exact I.elim|some ob=>rw[T] at I;cases ob with|loop st pend tm U A q O=>exact⟨v,st,pend,tm,U,A,q,O,rfl,rfl,I.1,I.2.1,by cases pend<;>exact I.2.2⟩|_=>exact I.elim}
def aay{f:IA}{F:List Nat}{q body:IC}:W E lo (.code (.rfn f F q body) none fr) H Q=kK (f.eval E.g0 fr.tm) λg=>W E lo (.apply g [.yield (H.n+1)]) ((H.new .deferred).new (.loop .ready none fr.tm F q body H.n)) (Zy (H.n+1) lo [H.n] fr Q):=by cases A:f.eval E.g0 fr.tm with|none=>(refine propext ⟨?_,λh=>h.elim⟩;rintro⟨n,o,H',h,I⟩;cases n with|zero=>cases h|succ n=>rw[run] at h;simp only[A] at h;cases h)|some g=>exact aax A (e:=(H.n,[H.n],H.new .deferred)) rfl
def D7(l:Nat)(Q:Out->Heap->Prop)(e:Ex)(H:Heap)(ob:Option IObj):Prop:=match ob with|some (.loop _ _ tm F q body A)=>(match e with|.normal=>Q (.val (.bool true)) (H.put l (.loop .ready none tm F q body A))|.jmp j=>Q (.val (.bool false)) (H.put l (.loop .done (some j) tm F q body A)))|_=>False
def QW(l:Nat)(Q:Out->Heap->Prop):Out->Heap->Prop:=λo H=>match o with|.ex e _=>D7 l Q e H (H.get l)|_=>False
def BJ(E:Env)(lo l:Nat)(body:IC)(Q:Out->Heap->Prop)(fr:Fr)(H:Heap)(ob:Option IObj):Prop:=match ob with|some (.loop .ready pend tm I A q F)=>W E lo (.code body (some l) fr) (H.put l (.loop .busy pend tm I A q F)) (QW l Q)|_=>False
def LW(E:Env)(lo l:Nat)(body:IC)(Q:Out->Heap->Prop):Out->Heap->Prop:=λo H=>match o with|.ex .normal fr=>BJ E lo l body Q fr H (H.get l)|_=>False
def QD(E:Env)(lo l:Nat)(args:List IV)(Q:Out->Heap->Prop)(H:Heap)(ob:Option IObj):Prop:=match ob with|some (.loop _ _ tm A q body _)=>args.length=A.length/\lo<=l/\W E lo (.code q (some l) ⟨iG tm A args,[]⟩) H (LW E lo l body Q)|_=>False
def Vi{l:Nat}{e:Ex}:QW l Q (.ex e fr) H=D7 l Q e H (H.get l):=rfl
def Vg{l:Nat}{st:LoopState}{pend:Option Jmp}{tm:List IV}{F:List Nat}{q body:IC}{A:Nat}:D7 l Q .normal H (some (.loop st pend tm F q body A))=Q (.val (.bool true)) (H.put l (.loop .ready none tm F q body A)):=rfl
def Vh{l:Nat}{j:Jmp}{st:LoopState}{pend:Option Jmp}{tm:List IV}{F:List Nat}{q body:IC}{A:Nat}:D7 l Q (.jmp j) H (some (.loop st pend tm F q body A))=Q (.val (.bool false)) (H.put l (.loop .done (some j) tm F q body A)):=rfl
def R3{l:Nat}{body:IC}:LW E lo l body Q (.ex .normal fr) H=BJ E lo l body Q fr H (H.get l):=rfl
def R2{l:Nat}{body q:IC}{pend:Option Jmp}{tm:List IV}{I:List Nat}{A:IC}{F:Nat}:BJ E lo l body Q fr H (some (.loop .ready pend tm I A q F))=W E lo (.code body (some l) fr) (H.put l (.loop .busy pend tm I A q F)) (QW l Q):=rfl
def QC{l:Nat}{args:List IV}{st:LoopState}{pend:Option Jmp}{tm:List IV}{A:List Nat}{q body:IC}{F:Nat}:QD E lo l args Q H (some (.loop st pend tm A q body F))=(args.length=A.length/\lo<=l/\W E lo (.code q (some l) ⟨iG tm A args,[]⟩) H (LW E lo l body Q)):=rfl
def xA{l:Nat}{args:List IV}:W E lo (.apply (.yield l) args) H Q=QD E lo l args Q H (H.get l):=by refine propext ⟨?_,?_⟩;{rintro⟨n,o,H',h,hq⟩;cases n with|zero=>cases h|succ n=>rw[run] at h;(try simp only at h);cases hg:H.get l with|none=>rw[hg] at h;cases h|some ob=>rw[hg] at h;cases ob with|loop st pend tm ps ad body df=>simp only at h;split at h;{rename_i hl;refine⟨hl.1,hl.2,?_⟩;cases h1:run E n (.code ad (some l) ⟨iG tm ps args,[]⟩) lo H with|none=>rw[h1] at h;cases h|some p=>rw[h1] at h;obtain⟨o1,H1⟩:=p;refine⟨n,o1,H1,h1,?_⟩;cases o1 with|val v=>cases h|ex e fr=>cases e with|jmp j=>cases h|normal=>simp only at h;show BJ _ _ _ _ _ _ _ _;simp only[lH] at h;cases hb:H1.get l with|none=>rw[hb] at h;cases h|some T=>rw[hb] at h;cases T with|loop Y F a0 aS I A aE=>(cases Y with|ready=>(simp only at h;cases h2:run E n (.code body (some l) fr) lo (H1.put l (.loop .busy F a0 aS I A aE)) with|none=>rw[h2] at h;cases h|some p=>rw[h2] at h;obtain⟨o3,Z⟩:=p;refine⟨n,o3,Z,h2,?_⟩;cases o3 with|val v=>cases h|ex e fr3=>simp only[DY] at h;show D7 _ _ _ _ _;cases O:Z.get l with|none=>rw[O] at h;cases h|some U=>rw[O] at h;cases U with|loop a3 V Lw a2 ag K a1=>(cases e with|normal=>injection h with h;injection h with h3 h4;subst h3 h4;exact hq|jmp j=>injection h with h;injection h with h3 h4;subst h3 h4;exact hq)|_=>cases h)|_=>cases h)|_=>cases h};{cases h}|_=>cases h};{intro h;cases hg:H.get l with|none=>rw[hg] at h;exact h.elim|some ob=>rw[hg] at h;cases ob with|loop st pend tm ps ad body df=>(obtain⟨h1,h2,h3⟩:=h;refine WP hg h1 h2 (h3.mono λo H1 h=>?_);cases o with|val v=>exact h.elim|ex e fr=>cases e with|jmp j=>exact h.elim|normal=>have h':BJ E lo l body Q fr H1 (H1.get l):=h;cases hb:H1.get l with|none=>rw[hb] at h';exact h'.elim|some T=>rw[hb] at h';cases T with|loop Y F a0 aS I A aE=>(cases Y with|ready=>(refine⟨fr,_,rfl,by simp only[lH,hb],W.mono h' λo Z h=>?_⟩;cases o with|val v=>exact h.elim|ex e fr3=>have q:D7 l Q e Z (Z.get l):=h;cases O:Z.get l with|none=>rw[O] at q;exact q.elim|some U=>rw[O] at q;cases U with|loop a3 V Lw a2 ag K a1=>(cases e with|normal=>exact⟨_,_,(_,_),rfl,by simp only[DY,O];rfl,q⟩|jmp j=>exact⟨_,_,(_,_),rfl,by simp only[DY,O];rfl,q⟩)|_=>exact q.elim)|_=>exact h'.elim)|_=>exact h'.elim)|_=>exact h.elim}
def abL(I:Nat->Fr->Heap->Prop)(k:Nat)(Q:Out->Heap->Prop):Out->Heap->Prop:=λo H=>match o with|.ex .normal fr=>∃q,q<k/\I q fr H|o=>Q o H
def aA{c:IC}(I:Nat->Fr->Heap->Prop)(h:∀k fr H,I k fr H->∀L:Out->Heap->Prop,(∀q fr H,q<k->I q fr H->L (.ex .normal fr) H)->(∀j fr H,L (.ex (.jmp j) fr) H=Q (.ex (.jmp j) fr) H)->W E lo (.code c rd fr) H L):∀(k:Nat){fr:Fr}{H:Heap},I k fr H->W E lo (.code (.loop c) rd fr) H Q:=by intro k;induction k using Nat.strongRecOn with|ind k V=>intro fr H hi;rw[qW];refine(h k fr H hi (abL I k Q) (λq fr H O T=>⟨q,O,T⟩) (λj fr H=>rfl)).mono λo H' A=>?_;cases o with|val v=>exact A|ex e K=>cases e with|jmp j=>exact A|normal=>obtain⟨q,U,F⟩:=A;exact V q U F
end
def ahB{a b:Nat}(h:b<a):(a=b)=False:=by simp;omega
def ahA{a b:Nat}(h:a<b):(a=b)=False:=by simp;omega
def cLe{a b:Nat}(h:a<=b):(a<=b)=True:=by simp[h]
def ahz{a b:Nat}(h:b<a):(a<=b)=False:=by simp;omega
def cLt{a b:Nat}(h:a<b):(a<b)=True:=by simp[h]
def ahy{a b:Nat}(h:b<=a):(a<b)=False:=by simp;omega
def iLe{a b:Int}(h:a<=b):(a<=b)=True:=by simp[h]
def ag7{a b:Int}(h:b<a):(a<=b)=False:=by simp;omega
def iLt{a b:Int}(h:a<b):(a<b)=True:=by simp[h]
def ag6{a b:Int}(h:b<=a):(a<b)=False:=by simp;omega
def iGe{a b:Int}(h:a>=b):(a>=b)=True:=by simp;omega
def ag9{a b:Int}(h:a<b):(a>=b)=False:=by simp;omega
def iGt{a b:Int}(h:a>b):(a>b)=True:=by simp;omega
def ag8{a b:Int}(h:a<=b):(a>b)=False:=by simp;omega
def ahb{a b:Int}(h:a=b):(a==b)=true:=by simp[h]
def abZ{a b:Int}(h:a<b\/b<a):(a==b)=false:=by simp;omega
def aha{a b:Int}(h:a<b\/b<a):(a !=b)=true:=by simp;omega
def abY{a b:Int}(h:a=b):(a !=b)=false:=by simp[h]
def aeu{a:Int}(h: -9223372036854775808<=a/\a<=9223372036854775807):IntKind.i64.wrap a=a:=IntWalk.i64_in a Om
def wU8{a:Int}(h:0<=a/\a<=255):IntKind.u8.wrap a=a:=IntWalk.u8_in a h
def Nh{l:List IV}:(IV.agg l).cells=l:=rfl
def Ng{k:IntKind}{n:Int}:(IV.int k n).cells=[.int k n]:=rfl
def KJ{b:Bool}:(IV.bool b).cells=[.bool b]:=rfl
def Nc{s:List UInt8}:(IV.str s).cells=[.str s]:=rfl
def Nd{b o:Nat}:(IV.ptr b o).cells=[.ptr b o]:=rfl
def D1:IV.nilPtr.cells=[.nilPtr]:=rfl
def Ip{b o n c:Nat}{ex:Bool}:(IV.slice b o n c ex).cells=[.slice b o n c ex]:=rfl
def zQ:IV.nilSlice.cells=[.nilSlice]:=rfl
def Nf{b:Nat}:(IV.map b).cells=[.map b]:=rfl
def D2:IV.nilMap.cells=[.nilMap]:=rfl
def Ql{f:FuncId}{a b:List IV}:(IV.fn f a b).cells=[.fn f a b]:=rfl
def In{b:Nat}:(IV.yield b).cells=[.yield b]:=rfl
def Dm:IV.nilFunc.cells=[.nilFunc]:=rfl
def Iq{t:TypeId}{v:IV}:(IV.iface t v).cells=[.iface t v]:=rfl
def zR:IV.nilIface.cells=[.nilIface]:=rfl
def wF{k:IntKind}{n:Int}:(IV.int k n).one=true:=rfl
def uh{b:Bool}:(IV.bool b).one=true:=rfl
def Sn{s:List UInt8}:(IV.str s).one=true:=rfl
def So{b o:Nat}:(IV.ptr b o).one=true:=rfl
def Jp:IV.nilPtr.one=true:=rfl
def Mj{b o n c:Nat}{ex:Bool}:(IV.slice b o n c ex).one=true:=rfl
def DN:IV.nilSlice.one=true:=rfl
def Sp{b:Nat}:(IV.map b).one=true:=rfl
def Jq:IV.nilMap.one=true:=rfl
def V0{f:FuncId}{a b:List IV}:(IV.fn f a b).one=true:=rfl
def Mi{b:Nat}:(IV.yield b).one=true:=rfl
def Hk:IV.nilFunc.one=true:=rfl
def Mk{t:TypeId}{v:IV}:(IV.iface t v).one=true:=rfl
def DO:IV.nilIface.one=true:=rfl
def R6(ob:IObj)(o n:Nat):Option (List IV):=match ob with|.cells _ _ _ cs=>if o+n<=cs.length then some ((cs.drop o).take n) else none|_=>none
def VT{q:Bool}{e ez:Nat}{cs:List IV}{o n:Nat}:R6 (.cells q e ez cs) o n=if o+n<=cs.length then some ((cs.drop o).take n) else none:=rfl
def R5{H:Heap}{ob:IObj}{b o n:Nat}:(H.new ob).read b o n=if H.n=b then R6 ob o n else H.read b o n:=by unfold Heap.read;rw[ak];by_cases h:H.n=b;{simp only[h,if_true];cases ob<;>rfl};{simp[h]}
def R4{H:Heap}{ob:IObj}{b' b o n:Nat}:(H.put b' ob).read b o n=if b'=b then R6 ob o n else H.read b o n:=by unfold Heap.read;rw[aa];by_cases h:b'=b;{simp only[h,if_true];cases ob<;>rfl};{simp[h]}
def ae{H:Heap}{q:Bool}{e ez:Nat}{cs:List IV}{b:Nat}(h:H.get b=some (.cells q e ez cs))(o n:Nat):H.read b o n=if o+n<=cs.length then some ((cs.drop o).take n) else none:=by unfold Heap.read;rw[h]
def NF{H H':Heap}{b:Nat}(h:H'.get b=H.get b)(o n:Nat):H'.read b o n=H.read b o n:=by unfold Heap.read;rw[h]
def Keep.read{lo:Nat}{H H':Heap}(k:Keep lo H H')(b o n:Nat)(q:b<lo)(A:b<H.n):H'.read b o n=H.read b o n:=NF (k.2 b q A) o n
inductive SV where
 | nil
 | sl (b o n c:Nat) (ex:Bool)
 deriving Inhabited
def SV.iv:SV->IV|.nil=>.nilSlice|.sl b o n c ex=>.slice b o n c ex
def SV.blk:SV->Nat|.nil=>0|.sl b _ _ _ _=>b
def SV.off:SV->Nat|.nil=>0|.sl _ o _ _ _=>o
def SV.tight:SV->Prop|.nil=>True|.sl _ _ n c ex=>c=n/\ex=true
def lJ(v:SV):v.iv.one=true:=by cases v<;>rfl
def KW(v:SV):v.iv.cells=[v.iv]:=by cases v<;>rfl
def Fy:SV.nil.iv=.nilSlice:=rfl
def p9{b o n c:Nat}{ex:Bool}:(SV.sl b o n c ex).iv=.slice b o n c ex:=rfl
class Cell (α:Type) where
 z:Nat
 cs:α→List IV
 len:∀a,(cs a).length=z
 one:∀a,(cs a).all IV.one=true
 pos:0 < z
instance:Cell SV where
 z:=1
 cs v:=[v.iv]
 len _:=rfl
 one v:=by simp[lJ]
 pos:=by omega
theorem i4(v:SV):Cell.cs v=[v.iv]:=rfl
def dv:Cell.z SV=1:=rfl
def lK{b o n c:Nat}{ex:Bool}:(SV.sl b o n c ex).blk=b:=rfl
def uz{b o n c:Nat}{ex:Bool}:(SV.sl b o n c ex).off=o:=rfl
section
variable {α:Type}[Cell α]
def ay(l:List α):List IV:=l.flatMap Cell.cs
theorem bz(a:α)(l:List α):ay (a::l)=Cell.cs a++ay l:=rfl
theorem iQ(a b:List α):ay (a++b)=ay a++ay b:=by simp[ay]
def J5(a:α):ay [a]=Cell.cs a:=by simp[ay]
def ax(l:List α):(ay l).length=l.length*Cell.z α:=by induction l with|nil=>simp[ay]|cons p l q=>rw[bz,bB,q,Cell.len,cU,iI];omega
def jg(l:List α):(ay l).all IV.one=true:=by induction l with|nil=>rfl|cons p l q=>rw[bz,List.all_append,q,Cell.one];rfl
theorem um(l:List α)(k:Nat):(ay l).drop (k*Cell.z α)=ay (l.drop k):=by induction l generalizing k with|nil=>simp[ay]|cons p l q=>cases k with|zero=>simp|succ k=>rw[bz,List.drop_succ_cons,iI,Nat.add_comm,<-Cell.len p,List.drop_length_add_append,Cell.len,q]
theorem E7(l:List α)(k:Nat):(ay l).take (k*Cell.z α)=ay (l.take k):=by induction l generalizing k with|nil=>simp[ay]|cons p l q=>cases k with|zero=>simp[ay]|succ k=>rw[bz,List.take_succ_cons,bz,iI,Nat.add_comm,<-Cell.len p,List.take_length_add_append,Cell.len,q]
def Wv(l:List α)(i:Nat)(h:i<l.length):((ay l).drop (i*Cell.z α)).take (Cell.z α)=Cell.cs l[i]:=by grind[um,List.drop_eq_getElem_cons,bz,Cell.len,List.take_left]
def lV{H:Heap}{b o n a m:Nat}{cs:List IV}(h:H.read b o n=some cs)(E:a+m<=n):H.read b (o+a) m=some ((cs.drop a).take m):=by unfold Heap.read at h⊢;cases q:H.get b with|none=>rw[q] at h;cases h|some ob=>rw[q] at h;cases ob with|cells F e ez A=>simp only at h⊢;split at h;{injection h with h;rw[iP,<-h,List.drop_take,List.take_take,uK,show min m (n - a)=m from by omega]};{cases h}|_=>cases h
def Sl(H:Heap)(v:SV)(l:List α):Prop:=match v with|.nil=>l=[]|.sl b o n c _=>n=l.length/\n<=c/\(l≠[]->b<H.n/\H.read b o (l.length*Cell.z α)=some (ay l))
def Sl.keep{H H':Heap}{v:SV}{l:List α}(h:Sl H v l)(k:Keep H.n H H'):Sl H' v l:=by cases v with|nil=>exact h|sl b o n c ex=>exact⟨h.1,h.2.1,λq=>⟨bP (h.2.2 q).1 k.1,(k.read b o _ (h.2.2 q).1 (h.2.2 q).1).trans (h.2.2 q).2⟩⟩
def Sl.same{H H':Heap}{v:SV}{l:List α}(h:Sl H v l)(hn:H.n<=H'.n)(A:l≠[]->H'.get v.blk=H.get v.blk):Sl H' v l:=by cases v with|nil=>exact h|sl b o n c ex=>exact⟨h.1,h.2.1,λq=>⟨bP (h.2.2 q).1 hn,(NF (A q) o _).trans (h.2.2 q).2⟩⟩
def Sl.blk_lt{H:Heap}{v:SV}{l:List α}(h:Sl H v l)(q:l≠[]):v.blk<H.n:=by cases v with|nil=>exact absurd h q|sl b o n c ex=>exact(h.2.2 q).1
def Sl.blk_lt'{H:Heap}{v:SV}{l:List α}(h:Sl H v l){i:Nat}(q:i<l.length):v.blk<H.n:=h.blk_lt (by grind)
def Sl.empty{H:Heap}:Sl H .nil ([]:List α):=rfl
def Sl.ln{H:Heap}{v:SV}{l:List α}(h:Sl H v l)(lo:Nat)(H':Heap):ev1 .lenSl [v.iv] lo H'=some (.int .i64 l.length,H'):=by cases v with|nil=>have h:l=[]:=h;subst h;rfl|sl b o n c ex=>rw[<-h.1];rfl
def Sl.lenI{H:Heap}{v:SV}{l:List α}(h:Sl H v l):pq v.iv=some l.length:=by cases v with|nil=>have h:l=[]:=h;subst h;rfl|sl b o n c ex=>rw[<-h.1];rfl
def Sl.srcI{H:Heap}{v:SV}{l:List α}(h:Sl H v l){z:Nat}(A:Cell.z α=z):jI H z l.length v.iv=some (ay l):=by subst A;cases v with|nil=>have h:l=[]:=h;subst h;rfl|sl b o n c ex=>show(if l.length=0 then some [] else H.read b o (l.length*Cell.z α))=_;by_cases q:l=[];{subst q;rfl};{rw[if_neg (by grind)];exact(h.2.2 q).2}
def Sl.idx{H:Heap}{v:SV}{l:List α}(h:Sl H v l)(z:Nat)(x:Int)(lo:Nat)(H':Heap)(h0:0<=x)(q:x<l.length):ev1 (.idxSl z) [v.iv,.int .i64 x] lo H'=some (.ptr v.blk (v.off+x.toNat*z),H'):=by cases v with|nil=>have h:l=[]:=h;subst h;simp at q;omega|sl b o n c ex=>have hn:=h.1;simp only[ev1,SV.iv,SV.blk,SV.off];rw[if_pos ⟨h0,Om⟩]
def Sl.read{H:Heap}{v:SV}{l:List α}(h:Sl H v l){z:Nat}(A:Cell.z α=z)(i:Nat)(hi:i<l.length):H.read v.blk (v.off+i*z) z=some (Cell.cs l[i]):=by subst A;have q:l≠[]:=by{grind};cases v with|nil=>exact absurd h q|sl b o n c ex=>have:=lV (a:=i*Cell.z α) (m:=Cell.z α) (h.2.2 q).2 (by rw[<-iI];exact rc _ hi);rw[Wv l i hi] at this;exact this
def Sl.part{H:Heap}{b o n c:Nat}{ex:Bool}{l:List α}(h:Sl H (.sl b o n c ex) l){z:Nat}(I:Cell.z α=z){a m c':Nat}{ex':Bool}(hm:a+m<=l.length)(F:m<=c'):Sl H (.sl b (o+a*z) m c' ex') ((l.drop a).take m):=by subst I;have A:((l.drop a).take m).length=m:=by{rw[iZ,nL];omega};refine⟨A.symm,F,λE=>?_⟩;have q:l≠[]:=by{intro e;rw[e] at E;simp at E};refine⟨(h.2.2 q).1,?_⟩;have:=lV (a:=a*Cell.z α) (m:=m*Cell.z α) (h.2.2 q).2 (by rw[<-ve];exact rc _ hm);grind[um,E7]
def Jb(n:Nat)(a:α):pM n (Cell.cs a)=ay (List.replicate n a):=by induction n with|zero=>rfl|succ n q=>rw[pM,q,B1,bz]
def J4(l:List α)(i:Nat)(a:α)(h:i<l.length):az (ay l) (i*Cell.z α) (Cell.cs a)=ay (l.set i a):=by have q:i*Cell.z α+Cell.z α<=(ay l).length:=by{rw[ax,<-iI];exact rc _ h};rw[dm _ _ _ (by rw[Cell.len];exact q),E7,Cell.len,<-iI,um,List.set_eq_take_append_cons_drop,if_pos h];rw[iQ,bz,cq]
def bR(tm:List IV)(n:Nat)(h:tm.length=n):tm=(List.range n).map λi=>tm.getD i UN:=by subst h;apply mJ<;>grind
def Own(H:Heap)(b e cap:Nat)(l:List α):Prop:=l.length<=cap/\b<H.n/\∃r,H.get b=some (.cells false e (Cell.z α) (ay l++r))/\r.length=(cap - l.length)*Cell.z α
def Own.sl{H:Heap}{b e cap:Nat}{l:List α}(h:Own H b e cap l)(ex:Bool):Sl H (.sl b 0 l.length cap ex) l:=by obtain⟨q,A,r,E,F⟩:=h;refine⟨rfl,q,λ_=>⟨A,?_⟩⟩;rw[ae E,bm,if_pos (by rw[bB,ax];omega),ss,<-ax,List.take_left]
def Own.same{H H':Heap}{b e cap:Nat}{l:List α}(h:Own H b e cap l)(hn:H.n<=H'.n)(I:H'.get b=H.get b):Own H' b e cap l:=by obtain⟨q,A,r,E,F⟩:=h;exact⟨q,bP A hn,r,I.trans E,F⟩
def Own.keep{H H':Heap}{b e cap:Nat}{l:List α}(h:Own H b e cap l)(k:Keep H.n H H'):Own H' b e cap l:=h.same k.1 (k.2 b h.2.1 h.2.1)
def Own.full{H:Heap}{b e:Nat}{l:List α}(h:Own H b e l.length l):H.get b=some (.cells false e (Cell.z α) (ay l)):=by obtain⟨q,A,r,E,F⟩:=h;grind
def Own.mk'{H:Heap}{b e:Nat}{l:List α}(q:b<H.n){z:Nat}(F:Cell.z α=z){cs:List IV}(E:H.get b=some (.cells false e z cs))(A:cs=ay l):Own H b e l.length l:=by subst F A;exact⟨ao _,q,[],by rw[E,iX],by simp⟩
def Own.mksl{H:Heap}{e n:Nat}{z:Nat}(q:Cell.z α=z)(a:α):Own (H.new (.cells false e z (pM n (Cell.cs a)))) H.n e n (List.replicate n a):=by subst q;refine⟨by simp,by rw[ac];omega,[],by rw[ak,if_pos rfl,iX,Jb],by simp⟩
def yN{H:Heap}{e n:Nat}{z:Nat}(A:Cell.z α=z){cs:List IV}(q:cs.length=n*z):Own (H.new (.cells false e z cs)) H.n e n ([]:List α):=by subst A;exact⟨by simp,by rw[ac];omega,cs,by rw[ak,if_pos rfl];rfl,by simp[q]⟩
def Own.set{H:Heap}{b e cap:Nat}{l:List α}(h:Own H b e cap l){z:Nat}(O:Cell.z α=z)(i:Nat)(hi:i<l.length)(a:α)(lo:Nat)(q:lo<=b):∃cs,H.write lo b (i*z) (Cell.cs a)=some (H.put b (.cells false e z cs))/\Own (H.put b (.cells false e z cs)) b e cap (l.set i a):=by subst O;obtain⟨A,E,r,F,I⟩:=h;have K:=ax l;have Q:i*Cell.z α+Cell.z α<=l.length*Cell.z α:=by{rw[<-iI];exact rc _ hi};refine⟨az (ay l++r) (i*Cell.z α) (Cell.cs a),?_,?_⟩;{unfold Heap.write;rw[F];simp only;rw[if_pos ⟨q,by rw[Cell.len,bB];omega,Cell.one a⟩]};{refine⟨by simp[A],E,r,?_,by simp[I]⟩;rw[aa,if_pos rfl,<-J4 l i a hi,dm _ _ _ (by rw[Cell.len,bB];omega),dm _ _ _ (by rw[Cell.len];omega),Cell.len];grind}
def Own.push{H:Heap}{b e cap:Nat}{l m:List α}(h:Own H b e cap l){z:Nat}(K:Cell.z α=z)(T:l.length+m.length<=cap)(lo:Nat)(I:lo<=b):∃cs,H.write lo b (l.length*z) (ay m)=some (H.put b (.cells false e z cs))/\Own (H.put b (.cells false e z cs)) b e cap (l++m):=by subst K;obtain⟨O,F,r,Q,E⟩:=h;have A:=ax l;have q:=ax m;have U:(ay m).length<=r.length:=by{rw[q,E];exact rc _ Om};refine⟨az (ay l++r) (l.length*Cell.z α) (ay m),?_,?_⟩;{simp_all[Heap.write,if_pos,bB,jg]};{refine⟨by simp;omega,F,r.drop (ay m).length,?_,?_⟩;{rw[aa,if_pos rfl,dm _ _ _ (by grind),iQ,<-A,List.take_left,List.drop_length_add_append]};{rw[nL,E,q,bB,<-Nat.sub_mul];congr 1;omega}}
end
section
variable {α:Type}[Cell α]
theorem Keep.newPut{H:Heap}{o o':IObj}:Keep H.n H ((H.new o).put H.n o'):=(Keep.new _ _).trans (.put _ _ (ao _))
def fF{H:Heap}{v:SV}{l:List α}(E:Sl H v l){z:Nat}(Q:Cell.z α=z)(e lo:Nat)(zs:List IV)(I:zs.length=z)(A:lo<=H.n):∃q,ev1 (.copy z) [.slice H.n 0 l.length l.length true,v.iv] lo (H.new (.cells false e z (pM l.length zs)))=some (.int .i64 l.length,q)/\q.n=H.n+1/\Keep H.n H q/\Own q H.n e l.length l:=by subst Q;have F:=E.keep (H':=H.new (.cells false e (Cell.z α) (pM l.length zs))) (Keep.new _ _);have K:qO (.slice H.n 0 l.length l.length true)=some l.length:=rfl;by_cases h0:l=[];{subst h0;refine⟨H.new (.cells false e (Cell.z α) []),?_,ac _ _,Keep.new _ _,Own.mk' (l:=[]) (cs:=[]) (by rw[ac];omega) rfl (by rw[ak,if_pos rfl]) rfl⟩;simp only[ev1,K,E.lenI];rfl};{have O:0<l.length:=List.length_pos_iff.2 h0;refine⟨(H.new (.cells false e (Cell.z α) (pM l.length zs))).put H.n (.cells false e (Cell.z α) (ay l)),?_,by rw[af,ac],Keep.newPut,Own.mk' (by rw[af,ac];omega) rfl (by rw[aa,if_pos rfl]) rfl⟩;simp only[ev1,K,E.lenI];rw[Nat.min_self,iN,F.srcI rfl];simp only[bu,Heap.write];rw[ak,if_pos rfl];simp only;have T:(pM l.length zs).length=(ay l).length:=by{rw[iH,I,ax]};rw[if_pos ⟨A,Om,jg l⟩,dm _ _ _ Om];grind}
def Own.put{H:Heap}{b e:Nat}{l:List α}(h:Own H b e l.length l){z:Nat}(q:Cell.z α=z)(i:Nat)(hi:i<l.length)(a:α):Own (H.put b (.cells false e z (az (ay l) (i*z) (Cell.cs a)))) b e l.length (l.set i a):=by subst q;rw[J4 l i a hi];have:=Own.mk' (H:=H.put b (.cells false e (Cell.z α) (ay (l.set i a)))) (l:=l.set i a) (b:=b) (e:=e) h.2.1 rfl (by rw[aa,if_pos rfl]) rfl;grind
def TW{H:Heap}{b e n:Nat}{ex:Bool}{d l:List α}{v:SV}(A:Own H b e n d)(O:d.length=n)(E:Sl H v l){z:Nat}(hz:Cell.z α=z)(lo:Nat)(V:l.length<=n)(Z:lo<=b):∃q,ev1 (.copy z) [.slice b 0 n n ex,v.iv] lo H=some (.int .i64 l.length,q)/\q.n=H.n/\(∀x,x≠b->q.get x=H.get x)/\Own q b e n (l++d.drop l.length):=by subst hz O;have F:qO (.slice b 0 d.length d.length ex)=some d.length:=rfl;have Q:=A.full;by_cases h0:l=[];{subst h0;refine⟨H,?_,rfl,λ_ _=>rfl,by simpa using A⟩;simp only[ev1,F,E.lenI];rw[if_pos (by simp)];rfl};{have K:0<l.length:=List.length_pos_iff.2 h0;have U:=ax l;have T:=ax d;have Y:(ay l).length<=(ay d).length:=by{simp_all[rc]};refine⟨H.put b (.cells false e (Cell.z α) (ay (l++d.drop l.length))),?_,af _ _ _,λx hx=>by rw[aa,if_neg (Ne.symm hx)],?_⟩;{simp only[ev1,F,E.lenI];rw[y5 V,iN,E.srcI rfl];simp only[bu,Heap.write,Q];simp_all[if_pos,jg,dm,yZ,lg,bm,um,iQ]};{have I:(l++d.drop l.length).length=d.length:=by{rw[bB,nL];omega};have:=Own.mk' (H:=H.put b (.cells false e (Cell.z α) (ay (l++d.drop l.length)))) (l:=l++d.drop l.length) (b:=b) (e:=e) A.2.1 rfl (by rw[aa,if_pos rfl]) rfl;grind}}
def mv{H:Heap}{b e cap:Nat}{ex:Bool}{l m:List α}{v:SV}(K:Own H b e cap l)(F:Sl H v m){z:Nat}(I:Cell.z α=z)(bytes lo:Nat)(Q:l.length+m.length<=cap)(A:lo<=b):∃q,ev1 (.append e z bytes) [.slice b 0 l.length cap ex,v.iv] lo H=some (.slice b 0 (l.length+m.length) cap ex,q)/\q.n=H.n/\(∀b',b'≠b->q.get b'=H.get b')/\Own q b e cap (l++m):=by simp only[ev1,F.lenI,F.srcI I,bu,cg];rw[if_neg (by rw[jg];decide)];by_cases h0:m=[];{grind};{have E:0<m.length:=List.length_pos_iff.2 h0;obtain⟨cs,T,O⟩:=K.push I Q lo A;simp_all[af,aa,if_neg,Ne.symm,if_pos,bm]}
def oY{H:Heap}{b e n:Nat}{l m:List α}{v:SV}(T:Own H b e n l)(hn:n=l.length)(I:Sl H v m){z:Nat}(U:Cell.z α=z)(bytes lo:Nat)(hm:m≠[])(O:(l.length+m.length)*(bytes+1)<=2^40)(E:lo<=b):∃q,ev1 (.append e z bytes) [.slice b 0 l.length n false,v.iv] lo H=some (.slice H.n 0 (l.length+m.length) (l.length+m.length) false,q)/\q.n=H.n+1/\(∀b',b'≠b->b'<H.n->q.get b'=H.get b')/\Own q H.n e (l.length+m.length) (l++m):=by subst hn U;have F:0<m.length:=List.length_pos_iff.2 hm;have Q:=T.full;simp only[ev1,I.lenI,I.srcI rfl,bu,cg];rw[if_neg (by rw[jg];decide)];rw[iN,iN,if_pos O,Q];simp only[lj,if_false];have A:=ax l;rw[if_pos ⟨trivial,trivial,Cell.pos,trivial,E,Om⟩];refine⟨_,rfl,by rw[ac,af],λb' K V=>by rw[ak,if_neg (by rw[af];omega),aa,if_neg (Ne.symm K)],?_⟩;rw[<-A,wp,<-iQ,<-bB];exact Own.mk' (by rw[ac,af];omega) rfl (by rw[ak,if_pos (af _ _ _)]) rfl
def vx{H:Heap}{e:Nat}{m:List α}{v:SV}(E:Sl H v m){z:Nat}(I:Cell.z α=z)(bytes lo:Nat)(hm:m≠[])(F:m.length*(bytes+1)<=2^40):∃q,ev1 (.append e z bytes) [.nilSlice,v.iv] lo H=some (.slice H.n 0 m.length m.length false,q)/\q.n=H.n+1/\Keep H.n H q/\Own q H.n e m.length m:=by subst I;have A:0<m.length:=List.length_pos_iff.2 hm;simp only[ev1,E.lenI,E.srcI rfl,bu,cg];rw[if_neg (by rw[jg];decide)];rw[iN,if_pos F];exact⟨_,rfl,ac _ _,Keep.new _ _,Own.mk' (by rw[ac];omega) rfl (by rw[ak,if_pos rfl]) rfl⟩
def mw{H:Heap}{b o n e:Nat}{l m:List α}{v:SV}(hs:Sl H (.sl b o l.length n true) l)(F:Sl H v m){z:Nat}(K:Cell.z α=z)(bytes lo:Nat)(hm:m≠[])(hn:n<l.length+m.length)(I:(l.length+m.length)*(bytes+1)<=2^40):∃A,ev1 (.append e z bytes) [.slice b o l.length n true,v.iv] lo H=some (.slice H.n 0 (l.length+m.length) (l.length+m.length) false,A)/\A.n=H.n+1/\Keep H.n H A/\Own A H.n e (l.length+m.length) (l++m):=by subst K;have E:0<m.length:=List.length_pos_iff.2 hm;have q:=hs.srcI rfl;simp only[SV.iv] at q;simp only[ev1,F.lenI,F.srcI rfl,bu,cg];rw[if_neg (by rw[jg];decide)];rw[iN,iN,if_pos I,if_pos trivial,q];refine⟨_,rfl,ac _ _,Keep.new _ _,?_⟩;rw[<-iQ,<-bB];exact Own.mk' (by rw[ac];omega) rfl (by rw[ak,if_pos rfl]) rfl
end
section
variable {α:Type}[Cell α]
def Sl2(H:Heap)(v:SV)(ls:List (List α)):Prop:=∃vs:List SV,Sl H v vs/\vs.length=ls.length/\∀(i:Nat)(h:i<ls.length)(q:i<vs.length),Sl H vs[i] ls[i]
def Sl2.keep{H H':Heap}{v:SV}{ls:List (List α)}(h:Sl2 H v ls)(k:Keep H.n H H'):Sl2 H' v ls:=by obtain⟨vs,q,A,E⟩:=h;exact⟨vs,q.keep k,A,λi a b=>(E i a b).keep k⟩
def Sl2.ln{H:Heap}{v:SV}{ls:List (List α)}(h:Sl2 H v ls)(lo:Nat)(H':Heap):ev1 .lenSl [v.iv] lo H'=some (.int .i64 ls.length,H'):=by obtain⟨vs,q,A,E⟩:=h;rw[q.ln,A]
def Sl2.idx{H:Heap}{v:SV}{ls:List (List α)}(h:Sl2 H v ls)(z:Nat)(x:Int)(lo:Nat)(H':Heap)(h0:0<=x)(A:x<ls.length):ev1 (.idxSl z) [v.iv,.int .i64 x] lo H'=some (.ptr v.blk (v.off+x.toNat*z),H'):=by obtain⟨vs,g1,g2,q⟩:=h;exact g1.idx z x lo H' h0 Om
def Sl2.elem{H:Heap}{v:SV}{ls:List (List α)}(h:Sl2 H v ls)(i:Nat)(hi:i<ls.length):∃w:SV,H.read v.blk (v.off+i*1) 1=some [w.iv]/\Sl H w ls[i]/\v.blk<H.n:=by obtain⟨vs,g1,g2,q⟩:=h;exact⟨vs[i]'Om,g1.read (α:=SV) rfl i Om,q i hi Om,g1.blk_lt' (i:=i) Om⟩
def Sl2.nil{H:Heap}:Sl2 H .nil ([]:List (List α)):=⟨[],rfl,rfl,λi h=>by simp at h⟩
def Fresh(n0:Nat)(H:Heap)(e:Nat)(v:SV)(l:List α):Prop:=(v=.nil/\l=[])\/∃b,v=.sl b 0 l.length l.length true/\n0<=b/\Own H b e l.length l
def Fresh.sl{n0:Nat}{H:Heap}{e:Nat}{v:SV}{l:List α}(h:Fresh n0 H e v l):Sl H v l:=by rcases h with⟨rfl,rfl⟩|⟨b,rfl,A,q⟩;{exact Sl.empty};{exact q.sl true}
def Fresh.keep{n0:Nat}{H H':Heap}{e:Nat}{v:SV}{l:List α}(h:Fresh n0 H e v l)(k:Keep H.n H H'):Fresh n0 H' e v l:=by rcases h with⟨rfl,rfl⟩|⟨b,rfl,q,A⟩;{exact .inl ⟨rfl,rfl⟩};{exact .inr ⟨b,rfl,q,A.keep k⟩}
end
def Sl.cellsAt{α:Type}[Cell α]{H:Heap}{v:SV}{l:List α}(h:Sl H v l)(F:l≠[]):∃A e ez cs,H.get v.blk=some (.cells A e ez cs):=by cases v with|nil=>exact absurd h F|sl b o n c ex=>have q:=(h.2.2 F).2;unfold Heap.read at q;show ∃A e ez cs,H.get b=_;cases E:H.get b with|none=>rw[E] at q;cases q|some ob=>rw[E] at q;cases ob with|cells A e ez cs=>exact⟨_,_,_,_,rfl⟩|_=>cases q
def Sl.off{α:Type}[Cell α]{H:Heap}{v:SV}{l:List α}(h:Sl H v l)(A:l≠[]){x:Nat}{ob:IObj}(hx:H.get x=some ob)(E:∀q e ez cs,ob≠.cells q e ez cs):v.blk≠x:=by intro e;obtain⟨q,a,b,c,F⟩:=h.cellsAt A;grind
def be{α:Type}:List (List α)->Nat|[]=>0|a::l=>if be l=0/\a=[] then 0 else be l+1
theorem jN{α:Type}:∀l:List (List α),be l<=l.length|[]=>ao _|a::l=>by have:=jN l;grind[be,List.length_cons]
def je{α:Type}:∀(l:List (List α))(i:Nat)(h:i<l.length),be l<=i->l[i]=[]|[],_,h,_=>by simp at h|a::l,0,h,k=>by grind[be]|a::l,i+1,h,k=>by have:be l<=i:=by{grind[be]};exact je l i (by simpa using h) this
theorem oL{α:Type}:∀(l:List (List α))(n:Nat)(h:n<l.length),be l=n+1->l[n]≠[]|[],_,h,_=>by simp at h|a::l,n,h,k=>by unfold be at k;split at k;{omega};{rename_i hn;cases n with|zero=>simp only[List.getElem_cons_zero];exactλe=>hn ⟨Om,e⟩|succ n=>exact oL l n (by simpa using h) Om}
def sk{α:Type}{l:List (List α)}{n:Nat}(hn:n<=l.length)(q:∀i (h:i<l.length),n<=i->l[i]=[])(A:∀m (h:m<l.length),n=m+1->l[m]≠[]):n=be l:=by rcases G4 n (be l) with h|h|h;{exfalso;have E:=jN l;exact oL l (be l - 1) Om Om (q _ Om Om)};{exact h};{exfalso;exact A (n - 1) Om Om (je l _ Om Om)}
section
variable {α:Type}
def kG(f:Nat->α)(a b n x:Nat):α:=if a<=x/\x<a+n then f (x+b - a) else if b<=x/\x<b+n then f (x+a - b) else f x
def qB(f:Nat->α)(a m b x:Nat):α:=if a<=x/\x<a+(b - m) then f (x+(m - a)) else if a+(b - m)<=x/\x<b then f (x - (b - m)) else f x
def LC(f:Nat->α)(a b x:Nat):kG f a b 0 x=f x:=by simp_all[kG,if_neg]
def LD{f g:Nat->α}{a b n:Nat}(q:a+n<b)(A:∀x,g x=if x=b+n then kG f a b n (a+n) else if x=a+n then kG f a b n (b+n) else kG f a b n x)(x:Nat):g x=kG f a b (n+1) x:=by rw[A];unfold kG;grind
theorem RV{f g:Nat->α}{m i j:Nat}(hi:i<=m)(I:0<j)(F:j<i)(A:∀x,g x=kG f (m - i) m j x)(x:Nat):qB g (m - (i - j)) m (m+j) x=qB f (m - i) m (m+j) x:=by unfold qB;by_cases E:m - (i - j)<=x/\x<m - (i - j)+(m+j - m);{rw[if_pos E,A];unfold kG;by_cases q:m<=x+(m - (m - (i - j)))<;>grind};{rw[if_neg E];by_cases q:m - (i - j)+(m+j - m)<=x/\x<m+j;{rw[if_pos q,A];unfold kG;grind};{rw[if_neg q,A];unfold kG;grind}}
theorem Pc{f g:Nat->α}{m i j:Nat}(hi:i<=m)(F:0<i)(I:i<j)(q:∀x,g x=kG f (m - i) (m+j - i) i x)(x:Nat):qB g (m - i) m (m+(j - i)) x=qB f (m - i) m (m+j) x:=by unfold qB;by_cases A:m - i<=x/\x<m - i+(m+(j - i) - m);{rw[if_pos A,q,iP];unfold kG;grind};{rw[if_neg A];by_cases E:m - i+(m+(j - i) - m)<=x/\x<m+(j - i);{rw[if_pos E,q];unfold kG;grind};{rw[if_neg E,q];unfold kG;grind}}
def RU{f g:Nat->α}{m i:Nat}(hi:i<=m)(q:∀x,g x=kG f (m - i) m i x)(x:Nat):g x=qB f (m - i) m (m+i) x:=by rw[q];unfold kG qB;grind
def I9(f:Nat->α){a m b:Nat}(q:a<=m)(A:m<=b)(h:a=m\/m=b)(x:Nat):qB f a m b x=f x:=by unfold qB;grind
end
section
variable {α:Type}[Inhabited α]
def aP(l:List α)(x:Nat):α:=l.getD x default
theorem mB{l:List α}{x:Nat}(h:x<l.length):aP l x=l[x]:=by unfold aP;grind
def kF(l:List α)(i j:Nat):List α:=(l.set i (aP l j)).set j (aP l i)
def ni(l:List α)(i j:Nat):(kF l i j).length=l.length:=by simp[kF]
def LB{l:List α}{i j:Nat}(hi:i<l.length)(q:j<l.length):(kF l i j).Perm l:=by grind[kF,mB,List.set_set_perm]
theorem kL{l:List α}{i j:Nat}(hi:i<l.length)(E:j<l.length)(x:Nat):aP (kF l i j) x=if x=j then aP l i else if x=i then aP l j else aP l x:=by unfold kF;by_cases q:x=j;{subst q;rw[if_pos rfl,mB (by simpa using E)];simp};{rw[if_neg q];by_cases A:x=i;{subst A;rw[if_pos rfl,mB (by simpa using hi)];rw[ll (Ne.symm q),pP]};simp_all[if_neg,aP,cn,List.getElem?_set_ne,Ne.symm]}
structure Mix(a b:Nat)(l l':List α):Prop where
 len:l'.length=l.length
 perm:l'.Perm l
 out:∀x,(x < a∨b≤x)→aP l' x=aP l x
 img:∀x,a≤x→x < b→∃y,a≤y∧y < b∧aP l' x=aP l y
theorem Mix.refl(a b:Nat)(l:List α):Mix a b l l:=⟨rfl,.refl _,λ_ _=>rfl,λx q A=>⟨x,q,A,rfl⟩⟩
def Mix.trans{a b:Nat}{l m n:List α}(h:Mix a b l m)(k:Mix a b m n):Mix a b l n:=by refine⟨k.len.trans h.len,k.perm.trans h.perm,λx hx=>(k.out x hx).trans (h.out x hx),λx q A=>?_⟩;obtain⟨y,y1,E,F⟩:=k.img x q A;obtain⟨z,I,K,O⟩:=h.img y y1 E;grind
def Mix.wide{a b c d:Nat}{l m:List α}(h:Mix a b l m)(E:c<=a)(F:b<=d):Mix c d l m:=by refine⟨h.len,h.perm,λx hx=>h.out x Om,λx q A=>?_⟩;by_cases hx:a<=x/\x<b;{obtain⟨y,y1,I,K⟩:=h.img x hx.1 hx.2;grind};{exact⟨x,q,A,h.out x Om⟩}
def Mix.swap{a b i j:Nat}{l:List α}(E:b<=l.length)(hi:a<=i/\i<b)(F:a<=j/\j<b):Mix a b l (kF l i j):=by have q:i<l.length:=Om;have A:j<l.length:=Om;refine⟨ni _ _ _,LB q A,λx hx=>?_,λx I K=>?_⟩;{rw[kL q A,iN,iN]};{rw[kL q A];grind}
variable (lt:α->α->Prop)
def Srt(l:List α)(a b:Nat):Prop:=∀i j,a<=i->i<j->j<b->lt (aP l i) (aP l j)
def Srt.part{lt:α->α->Prop}{l:List α}{a b c d:Nat}(h:Srt lt l a b)(F:a<=c)(I:d<=b):Srt lt l c d:=λi j A q E=>h i j Om q Om
def Srt.out{lt:α->α->Prop}{l q:List α}{a b c d:Nat}(h:Srt lt l a b)(k:Mix c d l q)(I:b<=c\/d<=a):Srt lt q a b:=λi j A E F=>by rw[k.out i Om,k.out j Om];exact h i j A E F
def Uq{lt:α->α->Prop}{l l1 l2:List α}{a m b:Nat}(F:Mix a m l l1)(A:Mix m b l1 l2)(I:Srt lt l1 a m)(K:Srt lt l2 m b)(O:∀x y,a<=x->x<m->m<=y->y<b->lt (aP l x) (aP l y)):Srt lt l2 a b:=by intro i j hi q E;by_cases c1:j<m;{rw[A.out i Om,A.out j Om];exact I i j hi q c1};{by_cases c2:m<=i;{exact K i j c2 q E};{rw[A.out i Om];obtain⟨x,Q,T,U⟩:=F.img i hi Om;obtain⟨y,y1,V,Y⟩:=A.img j Om E;rw[U,Y,F.out y Om];exact O x y Q T y1 V}}
def Vo{lt ord:α->α->Prop}{l l1:List α}{a m b mid start q:Nat}(h1:a<=start)(h2:start<=mid)(h3:start<=m)(h4:mid<=q)(h5:m<=q)(h6:q<=b)(he:start+q=mid+m)(Y:Srt lt l a m)(Z:Srt lt l m b)(F:∀i j,a<=i->i<m->m<=j->j<b->ord (aP l i) (aP l j))(pA:∀i j,a<=i->i<start->q<=j->j<b->lt (aP l i) (aP l j))(pB:∀i j,m<=i->i<q->start<=j->j<m->lt (aP l i) (aP l j))(U:∀x,aP l1 x=qB (aP l) start m q x):(Srt lt l1 a start/\Srt lt l1 start mid/\Srt lt l1 mid q/\Srt lt l1 q b)/\(∀i j,a<=i->i<start->start<=j->j<mid->ord (aP l1 i) (aP l1 j))/\(∀i j,mid<=i->i<q->q<=j->j<b->ord (aP l1 i) (aP l1 j))/\ ∀x y,a<=x->x<mid->mid<=y->y<b->lt (aP l1 x) (aP l1 y):=by have O:∀x,x<start->aP l1 x=aP l x:=λx hx=>by{rw[U];unfold qB;grind};have Q:∀x,start<=x->x<mid->aP l1 x=aP l (x+(m - start)):=λx hx V=>by{rw[U];unfold qB;rw[iP]};have I:∀x,mid<=x->x<q->aP l1 x=aP l (x - (q - m)):=λx hx V=>by{rw[U];unfold qB;grind};have T:∀x,q<=x->aP l1 x=aP l x:=λx hx=>by{rw[U];unfold qB;grind};refine⟨⟨λi j q1 E A=>?_,λi j q1 E A=>?_,λi j q1 E A=>?_,λi j q1 E A=>?_⟩,λi j q1 E A K=>?_,λi j q1 E A K=>?_,λx y q1 E A K=>?_⟩;{rw[O i Om,O j A];exact Y i j q1 E Om};{rw[Q i q1 Om,Q j Om A];exact Z _ _ Om Om Om};{rw[I i q1 Om,I j Om A];exact Y _ _ Om Om Om};{rw[T i q1,T j Om];exact Z _ _ Om E A};{rw[O i E,Q j A K];exact F _ _ q1 Om Om Om};{rw[I i q1 E,T j A];exact F _ _ Om Om Om K};{by_cases c1:x<start;{rw[O x c1];by_cases c2:y<q;{rw[I y A c2];exact Y _ _ q1 Om Om};grind};{rw[Q x Om E];by_cases c2:y<q;{rw[I y A c2];exact pB _ _ Om Om Om Om};{rw[T y Om];exact Z _ _ Om Om K}}}
def It{lt:α->α->Prop}{l:List α}(h:Srt lt l 0 l.length):l.Pairwise lt:=by rw[EE];intro i j hi A q;have:=h i j (dx _) q A;grind[mB]
def mH{lt:α->α->Prop}{l:List α}(h:l.Pairwise lt)(a b:Nat)(F:b<=l.length):Srt lt l a b:=by rw[EE] at h;intro i j q A E;grind[mB]
end
theorem yR{α:Type}{lt:α->α->Prop}(q:∀a,¬lt a a)(I:∀a b c,lt a b->lt b c->lt a c):∀{l m:List α},l.Pairwise lt->m.Pairwise lt->(∀x,x∈l↔x∈m)->l=m|[],[],_,_,_=>rfl|[],b::m,_,_,h=>absurd ((h b).2 (by simp)) (by simp)|a::l,[],_,_,h=>absurd ((h a).1 (by simp)) (by simp)|a::l,b::m,F,hm,h=>by rw[List.pairwise_cons] at F hm;have E:a=b:=by{rcases List.mem_cons.1 ((h a).1 (by simp)) with e|e;{exact e};{rcases List.mem_cons.1 ((h b).2 (by simp)) with A|A;{exact A.symm};{exact absurd (I _ _ _ (F.1 b A) (hm.1 a e)) (q a)}}};subst E;congr 1;refine yR q I F.2 hm.2 λx=>⟨λhx=>?_,λhx=>?_⟩<;>grind
def EM{f:Fp}:ba .none f=true:=by cases f<;>rfl
def EL{f:Fp}:ba f .none=true:=by cases f<;>rfl
def Pp{b o n b' o' q:Nat}:ba (.rd b o n) (.rd b' o' q)=true:=rfl
def Po{b o n b' o' q:Nat}:ba (.rd b o n) (.wr b' o' q)=lI b o n b' o' q:=rfl
def Pn{b o n b' o' q:Nat}:ba (.wr b o n) (.rd b' o' q)=lI b o n b' o' q:=rfl
def Pm{b o n b' o' q:Nat}:ba (.wr b o n) (.wr b' o' q)=lI b o n b' o' q:=rfl
def Pr{b o n b':Nat}:ba (.rd b o n) (.wb b')=decide (b'≠b):=rfl
def Pw{b o n b':Nat}:ba (.wb b') (.rd b o n)=decide (b'≠b):=rfl
def Me{b o n b':Nat}:ba (.wr b o n) (.wb b')=decide (b'≠b):=rfl
def Pu{b o n b':Nat}:ba (.wb b') (.wr b o n)=decide (b'≠b):=rfl
def Px{b b':Nat}:ba (.wb b) (.wb b')=decide (b≠b'):=rfl
def aZ{q:cZ}{o:IOp}{xs:List IV}(h:iO o xs=some .none):bq (some q) o xs=some (some ((o.idx,.none)::q)):=by simp_all[bq,pU,if_pos,wq,EL]
section
variable {fc:cZ}{dst:Option Nat}{args:List IA}{g:Option (Nat×Bool)}{amb:Bool}{idx mask:Nat}{xs:List IV}
def Mp{o:IOp}:bq none o xs=some none:=rfl
def Jw:bq (some fc) ⟨dst,.move,args,g,amb,idx,mask⟩ xs=some (some ((idx,.none)::fc)):=aZ rfl
def Mq{op:BinOp}:bq (some fc) ⟨dst,.bin op,args,g,amb,idx,mask⟩ xs=some (some ((idx,.none)::fc)):=aZ rfl
def PH{op:UnOp}:bq (some fc) ⟨dst,.un op,args,g,amb,idx,mask⟩ xs=some (some ((idx,.none)::fc)):=aZ rfl
def Jy{k:IntKind}:bq (some fc) ⟨dst,.conv k,args,g,amb,idx,mask⟩ xs=some (some ((idx,.none)::fc)):=aZ rfl
def Hm{z:Nat}:bq (some fc) ⟨dst,.idxSl z,args,g,amb,idx,mask⟩ xs=some (some ((idx,.none)::fc)):=aZ rfl
def yh{z:Nat}:bq (some fc) ⟨dst,.fieldAddr z,args,g,amb,idx,mask⟩ xs=some (some ((idx,.none)::fc)):=aZ rfl
def Hn{z:Nat}{n:Option Nat}:bq (some fc) ⟨dst,.field z n,args,g,amb,idx,mask⟩ xs=some (some ((idx,.none)::fc)):=aZ rfl
def Hl:bq (some fc) ⟨dst,.lenSl,args,g,amb,idx,mask⟩ xs=some (some ((idx,.none)::fc)):=aZ rfl
def Jv:bq (some fc) ⟨dst,.pick,args,g,amb,idx,mask⟩ xs=some (some ((idx,.none)::fc)):=aZ rfl
def wH{l z:Nat}:bq (some fc) ⟨dst,.idxArrAddr l z,args,g,amb,idx,mask⟩ xs=some (some ((idx,.none)::fc)):=aZ rfl
end
def aex(m k:Nat):Nat.testBit m k=decide (m / 2^k%2=1):=Nat.testBit_eq_decide_div_mod_eq
section
variable {α:Type}[Cell α]
def Gr(n0:Nat)(H:Heap)(e:Nat)(v:SV)(l:List α):Prop:=(v=.nil/\l=[])\/∃b,v=.sl b 0 l.length l.length false/\n0<=b/\l≠[]/\Own H b e l.length l
def Gr.nil{n0:Nat}{H:Heap}{e:Nat}:Gr n0 H e .nil ([]:List α):=.inl ⟨rfl,rfl⟩
def Gr.sl{n0:Nat}{H:Heap}{e:Nat}{v:SV}{l:List α}(h:Gr n0 H e v l):Sl H v l:=by rcases h with⟨rfl,rfl⟩|⟨b,rfl,_,_,q⟩;{exact Sl.empty};{exact q.sl false}
def Gr.blk{n0:Nat}{H:Heap}{e:Nat}{v:SV}{l:List α}(h:Gr n0 H e v l)(A:l≠[]):H.get v.blk=some (.cells false e (Cell.z α) (ay l)):=by rcases h with⟨_,rfl⟩|⟨b,rfl,_,_,q⟩;{exact absurd rfl A};{exact q.full}
def Gr.keep{n0:Nat}{H H':Heap}{e:Nat}{v:SV}{l:List α}(h:Gr n0 H e v l)(k:Keep H.n H H'):Gr n0 H' e v l:=by rcases h with h|⟨b,q,A,E,F⟩;{exact .inl h};{exact .inr ⟨b,q,A,E,F.keep k⟩}
def KeepG(n0 e z:Nat)(H H':Heap):Prop:=H.n<=H'.n/\∀x,x<H.n->(x<n0\/∀cs,H.get x≠some (.cells false e z cs))->H'.get x=H.get x
def KeepG.refl(n0 e z:Nat)(H:Heap):KeepG n0 e z H H:=⟨ao _,λ_ _ _=>rfl⟩
def KeepG.trans{n0 e z:Nat}{a b c:Heap}(h:KeepG n0 e z a b)(k:KeepG n0 e z b c):KeepG n0 e z a c:=by refine⟨dy h.1 k.1,λx A E=>?_⟩;have q:=h.2 x A E;rw[<-q];exact k.2 x (bP A h.1) (by rw[q];exact E)
def KeepG.of{n0 e z:Nat}{H H':Heap}(k:Keep H.n H H'):KeepG n0 e z H H':=⟨k.1,λx h _=>k.2 x h h⟩
def KeepG.low{n0 e z:Nat}{H H':Heap}(k:KeepG n0 e z H H')(hn:n0<=H.n):Keep n0 H H':=⟨k.1,λx q A=>k.2 x A (.inl q)⟩
def KeepG.get{n0 e z x:Nat}{H H':Heap}{ob:IObj}(k:KeepG n0 e z H H')(hx:x<H.n)(A:H.get x=some ob)(q:∀cs,ob≠.cells false e z cs):H'.get x=some ob:=by rw[k.2 x hx (.inr λcs h=>q cs (by grind))];exact A
def Own.keepG{n0 e q z b cap:Nat}{H H':Heap}{l:List α}(h:Own H b e cap l)(k:KeepG n0 q z H H')(K:e≠q):Own H' b e cap l:=by obtain⟨E,A,r,F,I⟩:=h;refine Own.same ⟨E,A,r,F,I⟩ k.1 (k.2 b A (.inr λcs O=>?_));grind
def OwnS(n0:Nat)(H:Heap)(e:Nat)(v:SV)(l:List α):Prop:=(v=.nil/\l=[])\/∃b cap ex,v=.sl b 0 l.length cap ex/\n0<=b/\Own H b e cap l
def OwnS.sl{n0:Nat}{H:Heap}{e:Nat}{v:SV}{l:List α}(h:OwnS n0 H e v l):Sl H v l:=by rcases h with⟨rfl,rfl⟩|⟨b,cap,ex,rfl,_,h⟩;{exact Sl.empty};{exact h.sl ex}
def OwnS.keep{n0:Nat}{H H':Heap}{e:Nat}{v:SV}{l:List α}(h:OwnS n0 H e v l)(k:Keep H.n H H'):OwnS n0 H' e v l:=by rcases h with h|⟨b,cap,ex,q,A,E⟩;{exact .inl h};{exact .inr ⟨b,cap,ex,q,A,E.keep k⟩}
def OwnS.keepG{n0 n1 e A z:Nat}{H H':Heap}{v:SV}{l:List α}(h:OwnS n0 H e v l)(k:KeepG n1 A z H H')(q:e≠A):OwnS n0 H' e v l:=by rcases h with h|⟨b,cap,ex,E,F,I⟩;{exact .inl h};{exact .inr ⟨b,cap,ex,E,F,I.keepG k q⟩}
def Fresh.own{n0:Nat}{H:Heap}{e:Nat}{v:SV}{l:List α}(h:Fresh n0 H e v l):OwnS n0 H e v l:=by rcases h with h|⟨b,q,A,E⟩;{exact .inl h};{exact .inr ⟨b,l.length,true,q,A,E⟩}
def Gr.own{n0:Nat}{H:Heap}{e:Nat}{v:SV}{l:List α}(h:Gr n0 H e v l):OwnS n0 H e v l:=by rcases h with h|⟨b,q,A,_,E⟩;{exact .inl h};{exact .inr ⟨b,l.length,false,q,A,E⟩}
def Gr.push{n0:Nat}{H:Heap}{e:Nat}{v:SV}{l:List α}(h:Gr n0 H e v l){a:α}{u:SV}(T:Sl H u [a]){z:Nat}(I:Cell.z α=z)(bytes lo:Nat)(Y:lo<=n0)(hn:n0<=H.n)(Q:(l.length+1)*(bytes+1)<=2^40):∃q w,ev1 (.append e z bytes) [v.iv,u.iv] lo H=some (SV.iv w,q)/\KeepG n0 e z H q/\Gr n0 q e w (l++[a]):=by rcases h with⟨rfl,rfl⟩|⟨b,rfl,Z,h3,O⟩;{obtain⟨q,E,U,F,K⟩:=vx (e:=e) T I bytes lo (by simp) (by simpa using Q);exact⟨q,.sl H.n 0 1 1 false,E,KeepG.of F,.inr ⟨H.n,rfl,hn,by simp,K⟩⟩};{obtain⟨q,E,U,F,K⟩:=oY (n:=l.length) O rfl T I bytes lo (by simp) (by simpa using Q) Om;refine⟨q,.sl H.n 0 (l.length+1) (l.length+1) false,E,⟨Om,λx V A=>F x ?_ V⟩,.inr ⟨H.n,by simp,hn,by simp,by grind⟩⟩;rintro rfl;rcases A with A|A;{omega};{exact A _ (by rw[O.full,I])}}
def qF{H:Heap}{e z:Nat}(q:Cell.z α=z)(a:α):Own (H.new (.cells false e z (Cell.cs a))) H.n e 1 [a]:=by have:=Own.mk' (H:=H.new (.cells false e z (Cell.cs a))) (b:=H.n) (e:=e) (l:=[a]) (by rw[ac];omega) q (by rw[ak,if_pos rfl]) (J5 a).symm;exact this
def Gr.pushNew{n0:Nat}{H:Heap}{e:Nat}{v:SV}{l:List α}(h:Gr n0 H e v l)(a:α){z:Nat}(E:Cell.z α=z)(bytes lo:Nat)(A:lo<=n0)(hn:n0<=H.n)(I:(l.length+1)*(bytes+1)<=2^40):∃q w,ev1 (.append e z bytes) [v.iv,.slice H.n 0 1 1 true] lo (H.new (.cells false e z (Cell.cs a)))=some (SV.iv w,q)/\KeepG n0 e z H q/\Gr n0 q e w (l++[a]):=by obtain⟨q,w,F,K,g1⟩:=(h.keep (.new _ (.cells false e z (Cell.cs a)))).push (a:=a) ((qF E a).sl true) E bytes lo A (by rw[ac];omega) I;exact⟨q,w,F,(KeepG.of (.new _ _)).trans K,g1⟩
end
def DW{α:Type}(f:Nat->List α)(n:Nat):(List.range (n+1)).flatMap f=(List.range n).flatMap f++f n:=by rw[List.range_succ,G7];simp
end Go.Iso
section
namespace Go.Iso
def Q0:i9 []=.tuple []:=rfl
def QZ{v:IV}:i9 [v]=v:=rfl
def QY{v w:IV}{l:List IV}:i9 (v::w::l)=.tuple (v::w::l):=rfl
def BAS:=an @aaw (an @act (an @aaz (an @lx (an @WQ (an @YF (an @aaA (an @KS (an @Nm (an @Wt (an @Wu (an @acu (an @aiJ (an @To (an @Tp (an @acm (an @acn (an @acl (an @aco (an @aat (an @ab1 (an @Zj (an @VY (an @eq_self.{1} (an @Nat.left_eq_add (an @Nat.add_eq_left (an @Nat.add_left_cancel_iff (an @Nat.add_assoc (an @Qs (an @OJ (an @OI (an @UW (an @UV (an @ZE (an @ZF (an @abE (an @List.getD_cons_zero.{0} (an @List.getD_cons_succ.{0} (an @Vl (an @Vm (an @Zk (an @aap (an @aao (an @aaq (an @WH (an @WI (an @Y6 (an @WR (an @if_true.{1} (an @if_false.{1} (an @Option.map_some.{0,0} (an @Option.map_none.{0,0} (an @Option.bind_some.{0,0} (an @Option.bind_none.{0,0} (an @List.nil_append.{0} (an @List.append_nil.{0} (an @List.cons_append.{0} (an @List.length_cons.{0} (an @List.length_nil.{0} (an @Nat.zero_add (an @ZA (an @ZB (an @SN (an @Ve (an @beq_self_eq_true.{0} (an @Bool.false_eq_true (an @Bool.not_true (an @Bool.not_false (an @Option.getD_some.{0} (an @Option.getD_none.{0} (an @Nh (an @Ng (an @KJ (an @Nc (an @Nd (an @D1 (an @Ip (an @zQ (an @Nf (an @D2 (an @Ql (an @In (an @Dm (an @Iq (an @zR (an @ak (an @ac (an @aa (an @af (an @List.drop_succ_cons.{0} (an @List.drop_zero.{0} (an @List.take_succ_cons.{0} (an @List.take_zero.{0} (an @Nat.add_zero (an @Nat.le_refl (an @Option.some.injEq.{0} (an @and_true (an @true_and (an @and_false (an @false_and (an @BEq.rfl.{0} (an @wF (an @uh (an @Sn (an @So (an @Jp (an @Mj (an @DN (an @Sp (an @Jq (an @V0 (an @Mi (an @Hk (an @Mk (an @DO (an @List.all_cons.{0} (an @List.all_nil.{0} (an @Bool.and_self (an @Bool.and_true (an @Bool.true_and (an @Nat.le_add_right (an @Nat.add_sub_cancel (an @bne_self_eq_false.{0} (an @Bool.false_bne (an @Bool.bne_false (an @Bool.or_true (an @Bool.true_or (an @Int.toNat_natCast (an @Option.isSome_some.{0} (an @aay (an @Zx (an @Zw (an @xA (an @QC (an @R3 (an @R2 (an @Vi (an @Vg (an @Vh (an @VX (an @VW (an @ne_eq.{1} (an @not_false_eq_true (an @ahB (an @ahA (an @cLe (an @ahz (an @cLt (an @ahy (an @iLe (an @ag7 (an @iLt (an @ag6 (an @iGe (an @ag9 (an @iGt (an @ag8 (an @ahb (an @abZ (an @aha (an @abY (an @aeu (an @wU8 (an @decide_true (an @decide_false (an @R5 (an @R4 (an @VT (an @KW (an @lJ (an @Fy (an @p9 (an @i4 (an @lK (an @uz (an @Nat.zero_mul (an @Bool.true_eq_false (an @Bool.false_or (an @Bool.or_false (an @Bool.false_and (an @Bool.and_false (an @not_true_eq_false (an @Nat.sub_zero (an @List.getElem?_cons_zero.{0} (an @List.getElem?_cons_succ.{0} (an @bD.eq_1 (an @bD.eq_2 (an @IA.eval.eq_1 (an @IA.eval.eq_2 (an @IA.eval.eq_3 (an @Fr.put.eq_1 (an @Fr.put.eq_2 (an @cW.eq_1 (an @cW.eq_2 (an @bX.eq_1 (an @bX.eq_2 (an @aC.eq_1 (an @aC.eq_2 (an @kI.eq_1 (an @kI.eq_2 (an @aj.eq_1 (an @aj.eq_2 (an @List.set.eq_1.{0} (an @List.set.eq_2.{0} (an @List.set.eq_3.{0} (an @List.drop.eq_1.{0} (an @List.drop.eq_2.{0} (an @List.drop.eq_3.{0} (an @List.take.eq_1.{0} (an @List.take.eq_2.{0} (an @List.take.eq_3.{0} (an @List.append.eq_1.{0} (an @List.append.eq_2.{0} (an @az.eq_1 (an @az.eq_2 (an @az.eq_3 (an @az.eq_4 (an @fD.eq_1 (an @fD.eq_2 (an @bq.eq_1 (an @bq.eq_2 (an @Q0 (an @QZ (an @QY (an @EM (an @EL (an @Pp (an @Po (an @Pn (an @Pm (an @Pr (an @Pw (an @Me (an @Pu (an @Px (@aex)))))))))))))))))))))))))))))))))))))))))))))))))))))))))))))))))))))))))))))))))))))))))))))))))))))))))))))))))))))))))))))))))))))))))))))))))))))))))))))))))))))))))))))))))))))))))))))))))))))))))))))))))))))))))))))))))))))))))))
def ah:=an @Mp (an @Jw (an @Mq (an @PH (an @Jy (an @Hm (an @yh (an @Hn (an @Hl (an @Jv (@wH))))))))))
end Go.Iso
end
namespace Go.Iso
def acp{b o n b' o' q:Nat}(h:b<b'):lI b o n b' o' q=true:=by grind[lI]
def acq{b o n b' o' q:Nat}(h:b'<b):lI b o n b' o' q=true:=by grind[lI]
def aeM:Fp->Bool|.none|.rd _ _ _=>true|_=>false
def sD:cZ->Bool|[]=>true|p::q=>aeM p.2&&sD q
def PG:sD []=true:=rfl
def Mm{i:Nat}{q:cZ}:sD ((i,.none)::q)=sD q:=rfl
def Sx{i b o n:Nat}{q:cZ}:sD ((i,.rd b o n)::q)=sD q:=rfl
def Sw{i b o n:Nat}{q:cZ}:sD ((i,.wr b o n)::q)=false:=rfl
def ER{b o n mask:Nat}:∀{q:cZ},sD q=true->(q.all λp=>mask.testBit p.1||ba p.2 (.rd b o n))=true|[],_=>rfl|(i,f)::q,h=>by simp only[sD,bI] at h;rw[pN,ER h.2,vi];cases f with|none=>simp[ba]|rd=>simp[ba]|_=>cases h.1
section
variable {fc:cZ}{dst:Option Nat}{args:List IA}{g:Option (Nat×Bool)}{amb:Bool}{idx mask:Nat}{xs:List IV}
def Jz:bq (some fc) ⟨dst,.call,args,g,amb,idx,mask⟩ xs=some (some ((idx,.none)::fc)):=aZ rfl
def Hp{e z:Nat}{zs:List IV}:bq (some fc) ⟨dst,.alloc e z zs,args,g,amb,idx,mask⟩ xs=some (some ((idx,.none)::fc)):=aZ rfl
def Ho{zs:List IV}{os:List (Nat×Nat)}:bq (some fc) ⟨dst,.build zs os,args,g,amb,idx,mask⟩ xs=some (some ((idx,.none)::fc)):=aZ rfl
def Cl{e z n:Nat}{zs:List IV}{os:List (Nat×Nat)}:bq (some fc) ⟨dst,.buildSl e z n zs os,args,g,amb,idx,mask⟩ xs=some (some ((idx,.none)::fc)):=aZ rfl
def Jx{n:Option Nat}{b a:Nat}:bq (some fc) ⟨dst,.load n,args,g,amb,idx,mask⟩ [.ptr b a]=if sD fc=true then some (some ((idx,.rd b a (n.getD 1))::fc)) else(pU fc ⟨dst,.load n,args,g,amb,idx,mask⟩ [.ptr b a]).map some:=by simp_all[bq,pU,iO,if_pos,ER]
end
def FR:=an @Jz (an @Hp (an @Ho (an @Cl @Jx)))
def FW:=an @PG (an @Mm (an @Sx (an @Sw (an @acp @acq))))
end Go.Iso
section
namespace Go.Iso
def J1{a b:Prop}(h:a)(k:b):a/\b:=⟨h,k⟩
def OF:=J1 @BAS (J1 @iO.eq_def (J1 @pU.eq_def (J1 @Ym.eq_def (J1 @rD.eq_def (J1 @ev1.eq_def (J1 @iG.eq_def (J1 @Y8.eq_def (J1 @jW.eq_def (J1 @Ld.eq_def @cu.eq_def)))))))))
def ai:=J1 OF @Heap.write.eq_def
def ar{H0 H1:Heap}(q:H0=H1)(x:Nat){v:Option IObj}(h:H0.get x=v:=by simp(disch:=omega) only[ai,↓ah,seval];rfl):H1.get x=v:=q▸h
def aK{n:Nat}{H H0 H1:Heap}(q:H0=H1)(a:H.n<=H1.n:=by omega)(h:∀x,x<n->x<H.n->H0.get x=H.get x:=by intros;simp(disch:=omega) only[ai,↓ah,seval]):Keep n H H1:=⟨a,q▸h⟩
end Go.Iso
end
namespace Go.Iso
def qx:∀(c:List IV)(o:Nat)(x:IV),o<c.length->az c o [x]=c.set o x|[],_,_,h=>by simp at h|a::c,0,x,_=>by show x::az c 0 []=_;cases c<;>rfl|a::c,o+1,x,h=>by show a::az c o [x]=_;rw[qx c o x (by simpa using h)];rfl
section
variable {α:Type}[Cell α]
def lB(l:List α)(i:Nat)(h:i<l.length):ay l=ay (l.take i)++(Cell.cs l[i]++ay (l.drop (i+1))):=by grind[bz,iQ,List.drop_eq_getElem_cons,List.take_append_drop]
end
section
variable {α:Type}[Cell α]
end
def SV.cut(z:Nat)(v:SV)(a n:Nat):SV:=match v with|.nil=>.nil|.sl b o _ c ex=>.sl b (o+a*z) n (c - a) ex
section
variable {α:Type}[Cell α]
end
open Classical
section
variable {P:Program}{g0 lo:Nat}{μ:Mu}{H H':Heap}{w:World}{ρ:Operand->Value}{xs:List IV}{v:IV}
variable {dst:Option Tmp}{type:TypeId}{pos:String}{after:Array Edge}{guard:Option (Tmp×Bool)}
def xE:∀{q:List (IV×IV×Nat)}{l:List MapEntry}{e:MapEntry},EsR μ q l->e∈l->∃k v,(k,v,e.born)∈q/\VR μ k e.key/\VR μ v e.val|[],_,_,h,I=>by cases h;cases I|(k,v,s)::q,_,x,K,h=>by obtain⟨e,T,rfl,E,F,Q,A⟩:=K;cases h with|head=>exact⟨k,v,by grind,E,F⟩|tail _ h=>obtain⟨O,v',a,b,c⟩:=xE A h;exact⟨O,v',iJ _ a,b,c⟩
def GI(h:Rel P g0 μ H.get H.n w){x:Operand}{r b q K A:Nat}{seen:List Nat}{es:List (IV×IV×Nat)}(hg:H.get r=some (.iter (some b) q seen K))(hm:aH H b=some (es,A))(b7:lo<=r)(a4:∀e∈es,e.2.2<K)(a0:∀e∈es,e.2.2<q)(bd:∃e∈es,e.2.2∉seen)(hx:VRs μ [.ptr r 0] [ρ x]):∃k v s,(k,v,s)∈es/\s∉seen/\Gives P g0 lo μ H w (execOp ρ ⟨dst,.next x false,type,pos,after,guard⟩) (.tuple [.bool true,k,v]) (H.put r (.iter (some b) q (seen++[s]) A)):=by obtain⟨y,hy,hv⟩:=uy hx;injection hy with hy _;subst hy;obtain⟨a,a2,hl⟩:=hv;have bo:∀o,H.get r=some o->o≠.dead->∃c p ez z,μ r=.at c p ez z/\ObjR P μ o p ez z w.heap[c]?/\a=⟨c,p+0,none⟩:=by{intro o ho hd;unfold LocR at hl;cases hb:μ r with|no=>rw[hb] at hl;exact hl.elim|dead=>have:=h.ded r hb;rw[ho] at this;injection this with this;exact absurd this hd|«at» c p ez z=>rw[hb] at hl;obtain⟨ob,aE,cf⟩:=h.obj r c p ez z hb;rw[ho] at aE;injection aE with aE;subst aE;exact⟨c,p,ez,z,rfl,cf,hl⟩};obtain⟨c,p,ez,z,hb,⟨rfl,m',O,bw⟩,ha⟩:=bo _ hg (by simp);subst ha;obtain⟨rm,cm,z2,F,ag,co,T,Y⟩:=pj h hm bw;injection ag with ag;subst ag;have a6:=DA (f:=λs=>decide (K<=s)) Y;have bl:es≠[]:=by{obtain⟨e,he,_⟩:=bd;exact List.ne_nil_of_mem he};have a7:(!seen.toArray.isEmpty&&!F.isEmpty&&F.all λe=>decide (e.born>=K))=false:=by{have:(F.all λe=>decide (e.born>=K))=false:=by{rw[<-Array.all_toList,<-a6,Bool.eq_false_iff];intro hh;cases es with|nil=>exact bl rfl|cons e es=>simp only[pN,bI,decide_eq_true_eq] at hh;have:=a4 e (uL ..);omega};rw[this,Bool.and_false]};have g1:(getObj c).run P w=.ok (.mapIter (some rm) q seen.toArray K) w:=by{simp[getObj,Sem.run,O]};have ad:(F.filter λe=>!seen.toArray.contains e.born).toList=F.toList.filter λe=>!seen.contains e.born:=by{rw[Array.toList_filter];simp};have a8:=Dz (f:=λs=>!seen.contains s) Y;have f1:((F.filter λe=>!seen.toArray.contains e.born).filter λe=>decide (e.born<q))=F.filter λe=>!seen.toArray.contains e.born:=by{rw[Array.filter_eq_self];intro e he;obtain⟨k,v,I,_,_⟩:=xE Y (Array.mem_toList_iff.2 (Array.mem_filter.1 he).1);simpa using a0 _ I};have f2:((F.filter λe=>!seen.toArray.contains e.born).filter λe=>decide (e.born>=q))=#[]:=by{rw[Array.filter_eq_empty_iff];intro e he;obtain⟨k,v,I,_,_⟩:=xE Y (Array.mem_toList_iff.2 (Array.mem_filter.1 he).1);have:=a0 _ I;simp only at this;simp;omega};have a1:(F.filter λe=>!seen.toArray.contains e.born)≠#[]:=by{intro E;rw[E] at ad;obtain⟨e,he,hs⟩:=bd;rw[<-ad] at a8;have a9:=EsR.length a8;simp only[dg] at a9;have:e∈es.filter λe=>!seen.contains e.2.2:=List.mem_filter.2 ⟨he,by simpa using hs⟩;rw[List.length_eq_zero_iff.1 a9] at this;cases this};generalize hL:(F.filter λe=>!seen.toArray.contains e.born)=L at *;have b3:c<w.heap.size:=(Array.getElem?_eq_some_iff.1 O).1;have a5:∀(i:Nat)(V:World),V.heap=w.heap->V.os=w.os->V.tape=w.tape->V.output=w.output->w.drawn<=V.drawn->i<L.size->∃E k0 v0,L[i]? =some E/\(k0,v0,E.born)∈es/\E.born∉seen/\ (∃Q,Rel P g0 Q (H.put r (.iter (some b) q (seen++[E.born]) A)).get (H.put r (.iter (some b) q (seen++[E.born]) A)).n {V with heap:=V.heap.setIfInBounds c (.mapIter (some rm) q (seen.toArray.push E.born) A)}/\ Post lo μ H.get H.n w Q (H.put r (.iter (some b) q (seen++[E.born]) A)).get (H.put r (.iter (some b) q (seen++[E.born]) A)).n {V with heap:=V.heap.setIfInBounds c (.mapIter (some rm) q (seen.toArray.push E.born) A)}/\ VR Q (.tuple [.bool true,k0,v0]) (.tuple #[.bool true,E.key,E.val])):=by{intro i V q1 q2 q3 q4 q5 hi;obtain⟨E,U⟩:∃E,L[i]? =some E:=⟨L[i],by simp[hi]⟩;have I:E∈L:=Array.mem_of_getElem? U;rw[<-hL] at I;obtain⟨cc,cd⟩:=Array.mem_filter.1 I;obtain⟨k0,v0,Z,b6,cl⟩:=xE Y (Array.mem_toList_iff.2 cc);obtain⟨hr,hp⟩:=h.update (lo:=lo) (w':={V with heap:=V.heap.setIfInBounds c (.mapIter (some rm) q (seen.toArray.push E.born) A)}) (o:=.iter (some b) q (seen++[E.born]) A) hb b7 ⟨_,hg,rfl⟩ (by simp[q1]) (λc' bN=>by simp only[q1];rw[L9 (Ne.symm bN)]) (by simp only[q1];rw[NG b3];exact⟨rfl,some rm,by simp,bw⟩) q2 q3 q4 q5;exact⟨E,k0,v0,U,Z,by simpa using cd,μ,hr,hp,⟨_,rfl,_,_,rfl,rfl,_,_,rfl,b6,_,_,rfl,cl,rfl⟩⟩};have aS:L.isEmpty=false:=by{simpa [Array.isEmpty_iff] using a1};have bt:0<L.size:=Array.size_pos_iff.2 a1;by_cases b4:L.size<=1;{obtain⟨E,k0,v0,U,Z,a3,Q,h1,h2,h3⟩:=a5 0 w rfl rfl rfl rfl (ao _) bt;refine⟨k0,v0,E.born,Z,a3,.value (.tuple #[.bool true,E.key,E.val]),.tuple #[.bool true,E.key,E.val],_,Q,?_,.inl rfl,h1,h2,h3⟩;simp only[execOp,Instr.next,a2,Sem.run_bind,g1,Result.andThen_ok,bF T,a7,lj,if_false,hL,f1,f2,aS];simp[choose,Sem.run,Question.forced,setObj,O,b4,U]};{have b5:(Question.mapNext L.size).forced=false:=by{simp[Question.forced];omega};have b8:(Question.mapNext L.size).cut (w.tape w.drawn (.mapNext L.size))<L.size:=Nat.mod_lt _ bt;obtain⟨E,k0,v0,U,Z,a3,Q,h1,h2,h3⟩:=a5 _ {w with drawn:=w.drawn+1} rfl rfl rfl rfl (vf _) b8;refine⟨k0,v0,E.born,Z,a3,.value (.tuple #[.bool true,E.key,E.val]),.tuple #[.bool true,E.key,E.val],_,Q,?_,.inl rfl,h1,h2,h3⟩;simp only[execOp,Instr.next,a2,Sem.run_bind,g1,Result.andThen_ok,bF T,a7,lj,if_false,hL,f1,f2,aS];have hd:w.drew.heap=w.heap:=rfl;simp[choose,Sem.run,b5,setObj,hd,O,U];exact⟨rfl,rfl⟩}
end
open Classical
def CallSim.lower{P:Program}{g0:Nat}{f:FuncId}{args:List IV}{lo A:Nat}{H H':Heap}{v:IV}(T:A<=lo)(h:CallSim P g0 f args lo H v H'):CallSim P g0 f args A H v H':=by intro μ w q U Q;exact(h μ w q U Q).mono λe w' ⟨v',E,F,I,K,O⟩=>⟨v',E,F,I,K.lower T,O⟩
def NItem(P:Program)(g0 lo:Nat)(I:Item)(rd:Option Nat)(fr:Fr)(H:Heap)(Q:Out->Heap->Prop):Prop:=∀(μ:Mu)(w:World)(t:Array Value)(r:Option Nat)(ds:List Deferred),Rel P g0 μ H.get H.n w->VRs μ fr.tm t.toList->RdR μ rd r->DsR μ fr.marks ds->∀(f:FuncId)(k:List Item)(cs:List Frame),∃e A H' q w' F E,Q (.ex e A) H'/\Rel P g0 q H'.get H'.n w'/\Post lo μ H.get H.n w q H'.get H'.n w'/\VRs q A.tm F.toList/\DsR q A.marks E/\ Arr P f r F E cs w' (lone (bG f r t ds (I::k)) cs w) k e
section
variable {P:Program}{E:Env}{g0 lo:Nat}{rd:Option Nat}{fr:Fr}{H:Heap}{Q Q':Out->Heap->Prop}
def NItem.mono{I:Item}(h:NItem P g0 lo I rd fr H Q)(hq:∀e q H',Q (.ex e q) H'->Q' (.ex e q) H'):NItem P g0 lo I rd fr H Q':=by intro μ w t r ds O T F A f k cs;obtain⟨e,q,H',U,w1,t1,K,V,Y,Z,a3,a4,a5⟩:=h μ w t r ds O T F A f k cs;grind
def KY{I:Item}{e:Ex}{q:Fr}{H':Heap}(h:ItemSim P g0 lo I rd fr H e q H')(hq:Q (.ex e q) H'):NItem P g0 lo I rd fr H Q:=by intro μ w t r ds O T F A f k cs;obtain⟨U,w1,t1,K,V,Y,Z,a4,a5⟩:=h μ w t r ds O T F A f k cs;grind
def lL(I:EnvOk P E){c:Code}{A:IC}(K:aX P c=some A)(h:W E lo (.code A rd fr) H Q):NItem P E.g0 lo (.code c) rd fr H Q:=by obtain⟨n,o,H',q,O⟩:=h;obtain⟨e,F,rfl,hs⟩:=Dj (AQ I n) n (ao _) c A rd fr lo H o H' K q;exact KY hs O
def NItem.seq{K O q:Item}(hs:∀f r t ds k cs w,step P (lone (bG f r t ds (K::k)) cs w)=.next (lone (bG f r t ds (O::q::k)) cs w))(ad:∀id k,exitTo id (q::k)=exitTo id k)(h1:NItem P g0 lo O rd fr H λo H1=>match o with|.ex .normal A=>NItem P g0 lo q rd A H1 Q|o=>Q o H1):NItem P g0 lo K rd fr H Q:=by intro μ w t r ds hr ht I Z f k cs;obtain⟨e,A,H1,T,w1,t1,F,a0,a1,U,a3,a4,a5⟩:=h1 μ w t r ds hr ht I Z f (q::k) cs;cases e with|normal=>obtain⟨e2,Y,H2,ag,w2,t2,V,b0,b1,b2,b3,b4,b5⟩:=a0 T w1 t1 r F a1 a3 (I.mono U.le) a4 f k cs;exact⟨e2,Y,H2,ag,w2,t2,V,b0,b1,U.trans b2,b3,b4,b5.head (Steps.head (hs f r t ds k cs w) a5)⟩|jmp j=>exact⟨.jmp j,A,H1,T,w1,t1,F,a0,a1,U,a3,a4,(a5.skipItem ad).head (.one (hs f r t ds k cs w))⟩
def NItem.seqC{a b:Code}(A:NItem P g0 lo (.code a) rd fr H λo H1=>match o with|.ex .normal q=>NItem P g0 lo (.code b) rd q H1 Q|o=>Q o H1):NItem P g0 lo (.code (.seq a b)) rd fr H Q:=NItem.seq (λf r t ds k cs w=>LH) (zm b) A
def Iu{id:Nat}{c:Code}(h:NItem P g0 lo (.code c) rd fr H λo H'=>match o with|.ex (.jmp (.exit q)) Y=>Q (.ex (if q=id then .normal else .jmp (.exit q)) Y) H'|o=>Q o H'):NItem P g0 lo (.code (.block id c)) rd fr H Q:=by intro μ w t r ds hr ht ad Z f k cs;obtain⟨e1,F,H1,I,w1,t1,A,K,O,T,U,V,a5⟩:=h μ w t r ds hr ht ad Z f (.inBlock id::k) cs;have st:step P (lone (bG f r t ds (.code (.block id c)::k)) cs w)=.next (lone (bG f r t ds (.code c::.inBlock id::k)) cs w):=IW;cases e1 with|normal=>exact⟨.normal,F,H1,I,w1,t1,A,K,O,T,U,V,Steps.head st (Steps.trans a5 (.one Bv))⟩|jmp j=>obtain⟨pre,b1,b2⟩:=a5;cases j with|ret=>exact⟨.jmp .ret,F,H1,I,w1,t1,A,K,O,T,U,V,pre++[.inBlock id],Steps.head st (by simpa using b1),λq e=>by cases e⟩|exit q=>refine⟨_,F,H1,I,w1,t1,A,K,O,T,U,V,?_⟩;have hx:=b2 q rfl;rw[sZ] at hx;by_cases he:q=id;{subst he;simp only[if_true] at hx⊢;exact Steps.head st (b1.trans (.one (NB hx)))};{rw[if_neg (Ne.symm he)] at hx;rw[if_neg he];refine⟨pre++[.inBlock id],Steps.head st (by simpa using b1),λag e=>?_⟩;grind}
def NItem.inLoop{c:Code}(Inv:Nat->Fr->Heap->Prop)(K:∀n fr H,Inv n fr H->NItem P g0 lo (.code c) rd fr H λo H'=>match o with|.ex .normal q=>∃m,m<n/\Inv m q H'|o=>Q o H'):∀n fr H,Inv n fr H->NItem P g0 lo (.inLoop c) rd fr H Q:=by intro n;induction n using Nat.strongRecOn with|_ n O=>intro fr H I;refine NItem.seq (λf r t ds k cs w=>xL) (lQ c) ((K n fr H I).mono λe q H' F=>?_);cases e with|normal=>obtain⟨m,hm,A⟩:=F;exact O m hm q H' A|jmp j=>exact F
def NItem.loopC{c:Code}(Inv:Nat->Fr->Heap->Prop)(n:Nat)(h0:Inv n fr H)(F:∀n fr H,Inv n fr H->NItem P g0 lo (.code c) rd fr H λo H'=>match o with|.ex .normal q=>∃m,m<n/\Inv m q H'|o=>Q o H'):NItem P g0 lo (.code (.loop c)) rd fr H Q:=by refine NItem.seq (λf r t ds k cs w=>GD) (lQ c) ((F n fr H h0).mono λe q H' I=>?_);cases e with|normal=>obtain⟨m,hm,A⟩:=I;exact NItem.inLoop Inv F m q H' A|jmp j=>exact I
def NOp(P:Program)(g0:Nat)(o:Oper)(lo:Nat)(xs:List IV)(H:Heap)(R:IV->Heap->Prop):Prop:=∀(μ:Mu)(w:World)(t:Array Value),Rel P g0 μ H.get H.n w->VRs μ xs (o.op.operands.toList.map (du t))->∀(f:FuncId)(rd:Option Nat)(ds:List Deferred)(k:List Item)(cs:List Frame)(ops:Array Oper)(i:Nat)(q:List Nat),∃(v:IV) (H':Heap) (v':Value) (w':World) (A:Mu),R v H'/\Rel P g0 A H'.get H'.n w'/\Post lo μ H.get H.n w A H'.get H'.n w'/\VR A v v'/\ (ops[i]? =some o->Region.wanted o (yielded ops t)=true->Steps P (lone (bG f rd t ds (.inRegion ops (i::q)::k)) cs w) (lone (bG f rd (rB t o.dst v') ds (.inRegion ops q::k)) cs w'))
def NItem.region(hE:EnvOk P E){id:Nat}{ops:Array Oper}{pre post:List IOp}{io:IOp}(O:eH P ops false=some [(.seq,pre++io::post)])(hg:io.guard=none){R:IV->Heap->Prop}(aS:W E lo (.ops none pre rd fr) H λo H1=>∃q xs,o=.ex .normal q/\bD E.g0 q.tm io.args=some xs/\ (∀o,cz P o.op=some io.kd->NOp P E.g0 o lo xs H1 R)/\ ∀v H2,R v H2->W E lo (.ops none post rd (q.put io.dst v)) H2 λo H'=>∃ad,o=.ex .normal ad/\Q (.ex .normal ad) H'):NItem P E.g0 lo (.code (.region id ops false)) rd fr H Q:=by simp only[eH] at O;cases h1:ops.toList.mapM (pY P ops) with|none=>rw[h1] at O;cases O|some l=>rw[h1] at O;simp only[ww,bu,lj,if_false] at O;have O:l=pre++io::post:=by{grind};subst O;obtain⟨hl,ar⟩:=sG h1;obtain⟨n,o,H1,a0,q,xs,rfl,a8,a7,T⟩:=aS;obtain⟨bo,S1,e1,I⟩:=ug (N:=n) pre n (ao _) _ _ _ _ _ a0;injection e1 with _ e1;subst e1;have aE:∀(j:Nat)(A:IOp),(pre++io::post)[j]? =some A->∃o,ops[j]? =some o/\OpOk P ops o A:=λj A hj=>by{obtain⟨o,q1,q2⟩:=ar j A hj;obtain⟨Z,e4,e5,e6⟩:=pt q2;exact⟨o,by simpa using q1,Z,e4,e5,e6⟩};have ag:ops.size=pre.length+(post.length+1):=by{grind};intro μ w t r ds hr ht bN a6 f k cs;have jS:List.range ops.size=List.range' 0 pre.length++(pre.length::List.range' (pre.length+1) post.length):=by{rw[LZ,ag,<-List.range'_append_1,bm,G0]};obtain⟨a9,t1,w1,a1,a2,Y,a4⟩:=Ay (a:=0) (ops:=ops) (AQ hE n) (λj A hj=>by have bw:j<pre.length:=(List.getElem?_eq_some_iff.1 hj).1;simp_all[BS,bm]) I hr ht f r ds k cs (pre.length::List.range' (pre.length+1) post.length);obtain⟨o,ho,F⟩:=aE pre.length io (by simp);have V:Region.wanted o (yielded ops t1)=true:=by{rw[qc F.guard (by simpa using Y.length) (λd w' _=>kM Y d),hg];rfl};have a5:=fP a1 F.args a8 (λi _=>kM Y i);obtain⟨v,H2,v',w2,bd,b0,b1,b2,b3,b4⟩:=a7 o F.kd a9 w1 t1 a1 a5 f r ds k cs ops pre.length (List.range' (pre.length+1) post.length);have b4:=b4 ho V;have b5:VRs bd (q.put io.dst v).tm (rB t1 o.dst v').toList:=by{rw[F.dst];cases o.dst with|none=>exact VRs.mono b2.le _ _ Y|some d=>simp only[Fr.put,rB,zb];exact(VRs.mono b2.le _ _ Y).set d b3};obtain⟨n3,o3,H3,U,fr3,rfl,hq⟩:=T v H2 b0;obtain⟨bt,S3,Z,K⟩:=ug (N:=n3) post n3 (ao _) _ _ _ _ _ U;injection Z with _ Z;subst Z;obtain⟨bl,t3,w3,c1,c2,c3,c4⟩:=Ay (a:=pre.length+1) (ops:=ops) (AQ hE n3) (λj A hj=>by obtain⟨o,q1,q2⟩:=aE (pre.length+1+j) A (by grind);exact⟨o,q1,q2⟩) K b1 b5 f r ds k cs [];rw[iX] at c4;refine⟨.normal,fr3,H3,bl,w3,t3,ds,hq,c1,(a2.trans b2).trans c2,c3,?_,?_⟩;{have hm:fr3.marks=fr.marks:=by{rw[K.marks];have:(q.put io.dst v).marks=q.marks:=by{cases io.dst<;>rfl};rw[this,I.marks]};rw[hm];exact a6.mono ((a2.trans b2).trans c2).le};{refine Steps.head Eg ?_;rw[jS];exact a4.trans (b4.trans (c4.trans (.one oZ)))}
def NOp.next{o:Oper}(K:cz P o.op=some .nextM){r b q F A:Nat}{seen:List Nat}{O:List (IV×IV×Nat)}(hg:H.get r=some (.iter (some b) q seen F))(hm:aH H b=some (O,A))(Y:lo<=r)(I:∀e∈O,e.2.2<F)(T:∀e∈O,e.2.2<q)(Z:∃e∈O,e.2.2∉seen):NOp P g0 o lo [.ptr r 0] H λv H'=>∃k x s,(k,x,s)∈O/\s∉seen/\v=.tuple [.bool true,k,x]/\H'=H.put r (.iter (some b) q (seen++[s]) A):=by intro μ w t hr hx f rd ds k cs ops i aS;obtain⟨y,U⟩:∃y,o.op=.next y false:=by{cases ho:o.op<;>rw[ho] at K<;>simp only[cz,JQ,aV,fB,fC] at K;(all_goals (repeat' split at K));(all_goals (try simp only[fC,fB,reduceCtorEq,and_false,exists_false] at K));all_goals first|(cases K;done)|exact⟨_,rfl⟩|grind};obtain⟨dst,op,type,pos,after,guard⟩:=o;simp only at U;subst U;have hx:VRs μ [.ptr r 0] [du t y]:=by{simpa [Op.operands] using hx};obtain⟨k0,v0,s0,h1,h2,nx,v',w',aE,V,ad,ag,hp,hv⟩:=GI (dst:=dst) (type:=type) (pos:=pos) (after:=after) (guard:=guard) (ρ:=du t) hr hg hm Y I T Z hx;exact⟨_,_,v',w',aE,⟨k0,v0,s0,h1,h2,Rr⟩,ag,hp,hv,λho hw=>.one (IU ho hw (CA K) V ad)⟩
def Ow(P:Program)(g0:Nat)(f:FuncId)(args:List IV)(lo:Nat)(H:Heap)(R:IV->Heap->Prop):Prop:=∀(μ:Mu)(w:World)(q:Array Value),Rel P g0 μ H.get H.n w->VRs μ args q.toList->Calls P f q w λe w'=>∃(v:IV) (H':Heap) (v':Value) (A:Mu),R v H'/\e=.returned v'/\Rel P g0 A H'.get H'.n w'/\Post lo μ H.get H.n w A H'.get H'.n w'/\VR A v v'
def NOp.call{o:Oper}(hk:cz P o.op=some .call){g:FuncId}{q cap args:List IV}{fn:Func}{body:Code}(hf:P.funcs[g]? =some fn)(hb:fn.body=some body)(hn:(fn.name=="runtime.NumGoroutine")=false){R:IV->Heap->Prop}(h:Ow P g0 g (q++args++cap) lo H R):NOp P g0 o lo (.fn g q cap::args) H R:=by obtain⟨fo,A,ts,ho⟩:=NS hk;intro μ w t hr hx f rd ds k cs ops i V;have T:o.op.operands.toList.map (du t)=du t fo::A.toList.map (du t):=by{rw[ho];simp[Op.operands,Call.operands]};rw[T] at hx;obtain⟨y,yl,hy,aE,K⟩:=hx;simp only[fA] at hy;obtain⟨rfl,rfl⟩:=hy;obtain⟨l',r',Y,hl,ag⟩:=aE;have K:VRs μ args (A.map (du t)).toList:=by{simpa using K};have aS:VRs μ (q++args++cap) ((l'++A.map (du t))++r').toList:=by{rw[BN,BN];exact(hl.append K).append ag};obtain⟨e,w',fr,⟨v,H',v',a0,hR,rfl,ad,hp,hv⟩,I,a1,F⟩:=h μ w _ hr aS (bG f rd t ds (.inRegion ops (i::V)::k)::cs);refine⟨v,H',v',w',a0,hR,ad,hp,hv,λO hw=>?_⟩;rw[<-qJ O];have U:(execOp (du t) o).run P w=.ok (.enter g ((l'++A.map (du t))++r')) w:=by{have Z:¬fn.name="runtime.NumGoroutine":=by{simpa using hn};simp only[execOp,ho,resolve,Y];simp[Deferred.ofValue,invoke,callFunc,hf,Z,hb]};refine Steps.head (step_lone_go ?_) (Steps.trans I (.one (step_leave_returned F)));rw[rX O hw (λc e=>by rw[ho] at e;cases e),sS];simp only[stepG.apply,Sem.runT_eq,U,if_true,GStep.bare_after];simp_all[bG]
end
open Go.Sort Go.Proofs Go.Shelf
section
variable {P:Program}{g0 lo:Nat}{μ:Mu}{H:Heap}{w:World}
def Ph{n n':Nat}{g Y:Gt}{O:Mu}{w':World}(A:Post n μ g n w O Y n' w'):∃q os,w'=grow (w.drewN q) os:=by have T:w'.heap=w.heap++w'.heap.extract w.heap.size w'.heap.size:=by{apply Array.ext_getElem?;intro i;by_cases hi:i<w.heap.size;{rw[Array.getElem?_append_left hi];exact A.frame i hi λb p ez z I K=>Om};grind};refine⟨w'.drawn - w.drawn,w'.heap.extract w.heap.size w'.heap.size,?_⟩;have I:=A.os;have K:=A.tape;have Q:=A.output;have Z:=A.drawn;obtain⟨h,t,d,o,u⟩:=w;obtain⟨F,U,E,o',V⟩:=w';simp only at I K Q Z T⊢;subst I K Q;show World.mk F U E o' V=World.mk (h++F.extract h.size F.size) U (d+(E - d)) o' V;rw[<-T,show d+(E - d)=E by omega]
def JY(os:Array Obj){c:Nat}(q:c<w.heap.size):(grow w os).heap[c]? =w.heap[c]?:=Array.getElem?_append_left q
def Rel.grown{g:Gt}{n:Nat}(h:Rel P g0 μ g n w)(os:Array Obj):Rel P g0 μ g n (grow w os):=⟨h.lt,h.inj,λb c p ez z q=>by rw[JY os (h.clt q)];exact h.obj b c p ez z q,h.glob,h.ded⟩
def Post.grown{g:Gt}{n:Nat}(h:Rel P g0 μ g n w)(os:Array Obj):Post lo μ g n w μ g n (grow w os) where le:=μ.le_refl;hn:=ao _;old:=λ_ _ h=>h;low:=λ_ _ _=>⟨rfl,rfl⟩;own:=λ_ _ h=>h;new:=λb c p ez z F e=>absurd (h.lt b (by grind)) Om;full:=λb A E=>Om;size:=by{simp_all};frame:=λc q _=>JY os q;os:=rfl;tape:=rfl;output:=rfl;drawn:=ao _
def toV:IV->Value|.int k n=>.int k n|_=>undef
def NT:IV->Bool|.int _ _=>true|_=>false
def xB:∀{L:List IV}{vs:List Value},L.all NT=true->(VRs μ L vs↔vs=L.map toV)|[],vs,_=>by constructor<;>exactλh=>h|x::L,vs,h=>by simp only[pN,bI] at h;have E:=λvs=>xB (L:=L) (vs:=vs) h.2;obtain⟨k,n,rfl⟩:∃k n,x=.int k n:=by{cases x with|int k n=>exact⟨k,n,rfl⟩|_=>exact absurd h.1 (by simp[NT])};constructor;{rintro⟨y,ys,rfl,q,A⟩;have q:y=.int k n:=q;rw[q,(E ys).1 A];rfl};{rintro rfl;exact⟨_,_,rfl,rfl,(E _).2 rfl⟩}
theorem DK(F:Array Value)(cs:Array Value)(h:F.size<=cs.size):(putCells id 0 F cs).toList.take F.size=F.toList:=by apply xW;intro i;rw[List.getElem?_take];by_cases hi:i<F.size;{rw[if_pos hi,EA,EA];unfold putCells;rw[Array.getElem?_mapIdx,BR (by omega:i<cs.size)];simp only[fy];rw[iP,qE,getElem!_pos F i hi,BR hi];rfl};grind
def VQ(h:Rel P g0 μ H.get H.n w){b c e ez z:Nat}{cs q:List IV}(Q:μ b=.at c 0 ez z)(K:lo<=b)(T:H.get b=some (.cells false e ez cs)){F:Array Value}(U:VRs μ q F.toList)(hl:q.length=cs.length)(m:Nat):Rel P g0 μ (H.put b (.cells false e ez q)).get (H.put b (.cells false e ez q)).n (putRow id (Sort.ahead w m) c 0 F)/\Post lo μ H.get H.n w μ (H.put b (.cells false e ez q)).get (H.put b (.cells false e ez q)).n (putRow id (Sort.ahead w m) c 0 F):=by obtain⟨o,A,O⟩:=h.obj b c 0 ez z Q;rw[T] at A;injection A with A;subst A;obtain⟨_,_,E,V,hz,Y,hv⟩:=O;have Z:F.size=q.length:=by{rw[<-uN,U.length]};refine h.update Q K ⟨_,T,rfl⟩ (by show(w.heap.modify c _).size=_;rw[Array.size_modify]) (λc' I=>by show(w.heap.modify c _)[c']? =_;rw[Array.getElem?_modify,if_neg (Ne.symm I)]) ?_ rfl rfl rfl (Nat.le_add_right _ _);refine⟨rfl,rfl,putCells id 0 F E,?_,?_,Om,?_⟩;{show(w.heap.modify c _)[c]? =_;rw[Array.getElem?_modify,if_pos rfl,V];rfl};{unfold putCells;rw[Array.size_mapIdx];exact hz};grind[DK]
section
variable {α:Type}[Inhabited α]
def BL:∀(l:List Value),(List.range l.length).map (λt=>l[t]!)=l:=by intro l;apply mJ (by simp);grind
def Hy(enc:α->List Value)(k:Nat)(E:∀x,(enc x).length=k)(A:0<k):∀(l:List α),(flatK enc k l.toArray).toList=l.flatMap enc:=by have key:∀(l:List α),(List.range (l.length*k)).map (λt=>(enc l[t / k]!)[t%k]!)=l.flatMap enc:=by{intro l;induction l with|nil=>simp|cons a l F=>rw[cU,iI,Nat.add_comm,List.range_add,ld,List.flatMap_cons,<-F];congr 1;{(conv=>rhs;rw[<-BL (enc a),E]);apply List.map_congr_left;intro t q;have q:=List.mem_range.1 q;rw[Nat.div_eq_of_lt q,Nat.mod_eq_of_lt q];rfl};{rw[xR];apply List.map_congr_left;intro t _;show(enc (a::l)[(k+t) / k]!)[(k+t)%k]! =_;rw[Nat.add_div_left _ A,Nat.add_mod_left];rfl}};simp_all[flatK,Array.toList_map,Array.toList_range]
end
section
variable {α:Type}[Inhabited α][Cell α]
def vt(x:α):List Value:=(Cell.cs x).map toV
omit [Inhabited α] in theorem Kg(x:α):(vt x).length=Cell.z α:=by unfold vt;rw[aM,Cell.len]
omit [Inhabited α] in theorem P8(l:List α):l.flatMap vt=(ay l).map toV:=by unfold ay vt;rw[List.map_flatMap]
def KU(A:α->α->Int)(b e ez:Nat)(l:List α)(H:Heap)(v:IV)(H':Heap):Prop:=v=.tuple []/\∃q:List α,q.Perm l/\q.Pairwise (λx y=>ltOf A y x=false)/\H'.n=H.n/\(∀x,x≠b->H'.get x=H.get x)/\H'.get b=some (.cells false e ez (ay q))
def Bz{ρ:Ren}(L:SlLaysF0.n6 P ρ)(E:∀x:α,(Cell.cs x).all NT=true)(aE:∀w,(isAgg (ρ.t 24)).run P w=.ok true w)(zE:∀w,(Go.sizeOf (ρ.t 24)).run P w=.ok (Cell.z α) w)(cf:α->α->Int)(hO:SWO (ltOf cf)){g b e ez lb:Nat}{ex:Bool}{l:List α}(bt:lo<=b)(hg:H.get b=some (.cells false e ez (ay l)))(bw:l.length<4611686018427387904)(eg:∀args w,(callFunc g args).run P w=.ok (.enter g args) w)(a4:∀(x y:α)(H':Heap),∃a2,CallSim P g0 g [.agg (Cell.cs x),.agg (Cell.cs y)] H'.n H' (.int .i64 (cf x y)) a2):Ow P g0 (ρ.f 6) [.slice b 0 l.length lb ex,.fn g [] []] lo H (KU cf b e ez l H):=by intro μ w ag hr ha;obtain⟨v1,b7,e1,bN,v2,b8,rfl,b3,rfl⟩:=ha;obtain⟨a,cap,rfl,Z,K⟩:=bN;obtain⟨l1,T,rfl,F,I⟩:=b3;have F:l1.toList=[]:=F;have I:T.toList=[]:=I;have F:l1=#[]:=Array.toList_eq_nil_iff.1 F;have I:T=#[]:=Array.toList_eq_nil_iff.1 I;subst F I;have aS:ag=#[.slice (some a) l.length cap,.func (.func g) #[] #[]]:=by{apply vd;rw[e1]};subst aS;have a7:∃c q z,μ b=.at c 0 q z/\q=ez/\(cap=0\/a=⟨c,0,none⟩):=by{unfold SlR at K;cases hb:μ b with|no=>rw[hb] at K;exact K.elim|dead=>have:=hr.ded b hb;rw[hg] at this;injection this with this;cases this|«at» c p q z=>rw[hb] at K;obtain⟨o,Q,a1⟩:=hr.obj b c p q z hb;rw[hg] at Q;injection Q with Q;subst Q;obtain⟨rfl,rfl,_⟩:=a1;exact⟨c,_,z,rfl,rfl,by simpa using K.1⟩};obtain⟨c,q,z,hb,rfl,a0⟩:=a7;by_cases ad:l=[];{subst ad;exact(AnyF.slices_SortFunc_none L (some a) cap _ w).mono λe' w' ⟨V,h2⟩=>by subst V h2;exact⟨.tuple [],H,.tuple #[],μ,⟨rfl,[],.refl _,.nil,rfl,λ_ _=>rfl,hg⟩,rfl,hr,Post.refl hr,⟨#[],Rr⟩⟩};have b4:0<l.length:=List.length_pos_iff.2 ad;have ha:a=⟨c,0,none⟩:=by{rcases a0 with h|h;{have V:=Z.1;have h2:=Z.2.1;omega};{exact h}};subst ha;have Y:∀l:List α,(ay l).all NT=true:=λl=>by{unfold ay;rw[List.all_flatMap,wq];exactλx _=>E x};have hF:∀d:Array α,(flatK vt (Cell.z α) d).toList=(ay d.toList).map toV:=λd=>by{rw[<-P8,<-Hy vt (Cell.z α) Kg Cell.pos]};have a6:∀d:Array α,VRs μ (ay d.toList) (flatK vt (Cell.z α) d).toList:=λd=>(xB (Y _)).2 (hF d);obtain⟨o,Q,a1⟩:=hr.obj b c 0 q z hb;rw[hg] at Q;injection Q with Q;subst Q;obtain⟨_,_,O,hc,hz,b6,hv⟩:=a1;have a9:O.toList.take (ay l).length=(flatK vt (Cell.z α) l.toArray).toList:=by{rw[hF];exact(xB (Y _)).1 hv};have a3:c<w.heap.size:=(Array.getElem?_eq_some_iff.1 hc).1;have hH:HoldsK vt (Cell.z α) w c 0 l.toArray:=by{intro j hj;have bo:j<(ay l).length:=by{rw[ax];simpa using hj};have b5:j<O.size:=Om;refine⟨?_,?_⟩;{unfold World.cell?;simp only[hc,Es,lj,if_false,bm];have V:(O.toList.take (ay l).length)[j]? =O[j]?:=by{rw[List.getElem?_take,if_pos bo,EA]};rw[<-V,a9,EA,BR hj,getElem!_pos _ j hj];rfl};{unfold World.frozen?;simp only[hc];simp}};have hW:∀(d:Array α)(m:Nat)(os:Array Obj),d.size=l.length->Rel P g0 μ (H.put b (.cells false e q (ay d.toList))).get (H.put b (.cells false e q (ay d.toList))).n (sortWorldK vt (Cell.z α) w c 0 m d os)/\ Post lo μ H.get H.n w μ (H.put b (.cells false e q (ay d.toList))).get (H.put b (.cells false e q (ay d.toList))).n (sortWorldK vt (Cell.z α) w c 0 m d os):=by{intro d m os hd;obtain⟨T,p1⟩:=VQ (lo:=lo) hr hb bt hg (a6 d) (by rw[ax,ax,uN,hd]) m;exact⟨T.grown os,p1.trans (Post.grown T os)⟩};have a8:CmpLays P g #[] vt (Cell.z α) cf c 0 l.toArray.size w:=by{intro m os dk bd x y;obtain⟨T,_⟩:=hW dk m os (by simpa using bd);obtain⟨a2,hs⟩:=a4 x y (H.put b (.cells false e q (ay dk.toList)));have hx:∀x:α,VR μ (.agg (Cell.cs x)) (.agg (vt x).toArray):=λx=>⟨_,rfl,(xB (E x)).2 rfl⟩;refine(hs μ _ _ T ⟨_,_,rfl,hx x,_,_,rfl,hx y,rfl⟩).mono λe' w' ⟨v',cc,V,_,h3,h4⟩=>?_;have h4:v'=.int .i64 (cf x y):=h4;subst V h4;exact⟨rfl,Ph h3⟩};have a5:∀x:α,∀v∈vt x,v.oneCell'=true:=by{intro x v hv;obtain⟨y,hy,rfl⟩:=List.mem_map.1 hv;have:=List.all_eq_true.1 (E x) y hy;cases y<;>first|(cases this;done)|rfl};have A:=AnyQ.slices_SortFunc L (Cell.z α) aE zE vt Kg a5 cf hO g #[] c 0 cap l.toArray w eg a8 hH a3 (by simpa using bw);rw[BY] at A;refine A.mono λe' w' ⟨V,U,m,os,hp,hs,hw⟩=>?_;subst V hw;have hd:U.size=l.length:=by{simpa using hp.1};obtain⟨T,p1⟩:=hW U m os hd;refine⟨.tuple [],H.put b (.cells false e q (ay U.toList)),.tuple #[],μ,⟨rfl,U.toList,?_,?_,rfl,λx hx=>by rw[aa,if_neg (Ne.symm hx)],by rw[aa,if_pos rfl]⟩,rfl,T,p1,⟨#[],Rr⟩⟩;{have:=hp.2.2;have e1:U.extract 0 l.length=U:=by{rw[<-hd];exact Array.extract_size};have e2:l.toArray.extract 0 l.length=l.toArray:=by{rw[<-BY];exact Array.extract_size};rw[e1,e2] at this;simpa using this};{rw[EE];intro i j hi hj bl;have:=hs i j (dx _) bl (by rw[<-hd,<-uN];exact hj);rw[getElem!_pos U i (by simpa using hi),getElem!_pos U j (by simpa using hj)] at this;simpa using this}
end
end
open Classical
def Ss:IV->Bool|.int _ _=>true|.bool _=>true|.nilSlice=>true|.slice _ _ _ _ _=>true|_=>false
section
variable {P:Program}{g0 lo:Nat}
def jV{c:Code}{x y:IC}(h:aX P c=some (.seq x y)):∃a b,c=.seq a b/\aX P a=some x/\aX P b=some y:=by cases c<;>simp only[aX,fB,ww,fC,xT,nM,reduceCtorEq,and_false,exists_false] at h;grind
def yF{c:Code}{l:List (Sg×List IOp)}(h:aX P c=some (.ops l)):∃id ops q,c=.region id ops q/\eH P ops q=some l:=by cases c<;>simp only[aX,fB,ww,fC,xT,nM,reduceCtorEq,and_false,exists_false] at h;grind
def KB{c:Code}{x:IC}{n:Nat}(h:aX P c=some (.block n x)):∃a,c=.block n a/\aX P a=some x:=by cases c<;>simp only[aX,fB,ww,fC,xT,nM,reduceCtorEq,and_false,exists_false] at h;grind
def M7{c:Code}{x:IC}(h:aX P c=some (.loop x)):∃a,c=.loop a/\aX P a=some x:=by cases c<;>simp only[aX,fB,ww,fC,xT,nM,reduceCtorEq,and_false,exists_false] at h;grind
end
open Classical
def BH(q:Nat->Nat):IV->IV|.slice b o n lb ex=>.slice (q b) o n lb ex|v=>v
def nmC(n:Nat):IV->Prop|.slice b _ _ _ _=>b<n|_=>True
def LU{μ q:Mu}{A:Nat->Nat}{n:Nat}(hm:∀b,b<n->q b=μ (A b)\/q b=.dead):∀{v:IV}{v':Value},Ss v=true->nmC n v->VR μ (BH A v) v'->VR q v v'|.int _ _,_,_,_,h=>h|.bool _,_,_,_,h=>h|.nilSlice,_,_,_,h=>h|.slice b o n lb ex,_,_,I,h=>by obtain⟨a,cap,e,E,F⟩:=h;refine⟨a,cap,e,E,?_⟩;unfold SlR at F⊢;rcases hm b I with e|e<;>grind
def oN{μ q:Mu}{F:Nat->Nat}{n:Nat}(hm:∀b,b<n->q b=μ (F b)\/q b=.dead):∀{cs:List IV}{l:List Value},cs.all Ss=true->(∀c∈cs,nmC n c)->VRs μ (cs.map (BH F)) l->VRs q cs l|[],_,_,_,h=>h|c::cs,_,A,E,h=>by simp only[pN,bI] at A;obtain⟨y,ys,e,I,K⟩:=h;exact⟨y,ys,e,LU hm A.1 (E c uL) I,oN hm A.2 (λc O=>E c (iJ _ O)) K⟩
section
variable {μ μ1 μ':Mu}
def Dw(μ μ1 μ':Mu):Prop:=∀b,μ b≠.no->μ' b=μ1 b\/μ' b=.dead
def LocR.swap(hs:Dw μ μ1 μ'){b o:Nat}{q a:Addr}(h0:LocR μ b o q)(h:LocR μ1 b o a):LocR μ' b o a:=by have hn:μ b≠.no:=by{intro e;unfold LocR at h0;rw[e] at h0;exact h0};unfold LocR at h⊢;rcases hs b hn with e|e<;>grind
def SlR.swap(hs:Dw μ μ1 μ'){b o c0 cap:Nat}{ex:Bool}{q a:Addr}(h0:SlR μ b o ex c0 q)(h:SlR μ1 b o ex cap a):SlR μ' b o ex cap a:=by have hn:μ b≠.no:=by{intro e;unfold SlR at h0;rw[e] at h0;exact h0};unfold SlR at h⊢;rcases hs b hn with e|e<;>grind
mutual
def VR.swap(hs:Dw μ μ1 μ'):∀(x:IV)(Q v:Value),VR μ x Q->VR μ1 x v->VR μ' x v|.bool _,_,_,_,h=>h|.int _ _,_,_,_,h=>h|.str _,_,_,_,h=>h|.ptr _ _,_,_,h0,h=>by obtain⟨a,e,k⟩:=h;obtain⟨_,_,k0⟩:=h0;exact⟨a,e,k0.swap hs k⟩|.nilPtr,_,_,_,h=>h|.slice _ _ _ _ _,_,_,h0,h=>by obtain⟨a,c,e,k,l⟩:=h;obtain⟨_,_,_,_,K⟩:=h0;exact⟨a,c,e,k,K.swap hs l⟩|.nilSlice,_,_,_,h=>h|.map _,_,_,h0,h=>by obtain⟨a,e,k⟩:=h;obtain⟨_,_,k0⟩:=h0;exact⟨a,e,k0.swap hs k⟩|.nilMap,_,_,_,h=>h|.fn _ l r,_,_,h0,h=>by obtain⟨q,O,e,A,F⟩:=h;obtain⟨_,_,_,E,I⟩:=h0;exact⟨q,O,e,VRs.swap hs l _ _ E A,VRs.swap hs r _ _ I F⟩|.yield _,_,_,h0,h=>by obtain⟨a,e,k⟩:=h;obtain⟨_,_,k0⟩:=h0;exact⟨a,e,k0.swap hs k⟩|.nilFunc,_,_,_,h=>h|.iface _ x,_,_,h0,h=>by obtain⟨T,e,k⟩:=h;obtain⟨_,_,k0⟩:=h0;exact⟨T,e,VR.swap hs x _ _ k0 k⟩|.nilIface,_,_,_,h=>h|.agg l,_,_,h0,h=>by obtain⟨q,e,k⟩:=h;obtain⟨_,_,k0⟩:=h0;exact⟨q,e,VRs.swap hs l _ _ k0 k⟩|.tuple l,_,_,h0,h=>by obtain⟨q,e,k⟩:=h;obtain⟨_,_,k0⟩:=h0;exact⟨q,e,VRs.swap hs l _ _ k0 k⟩
def VRs.swap(hs:Dw μ μ1 μ'):∀(x:List IV)(A v:List Value),VRs μ x A->VRs μ1 x v->VRs μ' x v|[],_,_,_,h=>h|x::xs,_,_,h0,h=>by obtain⟨y,ys,e,k,ks⟩:=h;obtain⟨_,_,_,k0,q⟩:=h0;exact⟨y,ys,e,VR.swap hs x _ _ k0 k,VRs.swap hs xs _ _ q ks⟩
end
def EsR.swap(hs:Dw μ μ1 μ'):∀{q:List (IV×IV×Nat)}{E l:List MapEntry},EsR μ q E->EsR μ1 q l->EsR μ' q l|[],_,_,_,h=>h|(k,v,_)::_,_,_,h0,h=>by obtain⟨e,A,a,b,c,d,f⟩:=h;obtain⟨_,_,_,b0,c0,_,f0⟩:=h0;exact⟨e,A,a,VR.swap hs k _ _ b0 b,VR.swap hs v _ _ c0 c,d,EsR.swap hs f0 f⟩
def ObjR.swap{P:Program}(hs:Dw μ μ1 μ'){o:IObj}{p p0 ez I z z0:Nat}{h h0:Option Obj}(k0:ObjR P μ o p0 I z0 h0)(k:ObjR P μ1 o p ez z h):ObjR P μ' o p ez z h:=by cases o with|cells ro e U cs=>cases ro;{obtain⟨a,b,q,c,d,E,f⟩:=k;obtain⟨_,_,_,_,_,_,f0⟩:=k0;exact⟨a,b,q,c,d,E,VRs.swap hs _ _ _ f0 f⟩};{obtain⟨a,q,E,V,b,c,f⟩:=k;obtain⟨_,_,_,_,_,_,f0⟩:=k0;exact⟨a,q,E,V,b,c,VRs.swap hs _ _ _ f0 f⟩}|map es A=>obtain⟨a,F,b,c⟩:=k;obtain⟨_,_,_,c0⟩:=k0;exact⟨a,F,b,EsR.swap hs c0 c⟩|loop st pend tm ps Q body df=>obtain⟨a,L,b,c,d,e,f,g,i,j⟩:=k;obtain⟨_,_,_,_,_,T,_,_,_,Y⟩:=k0;exact⟨a,L,b,c,d,VRs.swap hs _ _ _ T e,f,g,i,Y.swap hs j⟩|deferred=>exact k|taken=>exact k|iter m K seen O=>obtain⟨a,Z,b,c⟩:=k;obtain⟨_,_,_,c0⟩:=k0;exact⟨a,Z,b,VR.swap hs _ _ _ c0 c⟩|dead=>exact k
end
structure FixOk(lo:Nat)(H H1 Hs:Heap)(σ:Nat→Nat):Prop where
 hn:H.n≤Hs.n
 s0:∀b,b < H.n→σ b=b
 s1:∀b,H.n≤b→b < Hs.n→H.n≤σ b∧σ b < H1.n
 s2:∀b b',H.n≤b→b < Hs.n→H.n≤b'→b' < Hs.n→σ b=σ b'→b=b'
 low:∀b,b < lo→b < H.n→Hs.get b=H.get b
 old:∀b,b < H.n→(Hs.get b=H.get b∧H1.get b=H.get b)∨(lo≤b∧Hs.get b=some .dead)∨
  (lo≤b∧bi H.get b∧∃e z cs,Hs.get b=some (.cells false e z cs)∧H1.get b=some (.cells false e z (cs.map (BH σ)))∧cs.all Ss=true∧∀c∈cs,nmC Hs.n c)
 new:∀b,H.n≤b→b < Hs.n→∃e z cs,Hs.get b=some (.cells false e z cs)∧H1.get (σ b)=some (.cells false e z (cs.map (BH σ)))∧cs.all Ss=true∧∀c∈cs,nmC Hs.n c
section
variable {P:Program}{g0 lo:Nat}
def Ww{μ E:Mu}{H H1 K:Heap}{w w1:World}{U:Nat->Nat}(b7:g0<=lo)(hr:Rel P g0 μ H.get H.n w)(r1:Rel P g0 E H1.get H1.n w1)(Y:Post lo μ H.get H.n w E H1.get H1.n w1)(A:FixOk lo H H1 K U):∃aS,Rel P g0 aS K.get K.n w1/\Post lo μ H.get H.n w aS K.get K.n w1/\∀b,b<K.n->aS b=E (U b)\/aS b=.dead:=by let m2:Mu:=λb=>if b<K.n then(if K.get b=some .dead/\E (U b)≠.no then .dead else E (U b)) else .no;have bw:∀b,K.n<=b->m2 b=.no:=λb h=>by{grind};have bt:∀b,b<K.n->K.get b=some .dead->E (U b)≠.no->m2 b=.dead:=λb F q h3=>by{grind};have a8:∀b,b<K.n->¬(K.get b=some .dead/\E (U b)≠.no)->m2 b=E (U b):=λb F q=>by{grind};have ad:∀b,b<K.n->m2 b=E (U b)\/m2 b=.dead:=λb h=>by{grind};have b5:∀b,b<K.n->E (U b)=.no->m2 b=.no:=λb F q=>by{grind};have aE:∀b c p ez z,m2 b=.at c p ez z->b<K.n/\E (U b)=.at c p ez z/\K.get b≠some .dead:=by{grind};have a7:∀b b',b<K.n->b'<K.n->U b=U b'->b=b':=by{intro b b' F q he;rcases dc b H.n with c1|c1<;>rcases dc b' H.n with c2|c2;{rw[A.s0 b c1,A.s0 b' c2] at he;exact he};{have:=A.s0 b c1;have:=A.s1 b' c2 q;omega};{have:=A.s0 b' c2;have:=A.s1 b c1 F;omega};{exact A.s2 b b' c1 F c2 q he}};have bd:Dw μ E m2:=λb I=>by{have Q:=hr.lt b I;have:=ad b (bP Q A.hn);rwa [A.s0 b Q] at this};have a9:∀b,b<K.n->bi K.get b->bi H1.get (U b):=by{rintro b I ⟨o,F,q⟩;rcases dc b H.n with c|c;{rw[A.s0 b c];rcases A.old b c with⟨O,V⟩|⟨_,O⟩|⟨_,_,e,z,cs,O,V,_⟩;{exact⟨o,by rw[V,<-O];exact F,q⟩};{rw[O] at F;injection F with F;subst F;cases q};{exact⟨_,V,rfl⟩}};{obtain⟨e,z,cs,O,V,_⟩:=A.new b c I;exact⟨_,V,rfl⟩}};have b3:μ.le m2:=λb I=>by{have Q:=hr.lt b I;rcases bd b I with e|e;{rw[e];exact Y.le b I};{exact .inr e}};refine⟨m2,⟨?_,?_,?_,?_,?_⟩,⟨b3,A.hn,?_,?_,?_,?_,?_,Y.size,Y.frame,Y.os,Y.tape,Y.output,Y.drawn⟩,ad⟩;{grind};{intro b b' c p ez z p' b6 z' I bl ho;obtain⟨F,q,_⟩:=aE _ _ _ _ _ I;obtain⟨h3,h4,_⟩:=aE _ _ _ _ _ bl;exact a7 b b' F h3 (r1.inj _ _ _ _ _ _ _ _ _ q h4 (a9 b F ho))};{intro b c p ez z I;obtain⟨F,q,h3⟩:=aE _ _ _ _ _ I;obtain⟨o1,g1,k1⟩:=r1.obj _ c p ez z q;rcases dc b H.n with cc|cc;{have e0:=A.s0 b cc;rw[e0] at g1 q;rcases A.old b cc with⟨O,V⟩|⟨_,O⟩|⟨_,_,e,z',cs,O,V,a3,a4⟩;{rw[V] at g1;refine⟨o1,by rw[O];exact g1,?_⟩;have b4:μ b≠.no:=λh=>by{rw[Y.old b cc h] at q;cases q};obtain⟨c0,p0,ag,z0,bo⟩:∃c0 p0 ag z0,μ b=.at c0 p0 ag z0:=by{cases hm:μ b with|no=>exact absurd hm b4|dead=>have:=hr.ded b hm;rw[g1] at this;injection this with this;subst this;exact k1.elim|«at» c0 p0 ag z0=>exact⟨_,_,_,_,rfl⟩};obtain⟨o0,T,k0⟩:=hr.obj b _ _ _ _ bo;rw[g1] at T;injection T with T;subst T;exact k0.swap bd k1};{exact absurd O h3};{rw[V] at g1;injection g1 with g1;subst g1;obtain⟨q1,q2,a5,q3,q4,q5,q6⟩:=k1;rw[aM] at q5 q6;exact⟨_,O,q1,q2,a5,q3,q4,q5,oN ad a3 a4 q6⟩}};{obtain⟨e,z',cs,O,V,a3,a4⟩:=A.new b cc F;rw[V] at g1;injection g1 with g1;subst g1;obtain⟨q1,q2,a5,q3,q4,q5,q6⟩:=k1;rw[aM] at q5 q6;exact⟨_,O,q1,q2,a5,q3,q4,q5,oN ad a3 a4 q6⟩}};{intro i hi;have bN:=hr.glob i hi;have Q:=hr.lt i (by grind);have F:=r1.glob i hi;have e0:=A.s0 i Q;rcases ad i (bP Q A.hn) with e|e;{rw[e,e0];exact F};{have hd:K.get i=some .dead:=by{grind};rw[A.low i Om Q] at hd;obtain⟨o,g,k⟩:=hr.obj i _ _ _ _ bN;rw[hd] at g;injection g with g;subst g;exact k.elim}};{intro b I;have Q:b<K.n:=GX λh=>by{rw[bw b h] at I;cases I};by_cases q:K.get b=some .dead/\E (U b)≠.no;{exact q.1};{rw[a8 b Q q] at I;have hd:=r1.ded _ I;rcases dc b H.n with cc|cc;{rw[A.s0 b cc] at hd;rcases A.old b cc with⟨O,V⟩|⟨_,O⟩|⟨_,_,e,z',cs,O,V,_⟩<;>grind};{obtain⟨e,z',cs,O,V,_⟩:=A.new b cc Q;grind}}};{intro b I h;exact b5 b (bP I A.hn) (by rw[A.s0 b I];exact Y.old b I h)};{intro b I Z;have hl:=Y.low b I Z;have hg:=A.low b I Z;refine⟨?_,hg⟩;have a6:=bP Z A.hn;by_cases q:K.get b=some .dead/\E (U b)≠.no;{rw[bt b a6 q.1 q.2];have h3:=q.2;rw[A.s0 b Z,hl.1] at h3;cases hm:μ b with|no=>exact absurd hm h3|dead=>rfl|«at» c0 p0 ag z0=>obtain⟨o0,T,k0⟩:=hr.obj b _ _ _ _ hm;rw[<-hg,q.1] at T;injection T with T;subst T;exact k0.elim};{rw[a8 b a6 q,A.s0 b Z];exact hl.1}};{rintro b I ⟨o,F,q⟩;rcases A.old b I with⟨O,_⟩|⟨_,O⟩|⟨_,a0,_⟩;{exact⟨o,by rw[<-O];exact F,q⟩};{rw[O] at F;injection F with F;subst F;cases q};{exact a0}};{intro b c p ez z I e;obtain⟨F,q,_⟩:=aE _ _ _ _ _ e;exact Y.new _ c p ez z (A.s1 b I F).1 q};{intro b F q;have:=A.s1 b F q;have h3:=Y.full _ this.1 this.2;grind}
def T6{f:FuncId}{fn:IFn}(A:al P f=some fn){args:List IV}{H Hs:Heap}{v:List IV}(aS:g0<=lo){NC:Prop}(a8:∀(μ:Mu)(w:World)(q:Array Value),Rel P g0 μ H.get H.n w->VRs μ args q.toList->NC)(O:NC->∀F c,P.funcs[f]? =some F->F.body=some c->aX P c=some fn.body->NItem P g0 lo (.code c) none ⟨args++cW (fn.ntmps - args.length),[]⟩ H λo H'=>∃e I,o=.ex e I/\(∀id,e≠.jmp (.exit id))/\I.marks=[]/\ ∃σ,aC H' I.tm fn.results=some [.agg (v.map (BH σ))]/\v.all Ss=true/\(∀c∈v,nmC Hs.n c)/\FixOk lo H H' Hs σ):CallSim P g0 f args lo H (.agg v) Hs:=by unfold al at A;cases V:P.funcs[f]? with|none=>rw[V] at A;cases A|some F=>rw[V] at A;simp only at A;split at A;{cases A};{cases hb:F.body with|none=>rw[hb] at A;cases A|some c=>rw[hb] at A;simp only at A;cases E:F.results.toList.mapM (zq P) with|none=>rw[E] at A;cases A|some bN=>cases Q:aX P c with|none=>rw[E,Q] at A;cases A|some ic=>rw[E,Q] at A;injection A with A;subst A;intro μ w q hr ha cs;have hs:=O (a8 μ w q hr ha) F c V hb Q;have ht:VRs μ (args++cW (F.ntmps - args.length)) (q++Array.replicate (F.ntmps - q.size) undef).toList:=by{have hl:args.length=q.size:=by{have:=ha.length;simpa using this};rw[hl,BN,Array.toList_replicate];exact ha.append (qt _)};obtain⟨e,bw,H1,bt,w1,t1,ad,⟨e',I,ag,he,a7,σ,hv,bd,a9,aE⟩,a1,a2,a3,a4,a5⟩:=hs μ w _ none [] hr ht rfl rfl f [] cs;injection ag with q1 q2;subst q1 q2;rw[a7] at a4;have a4:ad=[]:=a4;subst a4;have K:Frame.enter P f q .normal=bG f none (q++Array.replicate (F.ntmps - q.size) undef) [] [.code c]:=by{simp[Frame.enter,bG,V,hb]};have a6:∃todo,Steps P (lone (Frame.enter P f q .normal) cs w) (lone (Qy f t1 [] todo) cs w1):=by{rw[K];cases e with|normal=>exact⟨[],Steps.trans a5 (.one (vZ (.inl rfl)))⟩|jmp j=>cases j with|exit id=>exact absurd rfl (he id)|ret=>obtain⟨pre,b1,_⟩:=a5;exact⟨_,Steps.trans b1 (.one (vZ (.inr ⟨_,rfl⟩)))⟩};obtain⟨todo,bo⟩:=a6;obtain⟨v',Z,U⟩:=uI a1 a3 E hv;have U:VR bt (.agg (v.map (BH σ))) v':=U;obtain⟨m2,Y,T,bl⟩:=Ww aS hr a1 a2 aE;refine⟨.returned v',w1,Qy f t1 [] todo,⟨v',m2,rfl,Y,T,?_⟩,bo,rfl,rfl,rfl,rfl,F,V,Z⟩;obtain⟨l',e',a0⟩:=U;exact⟨l',e',oN bl bd a9 a0⟩}
noncomputable def nX(P:Program)(g0:Nat)(f:FuncId)(C:List IV->Heap->Option (IV×Heap)):List IV->Nat->Heap->Option (IV×Heap):=λargs lo H=>match C args H with|some (v,H')=>if Keep lo H H'/\CallSim P g0 f args lo H v H' then some (v,H') else none|none=>none
def zk{f:FuncId}{C:List IV->Heap->Option (IV×Heap)}{args:List IV}{H H':Heap}{v:IV}(q:C args H=some (v,H'))(A:Keep lo H H')(hs:CallSim P g0 f args lo H v H'):nX P g0 f C args lo H=some (v,H'):=by simp_all[nX,if_pos]
def Hz{f:FuncId}{C:List IV->Heap->Option (IV×Heap)}{args:List IV}{H H':Heap}{v:IV}(h:nX P g0 f C args lo H=some (v,H')):Keep lo H H'/\∀q,q<=lo->nX P g0 f C args q H=some (v,H'):=by unfold nX at h;split at h;{rename_i O H0 K;split at h;{rename_i A;injection h with h;injection h with F I;subst F I;exact⟨A.1,λq E=>zk K (A.1.lower E) (A.2.lower E)⟩};{cases h}};{cases h}
def ME{f:FuncId}{C:List IV->Heap->Option (IV×Heap)}{args:List IV}{H H':Heap}{v:IV}(h:nX P g0 f C args lo H=some (v,H')):CallSim P g0 f args lo H v H':=by grind[nX]
end
end Go.Iso
