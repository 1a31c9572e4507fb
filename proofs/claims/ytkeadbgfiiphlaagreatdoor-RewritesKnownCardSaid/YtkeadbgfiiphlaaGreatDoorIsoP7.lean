/-
  rules of runs over ranges, slices and lists.
-/
import Derived.Test.YtkeadbgfiiphlaaGreatDoorIsoP6
import Derived.IntWalk
import Derived.Shelf.SlSortCmp.NoneTotal
set_option linter.unusedSimpArgs false
set_option linter.unusedVariables false
set_option maxRecDepth 100000
set_option linter.defProp false
namespace Go.Iso
section
variable {E:Env}{lo:Nat}{rd:Option Nat}{fr:Fr}{H:Heap}{Q:A1}
def NF:Option Jmp->Ex|none=>.normal|some j=>.jmp j
def Xv:NF none=.normal:=rfl
def Xu{j:Jmp}:NF (some j)=.jmp j:=rfl
def Tx(l lo:Nat)(marks:List Nat)(fr:Fr)(Q:A1)(F:Heap)(ob:Option IObj):Prop:=match ob with|some (.loop st pend tm O q body I)=>st≠.busy/\lo<=l/\Q (.ex (NF pend) {fr with marks:=marks++fr.marks}) (F.put l (.loop .exhausted pend tm O q body I))|_=>False
def abg(l lo:Nat)(marks:List Nat)(fr:Fr)(Q:A1):A1:=λo q=>match o with|.val _=>Tx l lo marks fr Q q (q.get l)|_=>False
def ag3(E:Env)(lo:Nat)(F:List Nat)(q body:IC)(fr:Fr)(Q:A1)(g:IV)(e:Nat×List Nat×Heap):Prop:=W E lo (.apply g [.yield e.2.2.n]) (e.2.2.new (.loop .ready none fr.tm F q body e.1)) (abg e.2.2.n lo e.2.1 fr Q)
def abf{l:Nat}{marks:List Nat}{v:IV}:abg l lo marks fr Q (.val v) H=Tx l lo marks fr Q H (H.get l):=rfl
def abe{l:Nat}{marks:List Nat}{st:LoopState}{pend:Option Jmp}{tm:List IV}{I:List Nat}{q body:IC}{F:Nat}:Tx l lo marks fr Q H (some (.loop st pend tm I q body F))=(st≠.busy/\lo<=l/\Q (.ex (NF pend) {fr with marks:=marks++fr.marks}) (H.put l (.loop .exhausted pend tm I q body F))):=rfl
def act{f:IA}{ps:List Nat}{I body:IC}{g:IV}{e:Nat×List Nat×Heap}(hg:f.eval E.g0 fr.tm=some g)(he:jw rd H=some e):W E lo (.code (.rfn f ps I body) rd fr) H Q=ag3 E lo ps I body fr Q g e:=by obtain⟨df,marks,H1⟩:=e;refine propext ⟨?_,?_⟩;{rintro⟨n,o,H',h,hq⟩;cases n with|zero=>cases h|succ n=>rw[run] at h;simp only[hg,he] at h;cases h1:run E n (.apply g [.yield H1.n]) lo (H1.new (.loop .ready none fr.tm ps I body df)) with|none=>rw[h1] at h;cases h|some p=>rw[h1] at h;obtain⟨o1,T⟩:=p;refine⟨n,o1,T,h1,?_⟩;cases o1 with|ex e fr=>cases h|val v=>simp only at h;show Tx _ _ _ _ _ _ _;cases V:T.get H1.n with|none=>rw[V] at h;cases h|some ob=>rw[V] at h;cases ob with|loop st pend tm Z F q U=>(simp only at h;split at h;{cases h};{rename_i hn;refine⟨λe=>hn (.inl e),Nat.le_of_not_lt λe=>hn (.inr e),?_⟩;cases pend with|none=>injection h with h;injection h with h3 h4;subst h3 h4;exact hq|some j=>injection h with h;injection h with h3 h4;subst h3 h4;exact hq})|_=>cases h};{intro h;refine afC hg he (h.mono λo T h=>?_);cases o with|ex e fr=>exact h.elim|val v=>have O:Tx H1.n lo marks fr Q T (T.get H1.n):=h;cases V:T.get H1.n with|none=>rw[V] at O;exact O.elim|some ob=>rw[V] at O;cases ob with|loop st pend tm Z F q U=>exact⟨v,st,pend,tm,Z,F,q,U,rfl,rfl,O.1,O.2.1,by cases pend<;>exact O.2.2⟩|_=>exact O.elim}
def acu{f:IA}{I:List Nat}{q body:IC}:W E lo (.code (.rfn f I q body) none fr) H Q=ff (f.eval E.g0 fr.tm) λg=>W E lo (.apply g [.yield (H.n+1)]) ((H.new .deferred).new (.loop .ready none fr.tm I q body H.n)) (abg (H.n+1) lo [H.n] fr Q):=by cases F:f.eval E.g0 fr.tm with|none=>(refine propext ⟨?_,λh=>h.elim⟩;rintro⟨n,o,H',h,O⟩;cases n with|zero=>cases h|succ n=>rw[run] at h;simp only[F] at h;cases h)|some g=>exact act F (e:=(H.n,[H.n],H.new .deferred)) rfl
def Cp(l:Nat)(Q:A1)(e:Ex)(H:Heap)(ob:Option IObj):Prop:=match ob with|some (.loop _ _ tm I q body F)=>(match e with|.normal=>Q (.val (.bool true)) (H.put l (.loop .ready none tm I q body F))|.jmp j=>Q (.val (.bool false)) (H.put l (.loop .done (some j) tm I q body F)))|_=>False
def St(l:Nat)(Q:A1):A1:=λo H=>match o with|.ex e _=>Cp l Q e H (H.get l)|_=>False
def zI(E:Env)(lo l:Nat)(body:IC)(Q:A1)(fr:Fr)(H:Heap)(ob:Option IObj):Prop:=match ob with|some (.loop .ready pend tm O F q I)=>W E lo (.code body (some l) fr) (H.put l (.loop .busy pend tm O F q I)) (St l Q)|_=>False
def KL(E:Env)(lo l:Nat)(body:IC)(Q:A1):A1:=λo H=>match o with|.ex .normal fr=>zI E lo l body Q fr H (H.get l)|_=>False
def QZ(E:Env)(lo l:Nat)(args:List IV)(Q:A1)(H:Heap)(ob:Option IObj):Prop:=match ob with|some (.loop _ _ tm F q body _)=>args.length=F.length/\lo<=l/\W E lo (.code q (some l) ⟨fZ tm F args,[]⟩) H (KL E lo l body Q)|_=>False
def WR{l:Nat}{e:Ex}:St l Q (.ex e fr) H=Cp l Q e H (H.get l):=rfl
def WP{l:Nat}{st:LoopState}{pend:Option Jmp}{tm:List IV}{I:List Nat}{q body:IC}{F:Nat}:Cp l Q .normal H (some (.loop st pend tm I q body F))=Q (.val (.bool true)) (H.put l (.loop .ready none tm I q body F)):=rfl
def WQ{l:Nat}{j:Jmp}{st:LoopState}{pend:Option Jmp}{tm:List IV}{I:List Nat}{q body:IC}{F:Nat}:Cp l Q (.jmp j) H (some (.loop st pend tm I q body F))=Q (.val (.bool false)) (H.put l (.loop .done (some j) tm I q body F)):=rfl
def TH{l:Nat}{body:IC}:KL E lo l body Q (.ex .normal fr) H=zI E lo l body Q fr H (H.get l):=rfl
def TG{l:Nat}{body q:IC}{pend:Option Jmp}{tm:List IV}{O:List Nat}{F:IC}{I:Nat}:zI E lo l body Q fr H (some (.loop .ready pend tm O F q I))=W E lo (.code body (some l) fr) (H.put l (.loop .busy pend tm O F q I)) (St l Q):=rfl
def QY{l:Nat}{args:List IV}{st:LoopState}{pend:Option Jmp}{tm:List IV}{F:List Nat}{q body:IC}{I:Nat}:QZ E lo l args Q H (some (.loop st pend tm F q body I))=(args.length=F.length/\lo<=l/\W E lo (.code q (some l) ⟨fZ tm F args,[]⟩) H (KL E lo l body Q)):=rfl
def vp{l:Nat}{args:List IV}:W E lo (.apply (.yield l) args) H Q=QZ E lo l args Q H (H.get l):=by refine propext ⟨?_,?_⟩;{rintro⟨n,o,H',h,hq⟩;cases n with|zero=>cases h|succ n=>rw[run] at h;(try simp only at h);cases hg:H.get l with|none=>rw[hg] at h;cases h|some ob=>rw[hg] at h;cases ob with|loop st pend tm ps an body df=>simp only at h;split at h;{rename_i hl;refine⟨hl.1,hl.2,?_⟩;cases h1:run E n (.code an (some l) ⟨fZ tm ps args,[]⟩) lo H with|none=>rw[h1] at h;cases h|some p=>rw[h1] at h;obtain⟨o1,H1⟩:=p;refine⟨n,o1,H1,h1,?_⟩;cases o1 with|val v=>cases h|ex e fr=>cases e with|jmp j=>cases h|normal=>simp only at h;show zI _ _ _ _ _ _ _ _;simp only[j7] at h;cases hb:H1.get l with|none=>rw[hb] at h;cases h|some V=>rw[hb] at h;cases V with|loop ag I a0 aS O F aE=>(cases ag with|ready=>(simp only at h;cases h2:run E n (.code body (some l) fr) lo (H1.put l (.loop .busy I a0 aS O F aE)) with|none=>rw[h2] at h;cases h|some p=>rw[h2] at h;obtain⟨o3,H3⟩:=p;refine⟨n,o3,H3,h2,?_⟩;cases o3 with|val v=>cases h|ex e fr3=>simp only[Ce] at h;show Cp _ _ _ _ _;cases U:H3.get l with|none=>rw[U] at h;cases h|some Z=>rw[U] at h;cases Z with|loop a3 ad Km a2 ay T a1=>(cases e with|normal=>injection h with h;injection h with h3 h4;subst h3 h4;exact hq|jmp j=>injection h with h;injection h with h3 h4;subst h3 h4;exact hq)|_=>cases h)|_=>cases h)|_=>cases h};{cases h}|_=>cases h};{intro h;cases hg:H.get l with|none=>rw[hg] at h;exact h.elim|some ob=>rw[hg] at h;cases ob with|loop st pend tm ps an body df=>(obtain⟨h1,h2,h3⟩:=h;refine YF hg h1 h2 (h3.mono λo H1 h=>?_);cases o with|val v=>exact h.elim|ex e fr=>cases e with|jmp j=>exact h.elim|normal=>have h':zI E lo l body Q fr H1 (H1.get l):=h;cases hb:H1.get l with|none=>rw[hb] at h';exact h'.elim|some V=>rw[hb] at h';cases V with|loop ag I a0 aS O F aE=>(cases ag with|ready=>(refine⟨fr,_,rfl,by simp only[j7,hb],W.mono h' λo H3 h=>?_⟩;cases o with|val v=>exact h.elim|ex e fr3=>have q:Cp l Q e H3 (H3.get l):=h;cases U:H3.get l with|none=>rw[U] at q;exact q.elim|some Z=>rw[U] at q;cases Z with|loop a3 ad Km a2 ay T a1=>(cases e with|normal=>exact⟨_,_,(_,_),rfl,by simp only[Ce,U];rfl,q⟩|jmp j=>exact⟨_,_,(_,_),rfl,by simp only[Ce,U];rfl,q⟩)|_=>exact q.elim)|_=>exact h'.elim)|_=>exact h'.elim)|_=>exact h.elim}
def aeH(I:Nat->Fr->Heap->Prop)(k:Nat)(Q:A1):A1:=λo H=>match o with|.ex .normal fr=>∃q,q<k/\I q fr H|o=>Q o H
def aC{c:IC}(I:Nat->Fr->Heap->Prop)(h:∀k fr H,I k fr H->∀L:A1,(∀q fr H,q<k->I q fr H->L (.ex .normal fr) H)->(∀j fr H,L (.ex (.jmp j) fr) H=Q (.ex (.jmp j) fr) H)->W E lo (.code c rd fr) H L):∀(k:Nat){fr:Fr}{H:Heap},I k fr H->W E lo (.code (.loop c) rd fr) H Q:=by intro k;induction k using Nat.strongRecOn with|ind k ih=>intro fr H hi;rw[qS];refine(h k fr H hi (aeH I k Q) (λq fr H U V=>⟨q,U,V⟩) (λj fr H=>rfl)).mono λo H' F=>?_;cases o with|val v=>exact F|ex e T=>cases e with|jmp j=>exact F|normal=>obtain⟨q,Z,O⟩:=F;exact ih q Z O
end
def ah1{a b:Nat}(h:b<a):(a=b)=False:=by simp;omega
def ah0{a b:Nat}(h:a<b):(a=b)=False:=by simp;omega
def cLe{a b:Nat}(h:a<=b):(a<=b)=True:=by simp[h]
def ahZ{a b:Nat}(h:b<a):(a<=b)=False:=by simp;omega
def cLt{a b:Nat}(h:a<b):(a<b)=True:=by simp[h]
def ahY{a b:Nat}(h:b<=a):(a<b)=False:=by simp;omega
def iLe{a b:Int}(h:a<=b):(a<=b)=True:=by simp[h]
def ahm{a b:Int}(h:b<a):(a<=b)=False:=by simp;omega
def iLt{a b:Int}(h:a<b):(a<b)=True:=by simp[h]
def ahl{a b:Int}(h:b<=a):(a<b)=False:=by simp;omega
def iGe{a b:Int}(h:a>=b):(a>=b)=True:=by simp;omega
def aho{a b:Int}(h:a<b):(a>=b)=False:=by simp;omega
def iGt{a b:Int}(h:a>b):(a>b)=True:=by simp;omega
def ahn{a b:Int}(h:a<=b):(a>b)=False:=by simp;omega
def ahq{a b:Int}(h:a=b):(a==b)=true:=by simp[h]
def aeW{a b:Int}(h:a<b\/b<a):(a==b)=false:=by simp;omega
def ahp{a b:Int}(h:a<b\/b<a):(a !=b)=true:=by simp;omega
def aeV{a b:Int}(h:a=b):(a !=b)=false:=by simp[h]
def aaN{a:Int}(h: -9223372036854775808<=a/\a<=9223372036854775807):IntKind.i64.wrap a=a:=IntWalk.i64_in a Om
def wU8{a:Int}(h:0<=a/\a<=255):IntKind.u8.wrap a=a:=IntWalk.u8_in a h
def Mk{l:List IV}:(IV.agg l).cells=l:=rfl
def Mj{k:IntKind}{n:Int}:(IV.int k n).cells=[.int k n]:=rfl
def JB{b:Bool}:(IV.bool b).cells=[.bool b]:=rfl
def Mg{s:List UInt8}:(IV.str s).cells=[.str s]:=rfl
def Mh{b o:Nat}:(IV.ptr b o).cells=[.ptr b o]:=rfl
def Ch:IV.nilPtr.cells=[.nilPtr]:=rfl
def Gj{b o n c:Nat}{ex:Bool}:(IV.slice b o n c ex).cells=[.slice b o n c ex]:=rfl
def xW:IV.ns.cells=[.ns]:=rfl
def Mi{b:Nat}:(IV.map b).cells=[.map b]:=rfl
def Ci:IV.nilMap.cells=[.nilMap]:=rfl
def QD{f:FuncId}{a b:List IV}:(IV.fn f a b).cells=[.fn f a b]:=rfl
def Gi{b:Nat}:(IV.yield b).cells=[.yield b]:=rfl
def By:IV.nilFunc.cells=[.nilFunc]:=rfl
def Gk{t:TypeId}{v:IV}:(IV.iface t v).cells=[.iface t v]:=rfl
def xX:IV.nilIface.cells=[.nilIface]:=rfl
def uB{k:IntKind}{n:Int}:(IV.int k n).one=true:=rfl
def rE{b:Bool}:(IV.bool b).one=true:=rfl
def T3{s:List UInt8}:(IV.str s).one=true:=rfl
def T4{b o:Nat}:(IV.ptr b o).one=true:=rfl
def HT:IV.nilPtr.one=true:=rfl
def K9{b o n c:Nat}{ex:Bool}:(IV.slice b o n c ex).one=true:=rfl
def BX:IV.ns.one=true:=rfl
def T6{b:Nat}:(IV.map b).one=true:=rfl
def HU:IV.nilMap.one=true:=rfl
def XA{f:FuncId}{a b:List IV}:(IV.fn f a b).one=true:=rfl
def K8{b:Nat}:(IV.yield b).one=true:=rfl
def Fa:IV.nilFunc.one=true:=rfl
def La{t:TypeId}{v:IV}:(IV.iface t v).one=true:=rfl
def BY:IV.nilIface.one=true:=rfl
def TL(ob:IObj)(o n:Nat):Option (List IV):=match ob with|.cells _ _ _ cs=>if o+n<=cs.length then some ((cs.drop o).take n) else none|_=>none
def Xp{q:Bool}{e ez:Nat}{cs:List IV}{o n:Nat}:TL (.cells q e ez cs) o n=if o+n<=cs.length then some ((cs.drop o).take n) else none:=rfl
def TK{H:Heap}{ob:IObj}{b o n:Nat}:(H.new ob).read b o n=if H.n=b then TL ob o n else H.read b o n:=by unfold Heap.read;rw[ak];by_cases h:H.n=b;{simp only[h,if_true];cases ob<;>rfl};{simp[h]}
def TI{H:Heap}{ob:IObj}{b' b o n:Nat}:(H.put b' ob).read b o n=if b'=b then TL ob o n else H.read b o n:=by unfold Heap.read;rw[aa];by_cases h:b'=b;{simp only[h,if_true];cases ob<;>rfl};{simp[h]}
def ac{H:Heap}{q:Bool}{e ez:Nat}{cs:List IV}{b:Nat}(h:H.get b=some (.cells q e ez cs))(o n:Nat):H.read b o n=if o+n<=cs.length then some ((cs.drop o).take n) else none:=by unfold Heap.read;rw[h]
def EK{H H':Heap}{b:Nat}(h:H'.get b=H.get b)(o n:Nat):H'.read b o n=H.read b o n:=by unfold Heap.read;rw[h]
def NZ.read{lo:Nat}{H H':Heap}(k:NZ lo H H')(b o n:Nat)(q:b<lo)(E:b<H.n):H'.read b o n=H.read b o n:=EK (k.2 b q E) o n
inductive SV where
 | nil
 | sl (b o n c:Nat) (ex:Bool)
 deriving Inhabited
def SV.iv:SV->IV|.nil=>.ns|.sl b o n c ex=>.slice b o n c ex
def SV.blk:SV->Nat|.nil=>0|.sl b _ _ _ _=>b
def SV.off:SV->Nat|.nil=>0|.sl _ o _ _ _=>o
def SV.tight:SV->Prop|.nil=>True|.sl _ _ n c ex=>c=n/\ex=true
def jz(v:SV):v.iv.one=true:=by cases v<;>rfl
def JS(v:SV):v.iv.cells=[v.iv]:=by cases v<;>rfl
def DT:SV.nil.iv=.ns:=rfl
def ja{b o n c:Nat}{ex:Bool}:(SV.sl b o n c ex).iv=.slice b o n c ex:=rfl
class Cell (α:Type) where
 z:Nat
 cs:α→List IV
 len:∀a,(cs a).length=z
 one:∀a,(cs a).all IV.one=true
 pos:0 < z
instance:Cell SV where
 z:=1
 cs v:=[v.iv]
 len _:=rfl
 one v:=by simp[jz]
 pos:=by omega
theorem gK(v:SV):Cell.cs v=[v.iv]:=rfl
def eJ:Cell.z SV=1:=rfl
def fQ{b o n c:Nat}{ex:Bool}:(SV.sl b o n c ex).blk=b:=rfl
def kX{b o n c:Nat}{ex:Bool}:(SV.sl b o n c ex).off=o:=rfl
section
variable {α:Type}[Cell α]
def aB(l:List α):List IV:=l.flatMap Cell.cs
theorem bW(a:α)(l:List α):aB (a::l)=Cell.cs a++aB l:=rfl
theorem eG(a b:List α):aB (a++b)=aB a++aB b:=by simp[aB]
def IX(a:α):aB [a]=Cell.cs a:=by simp[aB]
def ax(l:List α):(aB l).length=l.length*Cell.z α:=by induction l with|nil=>simp[aB]|cons p l q=>rw[bW,bj,q,Cell.len,cQ,eS];omega
def gJ(l:List α):(aB l).all IV.one=true:=by induction l with|nil=>rfl|cons p l q=>rw[bW,List.all_append,q,Cell.one];rfl
theorem rI(l:List α)(k:Nat):(aB l).drop (k*Cell.z α)=aB (l.drop k):=by induction l generalizing k with|nil=>simp[aB]|cons p l q=>cases k with|zero=>simp|succ k=>rw[bW,List.drop_succ_cons,eS,Nat.add_comm,<-Cell.len p,List.drop_length_add_append,Cell.len,q]
theorem Dv(l:List α)(k:Nat):(aB l).take (k*Cell.z α)=aB (l.take k):=by induction l generalizing k with|nil=>simp[aB]|cons p l q=>cases k with|zero=>simp[aB]|succ k=>rw[bW,List.take_succ_cons,bW,eS,Nat.add_comm,<-Cell.len p,List.take_length_add_append,Cell.len,q]
def X8(l:List α)(i:Nat)(h:i<l.length):((aB l).drop (i*Cell.z α)).take (Cell.z α)=Cell.cs l[i]:=by grind[rI,List.drop_eq_getElem_cons,bW,Cell.len,List.take_left]
def dW{H:Heap}{b o n a m:Nat}{cs:List IV}(h:H.read b o n=some cs)(F:a+m<=n):H.read b (o+a) m=some ((cs.drop a).take m):=by unfold Heap.read at h⊢;cases q:H.get b with|none=>rw[q] at h;cases h|some ob=>rw[q] at h;cases ob with|cells I e ez E=>simp only at h⊢;split at h;{injection h with h;rw[iP,<-h,List.drop_take,List.take_take,px,show min m (n - a)=m from by omega]};{cases h}|_=>cases h
def Sl(H:Heap)(v:SV)(l:List α):Prop:=match v with|.nil=>l=[]|.sl b o n c _=>n=l.length/\n<=c/\(l≠[]->b<H.n/\H.read b o (l.length*Cell.z α)=some (aB l))
def Sl.keep{H H':Heap}{v:SV}{l:List α}(h:Sl H v l)(k:NZ H.n H H'):Sl H' v l:=by cases v with|nil=>exact h|sl b o n c ex=>exact⟨h.1,h.2.1,λq=>⟨cC (h.2.2 q).1 k.1,(k.read b o _ (h.2.2 q).1 (h.2.2 q).1).trans (h.2.2 q).2⟩⟩
def Sl.same{H H':Heap}{v:SV}{l:List α}(h:Sl H v l)(hn:H.n<=H'.n)(E:l≠[]->H'.get v.blk=H.get v.blk):Sl H' v l:=by cases v with|nil=>exact h|sl b o n c ex=>exact⟨h.1,h.2.1,λq=>⟨cC (h.2.2 q).1 hn,(EK (E q) o _).trans (h.2.2 q).2⟩⟩
def Sl.blk_lt{H:Heap}{v:SV}{l:List α}(h:Sl H v l)(q:l≠[]):v.blk<H.n:=by cases v with|nil=>exact absurd h q|sl b o n c ex=>exact(h.2.2 q).1
def Sl.blk_lt'{H:Heap}{v:SV}{l:List α}(h:Sl H v l){i:Nat}(q:i<l.length):v.blk<H.n:=h.blk_lt (by grind)
def dK{H:Heap}:Sl H .nil ([]:List α):=rfl
def Sl.ln{H:Heap}{v:SV}{l:List α}(h:Sl H v l)(lo:Nat)(H':Heap):ev1 .lenSl [v.iv] lo H'=some (.int .i64 l.length,H'):=by cases v with|nil=>have h:l=[]:=h;subst h;rfl|sl b o n c ex=>rw[<-h.1];rfl
def Sl.lenI{H:Heap}{v:SV}{l:List α}(h:Sl H v l):mV v.iv=some l.length:=by cases v with|nil=>have h:l=[]:=h;subst h;rfl|sl b o n c ex=>rw[<-h.1];rfl
def Sl.srcI{H:Heap}{v:SV}{l:List α}(h:Sl H v l){z:Nat}(E:Cell.z α=z):gV H z l.length v.iv=some (aB l):=by subst E;cases v with|nil=>have h:l=[]:=h;subst h;rfl|sl b o n c ex=>show(if l.length=0 then some [] else H.read b o (l.length*Cell.z α))=_;by_cases q:l=[];{subst q;rfl};{rw[if_neg (by grind)];exact(h.2.2 q).2}
def Sl.idx{H:Heap}{v:SV}{l:List α}(h:Sl H v l)(z:Nat)(x:Int)(lo:Nat)(H':Heap)(h0:0<=x)(q:x<l.length):ev1 (.idxSl z) [v.iv,.int .i64 x] lo H'=some (.ptr v.blk (v.off+x.toNat*z),H'):=by cases v with|nil=>have h:l=[]:=h;subst h;simp at q;omega|sl b o n c ex=>have hn:=h.1;simp only[ev1,SV.iv,SV.blk,SV.off];rw[if_pos ⟨h0,Om⟩]
def Sl.read{H:Heap}{v:SV}{l:List α}(h:Sl H v l){z:Nat}(E:Cell.z α=z)(i:Nat)(hi:i<l.length):H.read v.blk (v.off+i*z) z=some (Cell.cs l[i]):=by subst E;have q:l≠[]:=by{grind};cases v with|nil=>exact absurd h q|sl b o n c ex=>have:=dW (a:=i*Cell.z α) (m:=Cell.z α) (h.2.2 q).2 (by rw[<-eS];exact lG _ hi);rw[X8 l i hi] at this;exact this
def Sl.part{H:Heap}{b o n c:Nat}{ex:Bool}{l:List α}(h:Sl H (.sl b o n c ex) l){z:Nat}(O:Cell.z α=z){a m c':Nat}{ex':Bool}(hm:a+m<=l.length)(I:m<=c'):Sl H (.sl b (o+a*z) m c' ex') ((l.drop a).take m):=by subst O;have E:((l.drop a).take m).length=m:=by{rw[bM,dD];omega};refine⟨E.symm,I,λF=>?_⟩;have q:l≠[]:=by{intro e;rw[e] at F;simp at F};refine⟨(h.2.2 q).1,?_⟩;have:=dW (a:=a*Cell.z α) (m:=m*Cell.z α) (h.2.2 q).2 (by rw[<-oC];exact lG _ hm);grind[rI,Dv]
def zG(n:Nat)(a:α):ka n (Cell.cs a)=aB (List.replicate n a):=by induction n with|zero=>rfl|succ n q=>rw[ka,q,E1,bW]
def IW(l:List α)(i:Nat)(a:α)(h:i<l.length):aD (aB l) (i*Cell.z α) (Cell.cs a)=aB (l.set i a):=by have q:i*Cell.z α+Cell.z α<=(aB l).length:=by{rw[ax,<-eS];exact lG _ h};rw[dx _ _ _ (by rw[Cell.len];exact q),Dv,Cell.len,<-eS,rI,List.set_eq_take_append_cons_drop,if_pos h];rw[eG,bW,cR]
def bV(tm:List IV)(n:Nat)(h:tm.length=n):tm=(List.range n).map λi=>tm.getD i UN:=by subst h;apply fT<;>grind
def Own(H:Heap)(b e cap:Nat)(l:List α):Prop:=l.length<=cap/\b<H.n/\∃r,H.get b=some (.cells false e (Cell.z α) (aB l++r))/\r.length=(cap - l.length)*Cell.z α
def Own.sl{H:Heap}{b e cap:Nat}{l:List α}(h:Own H b e cap l)(ex:Bool):Sl H (.sl b 0 l.length cap ex) l:=by obtain⟨q,E,r,F,I⟩:=h;refine⟨rfl,q,λ_=>⟨E,?_⟩⟩;rw[ac F,cY,if_pos (by rw[bj,ax];omega),qb,<-ax,List.take_left]
def Own.same{H H':Heap}{b e cap:Nat}{l:List α}(h:Own H b e cap l)(hn:H.n<=H'.n)(O:H'.get b=H.get b):Own H' b e cap l:=by obtain⟨q,E,r,F,I⟩:=h;exact⟨q,cC E hn,r,O.trans F,I⟩
def Own.keep{H H':Heap}{b e cap:Nat}{l:List α}(h:Own H b e cap l)(k:NZ H.n H H'):Own H' b e cap l:=h.same k.1 (k.2 b h.2.1 h.2.1)
def Own.full{H:Heap}{b e:Nat}{l:List α}(h:Own H b e l.length l):H.get b=some (.cells false e (Cell.z α) (aB l)):=by obtain⟨q,E,r,F,I⟩:=h;grind
def bF{H:Heap}{b e:Nat}{l:List α}(q:b<H.n){z:Nat}(I:Cell.z α=z){cs:List IV}(F:H.get b=some (.cells false e z cs))(E:cs=aB l):Own H b e l.length l:=by subst I E;exact⟨ao _,q,[],by rw[F,fS],by simp⟩
def Own.mksl{H:Heap}{e n:Nat}{z:Nat}(q:Cell.z α=z)(a:α):Own (H.new (.cells false e z (ka n (Cell.cs a)))) H.n e n (List.replicate n a):=by subst q;refine⟨by simp,by rw[af];omega,[],by rw[ak,if_pos rfl,fS,zG],by simp⟩
def rW{H:Heap}{e n:Nat}{z:Nat}(E:Cell.z α=z){cs:List IV}(q:cs.length=n*z):Own (H.new (.cells false e z cs)) H.n e n ([]:List α):=by subst E;exact⟨by simp,by rw[af];omega,cs,by rw[ak,if_pos rfl];rfl,by simp[q]⟩
def Own.set{H:Heap}{b e cap:Nat}{l:List α}(h:Own H b e cap l){z:Nat}(T:Cell.z α=z)(i:Nat)(hi:i<l.length)(a:α)(lo:Nat)(q:lo<=b):∃cs,H.write lo b (i*z) (Cell.cs a)=some (H.put b (.cells false e z cs))/\Own (H.put b (.cells false e z cs)) b e cap (l.set i a):=by subst T;obtain⟨E,F,r,I,O⟩:=h;have Q:=ax l;have U:i*Cell.z α+Cell.z α<=l.length*Cell.z α:=by{rw[<-eS];exact lG _ hi};refine⟨aD (aB l++r) (i*Cell.z α) (Cell.cs a),?_,?_⟩;{unfold Heap.write;rw[I];simp only;rw[if_pos ⟨q,by rw[Cell.len,bj];omega,Cell.one a⟩]};{refine⟨by simp[E],F,r,?_,by simp[O]⟩;rw[aa,if_pos rfl,<-IW l i a hi,dx _ _ _ (by rw[Cell.len,bj];omega),dx _ _ _ (by rw[Cell.len];omega),Cell.len];grind}
def Own.push{H:Heap}{b e cap:Nat}{l m:List α}(h:Own H b e cap l){z:Nat}(Q:Cell.z α=z)(V:l.length+m.length<=cap)(lo:Nat)(O:lo<=b):∃cs,H.write lo b (l.length*z) (aB m)=some (H.put b (.cells false e z cs))/\Own (H.put b (.cells false e z cs)) b e cap (l++m):=by subst Q;obtain⟨T,I,r,U,F⟩:=h;have E:=ax l;have q:=ax m;have Z:(aB m).length<=r.length:=by{rw[q,F];exact lG _ Om};refine⟨aD (aB l++r) (l.length*Cell.z α) (aB m),?_,?_⟩;{simp_all[Heap.write,if_pos,bj,gJ]};{refine⟨by simp;omega,I,r.drop (aB m).length,?_,?_⟩;{rw[aa,if_pos rfl,dx _ _ _ (by grind),eG,<-E,List.take_left,List.drop_length_add_append]};{rw[dD,F,q,bj,<-Nat.sub_mul];congr 1;omega}}
end
section
variable {α:Type}[Cell α]
def Sl.cap{H:Heap}{v:SV}{l:List α}(h:Sl H v l)(q:v.tight)(lo:Nat)(H':Heap):ev1 .cap [v.iv] lo H'=some (.int .i64 l.length,H'):=by cases v with|nil=>have h:l=[]:=h;subst h;rfl|sl b o n c ex=>obtain⟨rfl,rfl⟩:=q;rw[<-h.1];rfl
theorem NZ.newPut{H:Heap}{o o':IObj}:NZ H.n H ((H.new o).put H.n o'):=(NZ.new _ _).trans (.put _ _ (ao _))
def eV{H:Heap}{v:SV}{l:List α}(F:Sl H v l){z:Nat}(U:Cell.z α=z)(e lo:Nat)(zs:List IV)(O:zs.length=z)(E:lo<=H.n):∃q,ev1 (.copy z) [.slice H.n 0 l.length l.length true,v.iv] lo (H.new (.cells false e z (ka l.length zs)))=some (.int .i64 l.length,q)/\q.n=H.n+1/\NZ H.n H q/\Own q H.n e l.length l:=by subst U;have I:=F.keep (H':=H.new (.cells false e (Cell.z α) (ka l.length zs))) (NZ.new _ _);have Q:oX (.slice H.n 0 l.length l.length true)=some l.length:=rfl;by_cases h0:l=[];{subst h0;refine⟨H.new (.cells false e (Cell.z α) []),?_,af _ _,NZ.new _ _,bF (l:=[]) (cs:=[]) (by rw[af];omega) rfl (by rw[ak,if_pos rfl]) rfl⟩;simp only[ev1,Q,F.lenI];rfl};{have T:0<l.length:=List.length_pos_iff.2 h0;refine⟨(H.new (.cells false e (Cell.z α) (ka l.length zs))).put H.n (.cells false e (Cell.z α) (aB l)),?_,by rw[ai,af],NZ.newPut,bF (by rw[ai,af];omega) rfl (by rw[aa,if_pos rfl]) rfl⟩;simp only[ev1,Q,F.lenI];rw[Nat.min_self,iN,I.srcI rfl];simp only[bN,Heap.write];rw[ak,if_pos rfl];simp only;have V:(ka l.length zs).length=(aB l).length:=by{rw[eK,O,ax]};rw[if_pos ⟨E,Om,gJ l⟩,dx _ _ _ Om];grind}
def Own.put{H:Heap}{b e:Nat}{l:List α}(h:Own H b e l.length l){z:Nat}(q:Cell.z α=z)(i:Nat)(hi:i<l.length)(a:α):Own (H.put b (.cells false e z (aD (aB l) (i*z) (Cell.cs a)))) b e l.length (l.set i a):=by subst q;rw[IW l i a hi];have:=bF (H:=H.put b (.cells false e (Cell.z α) (aB (l.set i a)))) (l:=l.set i a) (b:=b) (e:=e) h.2.1 rfl (by rw[aa,if_pos rfl]) rfl;grind
def VC{H:Heap}{b e n:Nat}{ex:Bool}{d l:List α}{v:SV}(E:Own H b e n d)(hd:d.length=n)(F:Sl H v l){z:Nat}(hz:Cell.z α=z)(lo:Nat)(Z:l.length<=n)(ag:lo<=b):∃q,ev1 (.copy z) [.slice b 0 n n ex,v.iv] lo H=some (.int .i64 l.length,q)/\q.n=H.n/\(∀x,x≠b->q.get x=H.get x)/\Own q b e n (l++d.drop l.length):=by subst hz hd;have I:oX (.slice b 0 d.length d.length ex)=some d.length:=rfl;have T:=E.full;by_cases h0:l=[];{subst h0;refine⟨H,?_,rfl,λ_ _=>rfl,by simpa using E⟩;simp only[ev1,I,F.lenI];rw[if_pos (by simp)];rfl};{have Q:0<l.length:=List.length_pos_iff.2 h0;have V:=ax l;have U:=ax d;have ad:(aB l).length<=(aB d).length:=by{simp_all[lG]};refine⟨H.put b (.cells false e (Cell.z α) (aB (l++d.drop l.length))),?_,ai _ _ _,λx hx=>by rw[aa,if_neg (Ne.symm hx)],?_⟩;{simp only[ev1,I,F.lenI];rw[pZ Z,iN,F.srcI rfl];simp only[bN,Heap.write,T];simp_all[if_pos,gJ,dx,qa,ij,cY,rI,eG]};{have O:(l++d.drop l.length).length=d.length:=by{rw[bj,dD];omega};have:=bF (H:=H.put b (.cells false e (Cell.z α) (aB (l++d.drop l.length)))) (l:=l++d.drop l.length) (b:=b) (e:=e) E.2.1 rfl (by rw[aa,if_pos rfl]) rfl;grind}}
def dJ{H:Heap}{b e cap:Nat}{ex:Bool}{l m:List α}{v:SV}(Q:Own H b e cap l)(I:Sl H v m){z:Nat}(O:Cell.z α=z)(bytes lo:Nat)(U:l.length+m.length<=cap)(E:lo<=b):∃q,ev1 (.append e z bytes) [.slice b 0 l.length cap ex,v.iv] lo H=some (.slice b 0 (l.length+m.length) cap ex,q)/\q.n=H.n/\(∀b',b'≠b->q.get b'=H.get b')/\Own q b e cap (l++m):=by simp only[ev1,I.lenI,I.srcI O,bN,du];rw[if_neg (by rw[gJ];decide)];by_cases h0:m=[];{grind};{have F:0<m.length:=List.length_pos_iff.2 h0;obtain⟨cs,V,T⟩:=Q.push O U lo E;simp_all[ai,aa,if_neg,Ne.symm,if_pos,cY]}
def iC{H:Heap}{b e n:Nat}{l m:List α}{v:SV}(V:Own H b e n l)(hn:n=l.length)(O:Sl H v m){z:Nat}(Z:Cell.z α=z)(bytes lo:Nat)(hm:m≠[])(T:(l.length+m.length)*(bytes+1)<=2^40)(F:lo<=b):∃q,ev1 (.append e z bytes) [.slice b 0 l.length n false,v.iv] lo H=some (.slice H.n 0 (l.length+m.length) (l.length+m.length) false,q)/\q.n=H.n+1/\(∀b',b'≠b->b'<H.n->q.get b'=H.get b')/\Own q H.n e (l.length+m.length) (l++m):=by subst hn Z;have I:0<m.length:=List.length_pos_iff.2 hm;have U:=V.full;simp only[ev1,O.lenI,O.srcI rfl,bN,du];rw[if_neg (by rw[gJ];decide)];rw[iN,iN,if_pos T,U];simp only[jh,if_false];have E:=ax l;rw[if_pos ⟨trivial,trivial,Cell.pos,trivial,F,Om⟩];refine⟨_,rfl,by rw[af,ai],λb' Q h2=>by rw[ak,if_neg (by rw[ai];omega),aa,if_neg (Ne.symm Q)],?_⟩;rw[<-E,vV,<-eG,<-bj];exact bF (by rw[af,ai];omega) rfl (by rw[ak,if_pos (ai _ _ _)]) rfl
def mc{H:Heap}{e:Nat}{m:List α}{v:SV}(F:Sl H v m){z:Nat}(O:Cell.z α=z)(bytes lo:Nat)(hm:m≠[])(I:m.length*(bytes+1)<=2^40):∃q,ev1 (.append e z bytes) [.ns,v.iv] lo H=some (.slice H.n 0 m.length m.length false,q)/\q.n=H.n+1/\NZ H.n H q/\Own q H.n e m.length m:=by subst O;have E:0<m.length:=List.length_pos_iff.2 hm;simp only[ev1,F.lenI,F.srcI rfl,bN,du];rw[if_neg (by rw[gJ];decide)];rw[iN,if_pos I];exact⟨_,rfl,af _ _,NZ.new _ _,bF (by rw[af];omega) rfl (by rw[ak,if_pos rfl]) rfl⟩
def jU{H:Heap}{b o n e:Nat}{l m:List α}{v:SV}(hs:Sl H (.sl b o l.length n true) l)(I:Sl H v m){z:Nat}(Q:Cell.z α=z)(bytes lo:Nat)(hm:m≠[])(hn:n<l.length+m.length)(O:(l.length+m.length)*(bytes+1)<=2^40):∃E,ev1 (.append e z bytes) [.slice b o l.length n true,v.iv] lo H=some (.slice H.n 0 (l.length+m.length) (l.length+m.length) false,E)/\E.n=H.n+1/\NZ H.n H E/\Own E H.n e (l.length+m.length) (l++m):=by subst Q;have F:0<m.length:=List.length_pos_iff.2 hm;have q:=hs.srcI rfl;simp only[SV.iv] at q;simp only[ev1,I.lenI,I.srcI rfl,bN,du];rw[if_neg (by rw[gJ];decide)];rw[iN,iN,if_pos O,if_pos trivial,q];refine⟨_,rfl,af _ _,NZ.new _ _,?_⟩;rw[<-eG,<-bj];exact bF (by rw[af];omega) rfl (by rw[ak,if_pos rfl]) rfl
end
section
variable {α:Type}[Cell α]
def Sl2(H:Heap)(v:SV)(ls:List (List α)):Prop:=∃vs:List SV,Sl H v vs/\vs.length=ls.length/\∀(i:Nat)(h:i<ls.length)(q:i<vs.length),Sl H vs[i] ls[i]
def Sl2.keep{H H':Heap}{v:SV}{ls:List (List α)}(h:Sl2 H v ls)(k:NZ H.n H H'):Sl2 H' v ls:=by obtain⟨vs,q,E,F⟩:=h;exact⟨vs,q.keep k,E,λi a b=>(F i a b).keep k⟩
def Sl2.ln{H:Heap}{v:SV}{ls:List (List α)}(h:Sl2 H v ls)(lo:Nat)(H':Heap):ev1 .lenSl [v.iv] lo H'=some (.int .i64 ls.length,H'):=by obtain⟨vs,q,E,F⟩:=h;rw[q.ln,E]
def Sl2.idx{H:Heap}{v:SV}{ls:List (List α)}(h:Sl2 H v ls)(z:Nat)(x:Int)(lo:Nat)(H':Heap)(h0:0<=x)(E:x<ls.length):ev1 (.idxSl z) [v.iv,.int .i64 x] lo H'=some (.ptr v.blk (v.off+x.toNat*z),H'):=by obtain⟨vs,g1,g2,q⟩:=h;exact g1.idx z x lo H' h0 Om
def Sl2.elem{H:Heap}{v:SV}{ls:List (List α)}(h:Sl2 H v ls)(i:Nat)(hi:i<ls.length):∃w:SV,H.read v.blk (v.off+i*1) 1=some [w.iv]/\Sl H w ls[i]/\v.blk<H.n:=by obtain⟨vs,g1,g2,q⟩:=h;exact⟨vs[i]'Om,g1.read (α:=SV) rfl i Om,q i hi Om,g1.blk_lt' (i:=i) Om⟩
def Sl2.nil{H:Heap}:Sl2 H .nil ([]:List (List α)):=⟨[],rfl,rfl,λi h=>by simp at h⟩
def Fresh(n0:Nat)(H:Heap)(e:Nat)(v:SV)(l:List α):Prop:=(v=.nil/\l=[])\/∃b,v=.sl b 0 l.length l.length true/\n0<=b/\Own H b e l.length l
def Fresh.sl{n0:Nat}{H:Heap}{e:Nat}{v:SV}{l:List α}(h:Fresh n0 H e v l):Sl H v l:=by rcases h with⟨rfl,rfl⟩|⟨b,rfl,E,q⟩;{exact dK};{exact q.sl true}
def Fresh.tight{n0:Nat}{H:Heap}{e:Nat}{v:SV}{l:List α}(h:Fresh n0 H e v l):v.tight:=by rcases h with⟨rfl,rfl⟩|⟨b,rfl,q,E⟩;{trivial};{exact⟨rfl,rfl⟩}
def Fresh.keep{n0:Nat}{H H':Heap}{e:Nat}{v:SV}{l:List α}(h:Fresh n0 H e v l)(k:NZ H.n H H'):Fresh n0 H' e v l:=by rcases h with⟨rfl,rfl⟩|⟨b,rfl,q,E⟩;{exact .inl ⟨rfl,rfl⟩};{exact .inr ⟨b,rfl,q,E.keep k⟩}
end
def Sl.cellsAt{α:Type}[Cell α]{H:Heap}{v:SV}{l:List α}(h:Sl H v l)(I:l≠[]):∃E e ez cs,H.get v.blk=some (.cells E e ez cs):=by cases v with|nil=>exact absurd h I|sl b o n c ex=>have q:=(h.2.2 I).2;unfold Heap.read at q;show ∃E e ez cs,H.get b=_;cases F:H.get b with|none=>rw[F] at q;cases q|some ob=>rw[F] at q;cases ob with|cells E e ez cs=>exact⟨_,_,_,_,rfl⟩|_=>cases q
def Sl.off{α:Type}[Cell α]{H:Heap}{v:SV}{l:List α}(h:Sl H v l)(E:l≠[]){x:Nat}{ob:IObj}(hx:H.get x=some ob)(F:∀q e ez cs,ob≠.cells q e ez cs):v.blk≠x:=by intro e;obtain⟨q,a,b,c,I⟩:=h.cellsAt E;grind
def bL{α:Type}:List (List α)->Nat|[]=>0|a::l=>if bL l=0/\a=[] then 0 else bL l+1
theorem ig{α:Type}:∀l:List (List α),bL l<=l.length|[]=>ao _|a::l=>by have:=ig l;grind[bL,List.length_cons]
def gu{α:Type}:∀(l:List (List α))(i:Nat)(h:i<l.length),bL l<=i->l[i]=[]|[],_,h,_=>by simp at h|a::l,0,h,k=>by grind[bL]|a::l,i+1,h,k=>by have:bL l<=i:=by{grind[bL]};exact gu l i (by simpa using h) this
theorem mw{α:Type}:∀(l:List (List α))(n:Nat)(h:n<l.length),bL l=n+1->l[n]≠[]|[],_,h,_=>by simp at h|a::l,n,h,k=>by unfold bL at k;split at k;{omega};{rename_i hn;cases n with|zero=>simp only[List.getElem_cons_zero];exactλe=>hn ⟨Om,e⟩|succ n=>exact mw l n (by simpa using h) Om}
def pS{α:Type}{l:List (List α)}{n:Nat}(hn:n<=l.length)(q:∀i (h:i<l.length),n<=i->l[i]=[])(E:∀m (h:m<l.length),n=m+1->l[m]≠[]):n=bL l:=by rcases zY n (bL l) with h|h|h;{exfalso;have F:=ig l;exact mw l (bL l - 1) Om Om (q _ Om Om)};{exact h};{exfalso;exact E (n - 1) Om Om (gu l _ Om Om)}
section
variable {α:Type}
def iJ(f:Nat->α)(a b n x:Nat):α:=if a<=x/\x<a+n then f (x+b - a) else if b<=x/\x<b+n then f (x+a - b) else f x
def oA(f:Nat->α)(a m b x:Nat):α:=if a<=x/\x<a+(b - m) then f (x+(m - a)) else if a+(b - m)<=x/\x<b then f (x - (b - m)) else f x
def Ks(f:Nat->α)(a b x:Nat):iJ f a b 0 x=f x:=by simp_all[iJ,if_neg]
def Kt{f g:Nat->α}{a b n:Nat}(q:a+n<b)(E:∀x,g x=if x=b+n then iJ f a b n (a+n) else if x=a+n then iJ f a b n (b+n) else iJ f a b n x)(x:Nat):g x=iJ f a b (n+1) x:=by rw[E];unfold iJ;grind
theorem Tv{f g:Nat->α}{m i j:Nat}(hi:i<=m)(O:0<j)(I:j<i)(E:∀x,g x=iJ f (m - i) m j x)(x:Nat):oA g (m - (i - j)) m (m+j) x=oA f (m - i) m (m+j) x:=by unfold oA;by_cases F:m - (i - j)<=x/\x<m - (i - j)+(m+j - m);{rw[if_pos F,E];unfold iJ;by_cases q:m<=x+(m - (m - (i - j)))<;>grind};{rw[if_neg F];by_cases q:m - (i - j)+(m+j - m)<=x/\x<m+j;{rw[if_pos q,E];unfold iJ;grind};{rw[if_neg q,E];unfold iJ;grind}}
theorem Ph{f g:Nat->α}{m i j:Nat}(hi:i<=m)(I:0<i)(O:i<j)(q:∀x,g x=iJ f (m - i) (m+j - i) i x)(x:Nat):oA g (m - i) m (m+(j - i)) x=oA f (m - i) m (m+j) x:=by unfold oA;by_cases E:m - i<=x/\x<m - i+(m+(j - i) - m);{rw[if_pos E,q,iP];unfold iJ;grind};{rw[if_neg E];by_cases F:m - i+(m+(j - i) - m)<=x/\x<m+(j - i);{rw[if_pos F,q];unfold iJ;grind};{rw[if_neg F,q];unfold iJ;grind}}
def Tu{f g:Nat->α}{m i:Nat}(hi:i<=m)(q:∀x,g x=iJ f (m - i) m i x)(x:Nat):g x=oA f (m - i) m (m+i) x:=by rw[q];unfold iJ oA;grind
def Hr(f:Nat->α){a m b:Nat}(q:a<=m)(E:m<=b)(h:a=m\/m=b)(x:Nat):oA f a m b x=f x:=by unfold oA;grind
end
section
variable {α:Type}[Inhabited α]
def aT(l:List α)(x:Nat):α:=l.getD x default
theorem j2{l:List α}{x:Nat}(h:x<l.length):aT l x=l[x]:=by unfold aT;grind
def iI(l:List α)(i j:Nat):List α:=(l.set i (aT l j)).set j (aT l i)
def km(l:List α)(i j:Nat):(iI l i j).length=l.length:=by simp[iI]
def Kr{l:List α}{i j:Nat}(hi:i<l.length)(q:j<l.length):(iI l i j).Perm l:=by grind[iI,j2,List.set_set_perm]
theorem iQ{l:List α}{i j:Nat}(hi:i<l.length)(F:j<l.length)(x:Nat):aT (iI l i j) x=if x=j then aT l i else if x=i then aT l j else aT l x:=by unfold iI;by_cases q:x=j;{subst q;rw[if_pos rfl,j2 (by simpa using F)];simp};{rw[if_neg q];by_cases E:x=i;{subst E;rw[if_pos rfl,j2 (by simpa using hi)];rw[iO (Ne.symm q),jj]};simp_all[if_neg,aT,cJ,List.getElem?_set_ne,Ne.symm]}
structure Mix(a b:Nat)(l l':List α):Prop where
 len:l'.length=l.length
 perm:l'.Perm l
 out:∀x,(x < a∨b≤x)→aT l' x=aT l x
 img:∀x,a≤x→x < b→∃y,a≤y∧y < b∧aT l' x=aT l y
theorem Mix.refl(a b:Nat)(l:List α):Mix a b l l:=⟨rfl,.refl _,λ_ _=>rfl,λx q E=>⟨x,q,E,rfl⟩⟩
def Mix.trans{a b:Nat}{l m n:List α}(h:Mix a b l m)(k:Mix a b m n):Mix a b l n:=by refine⟨k.len.trans h.len,k.perm.trans h.perm,λx hx=>(k.out x hx).trans (h.out x hx),λx q E=>?_⟩;obtain⟨y,F,I,O⟩:=k.img x q E;obtain⟨z,Q,T,U⟩:=h.img y F I;grind
def Mix.wide{a b c d:Nat}{l m:List α}(h:Mix a b l m)(F:c<=a)(hd:b<=d):Mix c d l m:=by refine⟨h.len,h.perm,λx hx=>h.out x Om,λx q E=>?_⟩;by_cases hx:a<=x/\x<b;{obtain⟨y,I,O,Q⟩:=h.img x hx.1 hx.2;grind};{exact⟨x,q,E,h.out x Om⟩}
def Mix.swap{a b i j:Nat}{l:List α}(F:b<=l.length)(hi:a<=i/\i<b)(I:a<=j/\j<b):Mix a b l (iI l i j):=by have q:i<l.length:=Om;have E:j<l.length:=Om;refine⟨km _ _ _,Kr q E,λx hx=>?_,λx O Q=>?_⟩;{rw[iQ q E,iN,iN]};{rw[iQ q E];grind}
variable (lt:α->α->Prop)
def Srt(l:List α)(a b:Nat):Prop:=∀i j,a<=i->i<j->j<b->lt (aT l i) (aT l j)
def Srt.part{lt:α->α->Prop}{l:List α}{a b c d:Nat}(h:Srt lt l a b)(I:a<=c)(hd:d<=b):Srt lt l c d:=λi j E q F=>h i j Om q Om
def Srt.out{lt:α->α->Prop}{l q:List α}{a b c d:Nat}(h:Srt lt l a b)(k:Mix c d l q)(hd:b<=c\/d<=a):Srt lt q a b:=λi j E F I=>by rw[k.out i Om,k.out j Om];exact h i j E F I
def Wb{lt:α->α->Prop}{l l1 l2:List α}{a m b:Nat}(I:Mix a m l l1)(E:Mix m b l1 l2)(O:Srt lt l1 a m)(Q:Srt lt l2 m b)(T:∀x y,a<=x->x<m->m<=y->y<b->lt (aT l x) (aT l y)):Srt lt l2 a b:=by intro i j hi q F;by_cases c1:j<m;{rw[E.out i Om,E.out j Om];exact O i j hi q c1};{by_cases c2:m<=i;{exact Q i j c2 q F};{rw[E.out i Om];obtain⟨x,U,V,Z⟩:=I.img i hi Om;obtain⟨y,y1,y2,y3⟩:=E.img j Om F;rw[Z,y3,I.out y Om];exact T x y U V y1 y2}}
def WW{lt ord:α->α->Prop}{l l1:List α}{a m b mid start q:Nat}(h1:a<=start)(h2:start<=mid)(h3:start<=m)(h4:mid<=q)(h5:m<=q)(h6:q<=b)(he:start+q=mid+m)(sL:Srt lt l a m)(sR:Srt lt l m b)(I:∀i j,a<=i->i<m->m<=j->j<b->ord (aT l i) (aT l j))(pA:∀i j,a<=i->i<start->q<=j->j<b->lt (aT l i) (aT l j))(pB:∀i j,m<=i->i<q->start<=j->j<m->lt (aT l i) (aT l j))(Z:∀x,aT l1 x=oA (aT l) start m q x):(Srt lt l1 a start/\Srt lt l1 start mid/\Srt lt l1 mid q/\Srt lt l1 q b)/\(∀i j,a<=i->i<start->start<=j->j<mid->ord (aT l1 i) (aT l1 j))/\(∀i j,mid<=i->i<q->q<=j->j<b->ord (aT l1 i) (aT l1 j))/\ ∀x y,a<=x->x<mid->mid<=y->y<b->lt (aT l1 x) (aT l1 y):=by have T:∀x,x<start->aT l1 x=aT l x:=λx hx=>by{rw[Z];unfold oA;grind};have U:∀x,start<=x->x<mid->aT l1 x=aT l (x+(m - start)):=λx hx ad=>by{rw[Z];unfold oA;rw[iP]};have O:∀x,mid<=x->x<q->aT l1 x=aT l (x - (q - m)):=λx hx ad=>by{rw[Z];unfold oA;grind};have V:∀x,q<=x->aT l1 x=aT l x:=λx hx=>by{rw[Z];unfold oA;grind};refine⟨⟨λi j q1 F E=>?_,λi j q1 F E=>?_,λi j q1 F E=>?_,λi j q1 F E=>?_⟩,λi j q1 F E Q=>?_,λi j q1 F E Q=>?_,λx y q1 F E Q=>?_⟩;{rw[T i Om,T j E];exact sL i j q1 F Om};{rw[U i q1 Om,U j Om E];exact sR _ _ Om Om Om};{rw[O i q1 Om,O j Om E];exact sL _ _ Om Om Om};{rw[V i q1,V j Om];exact sR _ _ Om F E};{rw[T i F,U j E Q];exact I _ _ q1 Om Om Om};{rw[O i q1 F,V j E];exact I _ _ Om Om Om Q};{by_cases c1:x<start;{rw[T x c1];by_cases c2:y<q;{rw[O y E c2];exact sL _ _ q1 Om Om};grind};{rw[U x Om F];by_cases c2:y<q;{rw[O y E c2];exact pB _ _ Om Om Om Om};{rw[V y Om];exact sR _ _ Om Om Q}}}
def Gs{lt:α->α->Prop}{l:List α}(h:Srt lt l 0 l.length):l.Pairwise lt:=by rw[zP];intro i j hi E q;have:=h i j (dB _) q E;grind[j2]
def j8{lt:α->α->Prop}{l:List α}(h:l.Pairwise lt)(a b:Nat)(I:b<=l.length):Srt lt l a b:=by rw[zP] at h;intro i j q E F;grind[j2]
end
theorem pR{α:Type}{lt:α->α->Prop}(q:∀a,¬lt a a)(O:∀a b c,lt a b->lt b c->lt a c):∀{l m:List α},l.Pairwise lt->m.Pairwise lt->(∀x,x∈l↔x∈m)->l=m|[],[],_,_,_=>rfl|[],b::m,_,_,h=>absurd ((h b).2 (by simp)) (by simp)|a::l,[],_,_,h=>absurd ((h a).1 (by simp)) (by simp)|a::l,b::m,I,hm,h=>by rw[List.pairwise_cons] at I hm;have F:a=b:=by{rcases List.mem_cons.1 ((h a).1 (by simp)) with e|e;{exact e};{rcases List.mem_cons.1 ((h b).2 (by simp)) with E|E;{exact E.symm};{exact absurd (O _ _ _ (I.1 b E) (hm.1 a e)) (q a)}}};subst F;congr 1;refine pR q O I.2 hm.2 λx=>⟨λhx=>?_,λhx=>?_⟩<;>grind
def PE{f:Fp}:aV .none f=true:=by cases f<;>rfl
def C3{f:Fp}:aV f .none=true:=by cases f<;>rfl
def PA{b o n b' o' q:Nat}:aV (.rd b o n) (.rd b' o' q)=true:=rfl
def Pz{b o n b' o' q:Nat}:aV (.rd b o n) (.wr b' o' q)=jy b o n b' o' q:=rfl
def Py{b o n b' o' q:Nat}:aV (.wr b o n) (.rd b' o' q)=jy b o n b' o' q:=rfl
def Px{b o n b' o' q:Nat}:aV (.wr b o n) (.wr b' o' q)=jy b o n b' o' q:=rfl
def PC{b o n b':Nat}:aV (.rd b o n) (.wb b')=decide (b'≠b):=rfl
def PG{b o n b':Nat}:aV (.wb b') (.rd b o n)=decide (b'≠b):=rfl
def K4{b o n b':Nat}:aV (.wr b o n) (.wb b')=decide (b'≠b):=rfl
def PF{b o n b':Nat}:aV (.wb b') (.wr b o n)=decide (b'≠b):=rfl
def PH{b b':Nat}:aV (.wb b) (.wb b')=decide (b≠b'):=rfl
def bA{q:dP}{o:IOp}{xs:List IV}(h:fJ o xs=some .none):bT (some q) o xs=some (some ((o.idx,.none)::q)):=by simp_all[bT,nO,if_pos,sN,C3]
section
variable {fc:dP}{dst:Option Nat}{args:List IA}{g:Option (Nat×Bool)}{amb:Bool}{idx mask:Nat}{xs:List IV}
def Lf{o:IOp}:bT none o xs=some none:=rfl
def Ic:bT (some fc) ⟨dst,.move,args,g,amb,idx,mask⟩ xs=some (some ((idx,.none)::fc)):=bA rfl
def Lg{op:BinOp}:bT (some fc) ⟨dst,.bin op,args,g,amb,idx,mask⟩ xs=some (some ((idx,.none)::fc)):=bA rfl
def PP{op:UnOp}:bT (some fc) ⟨dst,.un op,args,g,amb,idx,mask⟩ xs=some (some ((idx,.none)::fc)):=bA rfl
def If{k:IntKind}:bT (some fc) ⟨dst,.conv k,args,g,amb,idx,mask⟩ xs=some (some ((idx,.none)::fc)):=bA rfl
def Fe{z:Nat}:bT (some fc) ⟨dst,.idxSl z,args,g,amb,idx,mask⟩ xs=some (some ((idx,.none)::fc)):=bA rfl
def wo{z:Nat}:bT (some fc) ⟨dst,.fieldAddr z,args,g,amb,idx,mask⟩ xs=some (some ((idx,.none)::fc)):=bA rfl
def Fd:bT (some fc) ⟨dst,.lenSl,args,g,amb,idx,mask⟩ xs=some (some ((idx,.none)::fc)):=bA rfl
def Ib:bT (some fc) ⟨dst,.pick,args,g,amb,idx,mask⟩ xs=some (some ((idx,.none)::fc)):=bA rfl
def uD{l z:Nat}:bT (some fc) ⟨dst,.idxArrAddr l z,args,g,amb,idx,mask⟩ xs=some (some ((idx,.none)::fc)):=bA rfl
end
def agS(m k:Nat):Nat.testBit m k=decide (m / 2^k%2=1):=Nat.testBit_eq_decide_div_mod_eq
section
variable {α:Type}[Cell α]
def Gr(n0:Nat)(H:Heap)(e:Nat)(v:SV)(l:List α):Prop:=(v=.nil/\l=[])\/∃b,v=.sl b 0 l.length l.length false/\n0<=b/\l≠[]/\Own H b e l.length l
def Gr.nil{n0:Nat}{H:Heap}{e:Nat}:Gr n0 H e .nil ([]:List α):=.inl ⟨rfl,rfl⟩
def Gr.sl{n0:Nat}{H:Heap}{e:Nat}{v:SV}{l:List α}(h:Gr n0 H e v l):Sl H v l:=by rcases h with⟨rfl,rfl⟩|⟨b,rfl,_,_,q⟩;{exact dK};{exact q.sl false}
def Gr.blk{n0:Nat}{H:Heap}{e:Nat}{v:SV}{l:List α}(h:Gr n0 H e v l)(E:l≠[]):H.get v.blk=some (.cells false e (Cell.z α) (aB l)):=by rcases h with⟨_,rfl⟩|⟨b,rfl,_,_,q⟩;{exact absurd rfl E};{exact q.full}
def Gr.lower{n0 n1:Nat}{H:Heap}{e:Nat}{v:SV}{l:List α}(h:Gr n0 H e v l)(hn:n1<=n0):Gr n1 H e v l:=by rcases h with h|⟨b,q,I,E,F⟩;{exact .inl h};{exact .inr ⟨b,q,Om,E,F⟩}
def Gr.keep{n0:Nat}{H H':Heap}{e:Nat}{v:SV}{l:List α}(h:Gr n0 H e v l)(k:NZ H.n H H'):Gr n0 H' e v l:=by rcases h with h|⟨b,q,E,F,I⟩;{exact .inl h};{exact .inr ⟨b,q,E,F,I.keep k⟩}
def KeepG(n0 e z:Nat)(H H':Heap):Prop:=H.n<=H'.n/\∀x,x<H.n->(x<n0\/∀cs,H.get x≠some (.cells false e z cs))->H'.get x=H.get x
def KeepG.refl(n0 e z:Nat)(H:Heap):KeepG n0 e z H H:=⟨ao _,λ_ _ _=>rfl⟩
def KeepG.trans{n0 e z:Nat}{a b c:Heap}(h:KeepG n0 e z a b)(k:KeepG n0 e z b c):KeepG n0 e z a c:=by refine⟨de h.1 k.1,λx E F=>?_⟩;have q:=h.2 x E F;rw[<-q];exact k.2 x (cC E h.1) (by rw[q];exact F)
def KeepG.of{n0 e z:Nat}{H H':Heap}(k:NZ H.n H H'):KeepG n0 e z H H':=⟨k.1,λx h _=>k.2 x h h⟩
def KeepG.low{n0 e z:Nat}{H H':Heap}(k:KeepG n0 e z H H')(hn:n0<=H.n):NZ n0 H H':=⟨k.1,λx q E=>k.2 x E (.inl q)⟩
def KeepG.get{n0 e z x:Nat}{H H':Heap}{ob:IObj}(k:KeepG n0 e z H H')(hx:x<H.n)(E:H.get x=some ob)(q:∀cs,ob≠.cells false e z cs):H'.get x=some ob:=by rw[k.2 x hx (.inr λcs h=>q cs (by grind))];exact E
def Own.keepG{n0 e q z b cap:Nat}{H H':Heap}{l:List α}(h:Own H b e cap l)(k:KeepG n0 q z H H')(Q:e≠q):Own H' b e cap l:=by obtain⟨F,E,r,I,O⟩:=h;refine Own.same ⟨F,E,r,I,O⟩ k.1 (k.2 b E (.inr λcs T=>?_));grind
def OwnS(n0:Nat)(H:Heap)(e:Nat)(v:SV)(l:List α):Prop:=(v=.nil/\l=[])\/∃b cap ex,v=.sl b 0 l.length cap ex/\n0<=b/\Own H b e cap l
def OwnS.sl{n0:Nat}{H:Heap}{e:Nat}{v:SV}{l:List α}(h:OwnS n0 H e v l):Sl H v l:=by rcases h with⟨rfl,rfl⟩|⟨b,cap,ex,rfl,_,h⟩;{exact dK};{exact h.sl ex}
def OwnS.keep{n0:Nat}{H H':Heap}{e:Nat}{v:SV}{l:List α}(h:OwnS n0 H e v l)(k:NZ H.n H H'):OwnS n0 H' e v l:=by rcases h with h|⟨b,cap,ex,q,E,F⟩;{exact .inl h};{exact .inr ⟨b,cap,ex,q,E,F.keep k⟩}
def OwnS.keepG{n0 n1 e E z:Nat}{H H':Heap}{v:SV}{l:List α}(h:OwnS n0 H e v l)(k:KeepG n1 E z H H')(q:e≠E):OwnS n0 H' e v l:=by rcases h with h|⟨b,cap,ex,F,I,O⟩;{exact .inl h};{exact .inr ⟨b,cap,ex,F,I,O.keepG k q⟩}
def Fresh.own{n0:Nat}{H:Heap}{e:Nat}{v:SV}{l:List α}(h:Fresh n0 H e v l):OwnS n0 H e v l:=by rcases h with h|⟨b,q,E,F⟩;{exact .inl h};{exact .inr ⟨b,l.length,true,q,E,F⟩}
def Gr.own{n0:Nat}{H:Heap}{e:Nat}{v:SV}{l:List α}(h:Gr n0 H e v l):OwnS n0 H e v l:=by rcases h with h|⟨b,q,E,_,F⟩;{exact .inl h};{exact .inr ⟨b,l.length,false,q,E,F⟩}
def Gr.push{n0:Nat}{H:Heap}{e:Nat}{v:SV}{l:List α}(h:Gr n0 H e v l){a:α}{u:SV}(V:Sl H u [a]){z:Nat}(O:Cell.z α=z)(bytes lo:Nat)(ad:lo<=n0)(hn:n0<=H.n)(U:(l.length+1)*(bytes+1)<=2^40):∃q w,ev1 (.append e z bytes) [v.iv,u.iv] lo H=some (SV.iv w,q)/\KeepG n0 e z H q/\Gr n0 q e w (l++[a]):=by rcases h with⟨rfl,rfl⟩|⟨b,rfl,h2,h3,T⟩;{obtain⟨q,F,Z,I,Q⟩:=mc (e:=e) V O bytes lo (by simp) (by simpa using U);exact⟨q,.sl H.n 0 1 1 false,F,KeepG.of I,.inr ⟨H.n,rfl,hn,by simp,Q⟩⟩};{obtain⟨q,F,Z,I,Q⟩:=iC (n:=l.length) T rfl V O bytes lo (by simp) (by simpa using U) Om;refine⟨q,.sl H.n 0 (l.length+1) (l.length+1) false,F,⟨Om,λx h5 E=>I x ?_ h5⟩,.inr ⟨H.n,by simp,hn,by simp,by grind⟩⟩;rintro rfl;rcases E with E|E;{omega};{exact E _ (by rw[T.full,O])}}
def ku{H:Heap}{e z:Nat}(q:Cell.z α=z)(a:α):Own (H.new (.cells false e z (Cell.cs a))) H.n e 1 [a]:=by have:=bF (H:=H.new (.cells false e z (Cell.cs a))) (b:=H.n) (e:=e) (l:=[a]) (by rw[af];omega) q (by rw[ak,if_pos rfl]) (IX a).symm;exact this
def Gr.pushNew{n0:Nat}{H:Heap}{e:Nat}{v:SV}{l:List α}(h:Gr n0 H e v l)(a:α){z:Nat}(F:Cell.z α=z)(bytes lo:Nat)(E:lo<=n0)(hn:n0<=H.n)(O:(l.length+1)*(bytes+1)<=2^40):∃q w,ev1 (.append e z bytes) [v.iv,.slice H.n 0 1 1 true] lo (H.new (.cells false e z (Cell.cs a)))=some (SV.iv w,q)/\KeepG n0 e z H q/\Gr n0 q e w (l++[a]):=by obtain⟨q,w,I,Q,g1⟩:=(h.keep (.new _ (.cells false e z (Cell.cs a)))).push (a:=a) ((ku F a).sl true) F bytes lo E (by rw[af];omega) O;exact⟨q,w,I,(KeepG.of (.new _ _)).trans Q,g1⟩
end
def Cc{α:Type}(f:Nat->List α)(n:Nat):(List.range (n+1)).flatMap f=(List.range n).flatMap f++f n:=by rw[zW,EZ];simp
end Go.Iso
section
namespace Go.Iso
def Sw:gU []=.tuple []:=rfl
def Sv{v:IV}:gU [v]=v:=rfl
def Su{v w:IV}{l:List IV}:gU (v::w::l)=.tuple (v::w::l):=rfl
def BAS:=aq @acs (aq @afD (aq @acv (aq @jm (aq @YH (aq @aan (aq @acw (aq @JO (aq @Mr (aq @X5 (aq @X6 (aq @afE (aq @ai2 (aq @UU (aq @UV (aq @aft (aq @afu (aq @afs (aq @afv (aq @aco (aq @aeY (aq @aa1 (aq @Xx (aq @eq_self.{1} (aq @Nat.left_eq_add (aq @Nat.add_eq_left (aq @Nat.add_left_cancel_iff (aq @Nat.add_assoc (aq @QL (aq @OJ (aq @OI (aq @WM (aq @WL (aq @abo (aq @abp (aq @aez (aq @List.getD_cons_zero.{0} (aq @List.getD_cons_succ.{0} (aq @WU (aq @WV (aq @aa2 (aq @ack (aq @acj (aq @acl (aq @Ys (aq @Yt (aq @aaO (aq @YI (aq @if_true.{1} (aq @if_false.{1} (aq @Option.map_some.{0,0} (aq @Option.map_none.{0,0} (aq @Option.bind_some.{0,0} (aq @Option.bind_none.{0,0} (aq @List.nil_append.{0} (aq @List.append_nil.{0} (aq @List.cons_append.{0} (aq @List.length_cons.{0} (aq @List.length_nil.{0} (aq @Nat.zero_add (aq @abi (aq @abj (aq @Us (aq @WN (aq @beq_self_eq_true.{0} (aq @Bool.false_eq_true (aq @Bool.not_true (aq @Bool.not_false (aq @Option.getD_some.{0} (aq @Option.getD_none.{0} (aq @Mk (aq @Mj (aq @JB (aq @Mg (aq @Mh (aq @Ch (aq @Gj (aq @xW (aq @Mi (aq @Ci (aq @QD (aq @Gi (aq @By (aq @Gk (aq @xX (aq @ak (aq @af (aq @aa (aq @ai (aq @List.drop_succ_cons.{0} (aq @List.drop_zero.{0} (aq @List.take_succ_cons.{0} (aq @List.take_zero.{0} (aq @Nat.add_zero (aq @Nat.le_refl (aq @Option.some.injEq.{0} (aq @and_true (aq @true_and (aq @and_false (aq @false_and (aq @BEq.rfl.{0} (aq @uB (aq @rE (aq @T3 (aq @T4 (aq @HT (aq @K9 (aq @BX (aq @T6 (aq @HU (aq @XA (aq @K8 (aq @Fa (aq @La (aq @BY (aq @List.all_cons.{0} (aq @List.all_nil.{0} (aq @Bool.and_self (aq @Bool.and_true (aq @Bool.true_and (aq @Nat.le_add_right (aq @Nat.add_sub_cancel (aq @bne_self_eq_false.{0} (aq @Bool.false_bne (aq @Bool.bne_false (aq @Bool.or_true (aq @Bool.true_or (aq @Int.toNat_natCast (aq @Option.isSome_some.{0} (aq @acu (aq @abf (aq @abe (aq @vp (aq @QY (aq @TH (aq @TG (aq @WR (aq @WP (aq @WQ (aq @Xv (aq @Xu (aq @ne_eq.{1} (aq @not_false_eq_true (aq @ah1 (aq @ah0 (aq @cLe (aq @ahZ (aq @cLt (aq @ahY (aq @iLe (aq @ahm (aq @iLt (aq @ahl (aq @iGe (aq @aho (aq @iGt (aq @ahn (aq @ahq (aq @aeW (aq @ahp (aq @aeV (aq @aaN (aq @wU8 (aq @decide_true (aq @decide_false (aq @TK (aq @TI (aq @Xp (aq @JS (aq @jz (aq @DT (aq @ja (aq @gK (aq @fQ (aq @kX (aq @Nat.zero_mul (aq @Bool.true_eq_false (aq @Bool.false_or (aq @Bool.or_false (aq @Bool.false_and (aq @Bool.and_false (aq @not_true_eq_false (aq @Nat.sub_zero (aq @List.getElem?_cons_zero.{0} (aq @List.getElem?_cons_succ.{0} (aq @cK.eq_1 (aq @cK.eq_2 (aq @IA.eval.eq_1 (aq @IA.eval.eq_2 (aq @IA.eval.eq_3 (aq @Fr.put.eq_1 (aq @Fr.put.eq_2 (aq @dV.eq_1 (aq @dV.eq_2 (aq @di.eq_1 (aq @di.eq_2 (aq @aU.eq_1 (aq @aU.eq_2 (aq @nm.eq_1 (aq @nm.eq_2 (aq @aj.eq_1 (aq @aj.eq_2 (aq @List.set.eq_1.{0} (aq @List.set.eq_2.{0} (aq @List.set.eq_3.{0} (aq @List.drop.eq_1.{0} (aq @List.drop.eq_2.{0} (aq @List.drop.eq_3.{0} (aq @List.take.eq_1.{0} (aq @List.take.eq_2.{0} (aq @List.take.eq_3.{0} (aq @List.append.eq_1.{0} (aq @List.append.eq_2.{0} (aq @aD.eq_1 (aq @aD.eq_2 (aq @aD.eq_3 (aq @aD.eq_4 (aq @fW.eq_1 (aq @fW.eq_2 (aq @bT.eq_1 (aq @bT.eq_2 (aq @Sw (aq @Sv (aq @Su (aq @PE (aq @C3 (aq @PA (aq @Pz (aq @Py (aq @Px (aq @PC (aq @PG (aq @K4 (aq @PF (aq @PH (@agS)))))))))))))))))))))))))))))))))))))))))))))))))))))))))))))))))))))))))))))))))))))))))))))))))))))))))))))))))))))))))))))))))))))))))))))))))))))))))))))))))))))))))))))))))))))))))))))))))))))))))))))))))))))))))))))))))))))))))))
def ah:=aq @Lf (aq @Ic (aq @Lg (aq @PP (aq @If (aq @Fe (aq @wo (aq @Fd (aq @Ib (@uD)))))))))
end Go.Iso
end
namespace Go.Iso
def afx{b o n b' o' q:Nat}(h:b<b'):jy b o n b' o' q=true:=by grind[jy]
def afy{b o n b' o' q:Nat}(h:b'<b):jy b o n b' o' q=true:=by grind[jy]
def ahd:Fp->Bool|.none|.rd _ _ _=>true|_=>false
def qg:dP->Bool|[]=>true|p::q=>ahd p.2&&qg q
def PO:qg []=true:=rfl
def Lc{i:Nat}{q:dP}:qg ((i,.none)::q)=qg q:=rfl
def Uc{i b o n:Nat}{q:dP}:qg ((i,.rd b o n)::q)=qg q:=rfl
def Ub{i b o n:Nat}{q:dP}:qg ((i,.wr b o n)::q)=false:=rfl
def Db{b o n mask:Nat}:∀{q:dP},qg q=true->(q.all λp=>mask.testBit p.1||aV p.2 (.rd b o n))=true|[],_=>rfl|(i,f)::q,h=>by simp only[qg,bX] at h;rw[nq,Db h.2,vR];cases f with|none=>simp[aV]|rd=>simp[aV]|_=>cases h.1
section
variable {fc:dP}{dst:Option Nat}{args:List IA}{g:Option (Nat×Bool)}{amb:Bool}{idx mask:Nat}{xs:List IV}
def Ig:bT (some fc) ⟨dst,.call,args,g,amb,idx,mask⟩ xs=some (some ((idx,.none)::fc)):=bA rfl
def Fg{e z:Nat}{zs:List IV}:bT (some fc) ⟨dst,.alloc e z zs,args,g,amb,idx,mask⟩ xs=some (some ((idx,.none)::fc)):=bA rfl
def Ff{zs:List IV}{os:List (Nat×Nat)}:bT (some fc) ⟨dst,.build zs os,args,g,amb,idx,mask⟩ xs=some (some ((idx,.none)::fc)):=bA rfl
def AB{e z n:Nat}{zs:List IV}{os:List (Nat×Nat)}:bT (some fc) ⟨dst,.buildSl e z n zs os,args,g,amb,idx,mask⟩ xs=some (some ((idx,.none)::fc)):=bA rfl
def Ie{n:Option Nat}{b a:Nat}:bT (some fc) ⟨dst,.load n,args,g,amb,idx,mask⟩ [.ptr b a]=if qg fc=true then some (some ((idx,.rd b a (n.getD 1))::fc)) else(nO fc ⟨dst,.load n,args,g,amb,idx,mask⟩ [.ptr b a]).map some:=by simp_all[bT,nO,fJ,if_pos,Db]
end
def FR:=aq @Ig (aq @Fg (aq @Ff (aq @AB @Ie)))
def FW:=aq @PO (aq @Lc (aq @Uc (aq @Ub (aq @afx @afy))))
end Go.Iso
section
namespace Go.Iso
def J1{a b:Prop}(h:a)(k:b):a/\b:=⟨h,k⟩
def BN:=J1 @BAS (J1 @fJ.eq_def (J1 @nO.eq_def (J1 @Z3.eq_def (J1 @qO.eq_def (J1 @ev1.eq_def (J1 @fZ.eq_def (J1 @unI.eq_def (J1 @je.eq_def (J1 @LN.eq_def @dO.eq_def)))))))))
def ae:=J1 BN @Heap.write.eq_def
def gz:=J1 ae FW
def gT:=J1 ah FR
def av{H0 H1:Heap}(q:H0=H1)(x:Nat){v:Option IObj}(h:H0.get x=v:=by simp(disch:=omega)only[ae,↓ah,seval];rfl):H1.get x=v:=q▸h
def aH{n:Nat}{H H0 H1:Heap}(q:H0=H1)(a:H.n<=H1.n:=by omega)(h:∀x,x<n->x<H.n->H0.get x=H.get x:=by intros;simp(disch:=omega)only[ae,↓ah,seval]):NZ n H H1:=⟨a,q▸h⟩
end Go.Iso
end
namespace Go.Iso
def lz:∀(c:List IV)(o:Nat)(x:IV),o<c.length->aD c o [x]=c.set o x|[],_,_,h=>by simp at h|a::c,0,x,_=>by show x::aD c 0 []=_;cases c<;>rfl|a::c,o+1,x,h=>by show a::aD c o [x]=_;rw[lz c o x (by simpa using h)];rfl
section
variable {α:Type}[Cell α]
def fE(l:List α)(i:Nat)(h:i<l.length):aB l=aB (l.take i)++(Cell.cs l[i]++aB (l.drop (i+1))):=by grind[bW,eG,List.drop_eq_getElem_cons,List.take_append_drop]
def Qi(l:List α)(i f:Nat)(h:i<l.length)(F:f<Cell.z α)(x:IV)(a:α)(E:Cell.cs a=(Cell.cs l[i]).set f x):(aB l).set (i*Cell.z α+f) x=aB (l.set i a):=by have I:(aB (l.take i)).length=i*Cell.z α:=by{rw[ax,bM,pZ Om]};have q:=fE (l.set i a) i (by rw[bp];exact h);rw[fE l i h,KU _ _ Om,I,xk,List.set_append_left _ _ (by rw[Cell.len];exact F),<-E,q,jj,List.take_set,List.drop_set];rw[iP,List.set_eq_of_length_le (by rw[bM];omega)]
def Own.cell{H:Heap}{b e cap:Nat}{l:List α}(h:Own H b e cap l){z:Nat}(U:Cell.z α=z)(i f:Nat)(hi:i<l.length)(O:f<z)(x:IV)(hx:IV.one x=true)(a:α)(I:Cell.cs a=(Cell.cs l[i]).set f x)(lo:Nat)(T:lo<=b):∃o,H.write lo b (i*z+f) [x]=some (H.put b o)/\Own (H.put b o) b e cap (l.set i a):=by subst U;obtain⟨q,E,r,V,F⟩:=h;have Q:=ax l;have Z:i*Cell.z α+Cell.z α<=l.length*Cell.z α:=by{rw[<-eS];exact lG _ hi};refine⟨.cells false e (Cell.z α) (aD (aB l++r) (i*Cell.z α+f) [x]),?_,?_⟩;{unfold Heap.write;grind};{refine⟨by simp[q],E,r,?_,by simp[F]⟩;rw[aa,if_pos rfl,lz _ _ _ (by grind),List.set_append_left _ _ Om,Qi l i f hi O x a I]}
end
section
variable {α:Type}[Cell α]
def Gr.blkLt{n0:Nat}{H:Heap}{e:Nat}{v:SV}{l:List α}(h:Gr n0 H e v l)(F:l≠[]):v.blk<H.n/\n0<=v.blk:=by rcases h with⟨_,rfl⟩|⟨b,rfl,q,I,E⟩;{exact absurd rfl F};{exact⟨E.2.1,q⟩}
def Gr.pushNewO{n0:Nat}{H:Heap}{e:Nat}{v:SV}{l:List α}(h:Gr n0 H e v l)(a:α){z:Nat}(T:Cell.z α=z)(bytes lo:Nat)(ad:lo<=n0)(hn:n0<=H.n)(V:(l.length+1)*(bytes+1)<=2^40):∃q w,ev1 (.append e z bytes) [v.iv,.slice H.n 0 1 1 true] lo (H.new (.cells false e z (Cell.cs a)))=some (SV.iv w,q)/\H.n<=q.n/\(∀y,y<H.n->(l≠[]->y≠v.blk)->q.get y=H.get y)/\Gr n0 q e w (l++[a])/\H.n<=w.blk:=by have Z:Sl (H.new (.cells false e z (Cell.cs a))) (.sl H.n 0 1 1 true) [a]:=(ku T a).sl true;have kN:NZ H.n H (H.new (.cells false e z (Cell.cs a))):=.new _ _;have ag:=af H (.cells false e z (Cell.cs a));rcases h with⟨rfl,rfl⟩|⟨b,rfl,h2,h3,h4⟩;{obtain⟨q,F,e2,I,U⟩:=mc (e:=e) Z T bytes lo (by simp) (by simpa using V);exact⟨q,.sl (H.new (.cells false e z (Cell.cs a))).n 0 1 1 false,F,Om,λy E _=>(I.2 y Om Om).trans (kN.2 y E E),.inr ⟨_,rfl,Om,by simp,U⟩,by show _<=(H.new _).n;omega⟩};{obtain⟨q,F,e2,I,U⟩:=iC (n:=l.length) (h4.keep kN) rfl Z T bytes lo (by simp) (by simpa using V) Om;refine⟨q,.sl (H.new (.cells false e z (Cell.cs a))).n 0 (l.length+1) (l.length+1) false,F,Om,λy E O=>?_,.inr ⟨(H.new (.cells false e z (Cell.cs a))).n,by simp,Om,by simp,by grind⟩,by show _<=(H.new _).n;omega⟩;have Q:y≠b:=O h3;rw[I y Q Om];exact kN.2 y E E}
end
def slO(z:Nat)(H:Heap)(v:SV):Prop:=∀b o n c ex,v=.sl b o n c ex->(ex||kG H b z)=true
def SV.cut(z:Nat)(v:SV)(a n:Nat):SV:=match v with|.nil=>.nil|.sl b o _ c ex=>.sl b (o+a*z) n (c - a) ex
def SV.clip(z:Nat)(v:SV)(n:Nat):SV:=match v with|.nil=>.nil|.sl b o _ _ _=>.sl b (o+0*z) (n - 0) (n - 0) true
def VV{k n:Nat}(h:k<=n):bP n (.int .i64 (k:Int))=some k:=by show(if 0<=(k:Int)/\(k:Int)<=(n:Int) then some (k:Int).toNat else none)=_;rw[iP];simp
section
variable {α:Type}[Cell α]
def Sl.clipS{H:Heap}{v:SV}{l:List α}(h:Sl H v l){z:Nat}(q:Cell.z α=z):Sl H (v.clip z l.length) l:=by cases v with|nil=>exact h|sl b o m c ex=>have hn:=h.1;have:=h.2.1;have e:=h.part q (a:=0) (m:=l.length) (c':=l.length) (ex':=true) Om Om;rw[qb,vV] at e;exact e
def Sl.slcClip{H:Heap}{v:SV}{l:List α}(h:Sl H v l){z:Nat}{H':Heap}(hs:slO z H' v)(lo:Nat):ev1 (.slc z false true true) [v.iv,.int .i64 (l.length:Int),.int .i64 (l.length:Int)] lo H'=some ((v.clip z l.length).iv,H'):=by cases v with|nil=>have h:l=[]:=h;subst h;rfl|sl b o m c ex=>have hn:=h.1;have q:=h.2.1;have e:=hs _ _ _ _ _ rfl;simp only[ev1,SV.clip,SV.iv,e,if_true,aX,VV (show l.length<=c by omega),VV (ao l.length),dC,bN]
def Yc{H:Heap}{b e cap:Nat}{l:List α}(h:Own H b e cap l){z:Nat}(E:Cell.z α=z):kG H b z=true:=by subst E;obtain⟨F,I,r,q,O⟩:=h;unfold kG;rw[q];simp
def Gr.slO{n0:Nat}{H:Heap}{e:Nat}{v:SV}{l:List α}(h:Gr n0 H e v l){z:Nat}(O:Cell.z α=z):slO z H v:=by intro b o n c ex q;rcases h with⟨E,_⟩|⟨b',E,_,_,I⟩;{rw[E] at q;cases q};{rw[E] at q;injection q with F Q T U V;subst F;rw[Yc I O,pX]}
end
open Classical
section
variable {P:Program}{g0 lo:Nat}{μ:Mu}{H H':Heap}{w:World}{ρ:Operand->Value}{xs:List IV}{v:IV}
variable {dst:Option Tmp}{type:TypeId}{pos:String}{after:Array Edge}{guard:Option (Tmp×Bool)}
def vt:∀{q:List (IV×IV×Nat)}{l:List MapEntry}{e:MapEntry},EsR μ q l->e∈l->∃k v,(k,v,e.born)∈q/\VR μ k e.key/\VR μ v e.val|[],_,_,h,O=>by cases h;cases O|(k,v,s)::q,_,x,Q,h=>by obtain⟨e,V,rfl,F,I,U,E⟩:=Q;cases h with|head=>exact⟨k,v,by grind,F,I⟩|tail _ h=>obtain⟨T,v',a,b,c⟩:=vt E h;exact⟨T,v',fB _ a,b,c⟩
def EB(h:Rel P g0 μ H.get H.n w){x:Operand}{r b q last E:Nat}{seen:List Nat}{es:List (IV×IV×Nat)}(hg:H.get r=some (.iter (some b) q seen last))(hm:aK H b=some (es,E))(b5:lo<=r)(a4:∀e∈es,e.2.2<last)(a0:∀e∈es,e.2.2<q)(bl:∃e∈es,e.2.2∉seen)(hx:VRs μ [.ptr r 0] [ρ x]):∃k v s,(k,v,s)∈es/\s∉seen/\Gives P g0 lo μ H w (execOp ρ ⟨dst,.next x false,type,pos,after,guard⟩) (.tuple [.bool true,k,v]) (H.put r (.iter (some b) q (seen++[s]) E)):=by obtain⟨y,hy,hv⟩:=rV hx;injection hy with hy _;subst hy;obtain⟨a,a2,hl⟩:=hv;have bn:∀o,H.get r=some o->o≠.dead->∃c p ez z,μ r=.at c p ez z/\ObjR P μ o p ez z w.heap[c]?/\a=⟨c,p+0,none⟩:=by{intro o ho hd;unfold LocR at hl;cases hb:μ r with|no=>rw[hb] at hl;exact hl.elim|dead=>have:=h.ded r hb;rw[ho] at this;injection this with this;exact absurd this hd|«at» c p ez z=>rw[hb] at hl;obtain⟨ob,aE,b9⟩:=h.obj r c p ez z hb;rw[ho] at aE;injection aE with aE;subst aE;exact⟨c,p,ez,z,rfl,b9,hl⟩};obtain⟨c,p,ez,z,hb,⟨rfl,m',Q,bq⟩,ha⟩:=bn _ hg (by simp);subst ha;obtain⟨rm,cd,z2,I,ay,ce,U,ad⟩:=mT h hm bq;injection ay with ay;subst ay;have a6:=BK (f:=λs=>decide (last<=s)) ad;have bm:es≠[]:=by{obtain⟨e,he,_⟩:=bl;exact List.ne_nil_of_mem he};have a9:(!seen.toArray.isEmpty&&!I.isEmpty&&I.all λe=>decide (e.born>=last))=false:=by{have:(I.all λe=>decide (e.born>=last))=false:=by{rw[<-Array.all_toList,<-a6,EX];intro hh;cases es with|nil=>exact bm rfl|cons e es=>simp only[nq,bX,decide_eq_true_eq] at hh;have:=a4 e (so ..);omega};rw[this,Bool.and_false]};have g1:(getObj c).run P w=.ok (.mapIter (some rm) q seen.toArray last) w:=by{simp[getObj,Sem.run,Q]};have an:(I.filter λe=>!seen.toArray.contains e.born).toList=I.toList.filter λe=>!seen.contains e.born:=by{rw[Array.toList_filter];simp};have bc:=BJ (f:=λs=>!seen.contains s) ad;have f1:((I.filter λe=>!seen.toArray.contains e.born).filter λe=>decide (e.born<q))=I.filter λe=>!seen.toArray.contains e.born:=by{rw[Array.filter_eq_self];intro e he;obtain⟨k,v,O,_,_⟩:=vt ad (Array.mem_toList_iff.2 (Array.mem_filter.1 he).1);simpa using a0 _ O};have f2:((I.filter λe=>!seen.toArray.contains e.born).filter λe=>decide (e.born>=q))=#[]:=by{rw[Array.filter_eq_empty_iff];intro e he;obtain⟨k,v,O,_,_⟩:=vt ad (Array.mem_toList_iff.2 (Array.mem_filter.1 he).1);have:=a0 _ O;simp only at this;simp;omega};have a1:(I.filter λe=>!seen.toArray.contains e.born)≠#[]:=by{intro F;rw[F] at an;obtain⟨e,he,hs⟩:=bl;rw[<-an] at bc;have bd:=EsR.length bc;simp only[cZ] at bd;have:e∈es.filter λe=>!seen.contains e.2.2:=List.mem_filter.2 ⟨he,by simpa using hs⟩;rw[List.length_eq_zero_iff.1 bd] at this;cases this};generalize hL:(I.filter λe=>!seen.toArray.contains e.born)=L at *;have bw:c<w.heap.size:=(Array.getElem?_eq_some_iff.1 Q).1;have a5:∀(i:Nat)(Z:World),Z.heap=w.heap->Z.os=w.os->Z.tape=w.tape->Z.output=w.output->w.drawn<=Z.drawn->i<L.size->∃F k0 v0,L[i]? =some F/\(k0,v0,F.born)∈es/\F.born∉seen/\ (∃T,Rel P g0 T (H.put r (.iter (some b) q (seen++[F.born]) E)).get (H.put r (.iter (some b) q (seen++[F.born]) E)).n {Z with heap:=Z.heap.setIfInBounds c (.mapIter (some rm) q (seen.toArray.push F.born) E)}/\ Post lo μ H.get H.n w T (H.put r (.iter (some b) q (seen++[F.born]) E)).get (H.put r (.iter (some b) q (seen++[F.born]) E)).n {Z with heap:=Z.heap.setIfInBounds c (.mapIter (some rm) q (seen.toArray.push F.born) E)}/\ VR T (.tuple [.bool true,k0,v0]) (.tuple #[.bool true,F.key,F.val])):=by{intro i Z q1 q2 q3 q4 q5 hi;obtain⟨F,V⟩:∃F,L[i]? =some F:=⟨L[i],by simp[hi]⟩;have O:F∈L:=Array.mem_of_getElem? V;rw[<-hL] at O;obtain⟨b7,b8⟩:=Array.mem_filter.1 O;obtain⟨k0,v0,ag,b4,cc⟩:=vt ad (Array.mem_toList_iff.2 b7);obtain⟨hr,hp⟩:=h.update (lo:=lo) (w':={Z with heap:=Z.heap.setIfInBounds c (.mapIter (some rm) q (seen.toArray.push F.born) E)}) (o:=.iter (some b) q (seen++[F.born]) E) hb b5 ⟨_,hg,rfl⟩ (by simp[q1]) (λc' bt=>by simp only[q1];rw[KZ (Ne.symm bt)]) (by simp only[q1];rw[NB bw];exact⟨rfl,some rm,by simp,bq⟩) q2 q3 q4 q5;exact⟨F,k0,v0,V,ag,by simpa using b8,μ,hr,hp,⟨_,rfl,_,_,rfl,rfl,_,_,rfl,b4,_,_,rfl,cc,rfl⟩⟩};have aS:L.isEmpty=false:=by{simpa [Array.isEmpty_iff] using a1};have bo:0<L.size:=Array.size_pos_iff.2 a1;by_cases bx:L.size<=1;{obtain⟨F,k0,v0,V,ag,a3,T,h1,h2,h3⟩:=a5 0 w rfl rfl rfl rfl (ao _) bo;refine⟨k0,v0,F.born,ag,a3,.value (.tuple #[.bool true,F.key,F.val]),.tuple #[.bool true,F.key,F.val],_,T,?_,.inl rfl,h1,h2,h3⟩;simp only[execOp,Instr.next,a2,Sem.run_bind,g1,Result.andThen_ok,cn U,a9,jh,if_false,hL,f1,f2,aS];simp[choose,Sem.run,Question.forced,setObj,Q,bx,V]};{have b3:(Question.mapNext L.size).forced=false:=by{simp[Question.forced];omega};have b6:(Question.mapNext L.size).cut (w.tape w.drawn (.mapNext L.size))<L.size:=p8 _ bo;obtain⟨F,k0,v0,V,ag,a3,T,h1,h2,h3⟩:=a5 _ {w with drawn:=w.drawn+1} rfl rfl rfl rfl (oD _) b6;refine⟨k0,v0,F.born,ag,a3,.value (.tuple #[.bool true,F.key,F.val]),.tuple #[.bool true,F.key,F.val],_,T,?_,.inl rfl,h1,h2,h3⟩;simp only[execOp,Instr.next,a2,Sem.run_bind,g1,Result.andThen_ok,cn U,a9,jh,if_false,hL,f1,f2,aS];have hd:w.drew.heap=w.heap:=rfl;simp[choose,Sem.run,b3,setObj,hd,Q,V];exact⟨rfl,rfl⟩}
end
open Classical
def CallSim.lower{P:Program}{g0:Nat}{f:FuncId}{args:List IV}{lo E:Nat}{H H':Heap}{v:IV}(V:E<=lo)(h:CallSim P g0 f args lo H v H'):CallSim P g0 f args E H v H':=by intro μ w q Z U;exact(h μ w q Z U).mono λe w' ⟨v',F,I,O,Q,T⟩=>⟨v',F,I,O,Q.lower V,T⟩
def NItem(P:Program)(g0 lo:Nat)(O:Item)(rd:Option Nat)(fr:Fr)(H:Heap)(Q:A1):Prop:=∀(μ:Mu)(w:World)(t:Array Value)(r:Option Nat)(ds:List Deferred),Rel P g0 μ H.get H.n w->VRs μ fr.tm t.toList->RdR μ rd r->DsR μ fr.marks ds->∀(f:FuncId)(k:List Item)(cs:List Frame),∃e E H' q w' I F,Q (.ex e E) H'/\Rel P g0 q H'.get H'.n w'/\Post lo μ H.get H.n w q H'.get H'.n w'/\VRs q E.tm I.toList/\DsR q E.marks F/\ Arr P f r I F cs w' (lone (cq f r t ds (O::k)) cs w) k e
section
variable {P:Program}{E:Env}{g0 lo:Nat}{rd:Option Nat}{fr:Fr}{H:Heap}{Q Q':A1}
def NItem.mono{O:Item}(h:NItem P g0 lo O rd fr H Q)(hq:∀e q H',Q (.ex e q) H'->Q' (.ex e q) H'):NItem P g0 lo O rd fr H Q':=by intro μ w t r ds U V I F f k cs;obtain⟨e,q,H',Z,w1,t1,T,a0,a1,a2,a3,a4,a5⟩:=h μ w t r ds U V I F f k cs;grind
def JU{O:Item}{e:Ex}{q:Fr}{H':Heap}(h:ItemSim P g0 lo O rd fr H e q H')(hq:Q (.ex e q) H'):NItem P g0 lo O rd fr H Q:=by intro μ w t r ds U V I F f k cs;obtain⟨Z,w1,t1,T,a1,a2,a3,a4,a5⟩:=h μ w t r ds U V I F f k cs;grind
def jA(O:EnvOk P E){c:Code}{F:IC}(T:bg P c=some F)(h:W E lo (.code F rd fr) H Q):NItem P E.g0 lo (.code c) rd fr H Q:=by obtain⟨n,o,H',q,U⟩:=h;obtain⟨e,I,rfl,hs⟩:=Bv (yK O n) n (ao _) c F rd fr lo H o H' T q;exact JU hs U
def NItem.seq{T U q:Item}(hs:∀f r t ds k cs w,step P (lone (cq f r t ds (T::k)) cs w)=.next (lone (cq f r t ds (U::q::k)) cs w))(ay:∀id k,exitTo id (q::k)=exitTo id k)(h1:NItem P g0 lo U rd fr H λo H1=>match o with|.ex .normal F=>NItem P g0 lo q rd F H1 Q|o=>Q o H1):NItem P g0 lo T rd fr H Q:=by intro μ w t r ds hr ht O an f k cs;obtain⟨e,F,H1,V,w1,t1,I,a0,a1,Z,a3,a4,a5⟩:=h1 μ w t r ds hr ht O an f (q::k) cs;cases e with|normal=>obtain⟨e2,ag,H2,aE,w2,t2,ad,b0,b1,b2,b3,b4,b5⟩:=a0 V w1 t1 r I a1 a3 (O.mono Z.le) a4 f k cs;exact⟨e2,ag,H2,aE,w2,t2,ad,b0,b1,Z.trans b2,b3,b4,b5.head (Steps.head (hs f r t ds k cs w) a5)⟩|jmp j=>exact⟨.jmp j,F,H1,V,w1,t1,I,a0,a1,Z,a3,a4,(a5.skipItem ay).head (.one (hs f r t ds k cs w))⟩
def NItem.seqC{a b:Code}(F:NItem P g0 lo (.code a) rd fr H λo H1=>match o with|.ex .normal q=>NItem P g0 lo (.code b) rd q H1 Q|o=>Q o H1):NItem P g0 lo (.code (.seq a b)) rd fr H Q:=NItem.seq (λf r t ds k cs w=>Ky) (xz b) F
def Gu{id:Nat}{c:Code}(h:NItem P g0 lo (.code c) rd fr H λo H'=>match o with|.ex (.jmp (.exit q)) ad=>Q (.ex (if q=id then .normal else .jmp (.exit q)) ad) H'|o=>Q o H'):NItem P g0 lo (.code (.block id c)) rd fr H Q:=by intro μ w t r ds hr ht an ag f k cs;obtain⟨e1,I,H1,O,w1,t1,F,T,U,V,Z,a4,a5⟩:=h μ w t r ds hr ht an ag f (.inBlock id::k) cs;have st:step P (lone (cq f r t ds (.code (.block id c)::k)) cs w)=.next (lone (cq f r t ds (.code c::.inBlock id::k)) cs w):=Ha;cases e1 with|normal=>exact⟨.normal,I,H1,O,w1,t1,F,T,U,V,Z,a4,Steps.head st (Steps.trans a5 (.one zp))⟩|jmp j=>obtain⟨pre,b1,b2⟩:=a5;cases j with|ret=>exact⟨.jmp .ret,I,H1,O,w1,t1,F,T,U,V,Z,a4,pre++[.inBlock id],Steps.head st (by simpa using b1),λq e=>by cases e⟩|exit q=>refine⟨_,I,H1,O,w1,t1,F,T,U,V,Z,a4,?_⟩;have hx:=b2 q rfl;rw[qC] at hx;by_cases he:q=id;{subst he;simp only[if_true] at hx⊢;exact Steps.head st (b1.trans (.one (Nu hx)))};{rw[if_neg (Ne.symm he)] at hx;rw[if_neg he];refine⟨pre++[.inBlock id],Steps.head st (by simpa using b1),λay e=>?_⟩;grind}
def NItem.inLoop{c:Code}(Inv:Nat->Fr->Heap->Prop)(T:∀n fr H,Inv n fr H->NItem P g0 lo (.code c) rd fr H λo H'=>match o with|.ex .normal q=>∃m,m<n/\Inv m q H'|o=>Q o H'):∀n fr H,Inv n fr H->NItem P g0 lo (.inLoop c) rd fr H Q:=by intro n;induction n using Nat.strongRecOn with|_ n U=>intro fr H O;refine NItem.seq (λf r t ds k cs w=>vE) (jE c) ((T n fr H O).mono λe q H' I=>?_);cases e with|normal=>obtain⟨m,hm,F⟩:=I;exact U m hm q H' F|jmp j=>exact I
def NItem.loopC{c:Code}(Inv:Nat->Fr->Heap->Prop)(n:Nat)(h0:Inv n fr H)(I:∀n fr H,Inv n fr H->NItem P g0 lo (.code c) rd fr H λo H'=>match o with|.ex .normal q=>∃m,m<n/\Inv m q H'|o=>Q o H'):NItem P g0 lo (.code (.loop c)) rd fr H Q:=by refine NItem.seq (λf r t ds k cs w=>Ey) (jE c) ((I n fr H h0).mono λe q H' O=>?_);cases e with|normal=>obtain⟨m,hm,F⟩:=O;exact NItem.inLoop Inv I m q H' F|jmp j=>exact O
def NOp(P:Program)(g0:Nat)(o:Oper)(lo:Nat)(xs:List IV)(H:Heap)(R:IV->Heap->Prop):Prop:=∀(μ:Mu)(w:World)(t:Array Value),Rel P g0 μ H.get H.n w->VRs μ xs (o.op.operands.toList.map (eH t))->∀(f:FuncId)(rd:Option Nat)(ds:List Deferred)(k:List Item)(cs:List Frame)(ops:Array Oper)(i:Nat)(q:List Nat),∃(v:IV) (H':Heap) (v':Value) (w':World) (F:Mu),R v H'/\Rel P g0 F H'.get H'.n w'/\Post lo μ H.get H.n w F H'.get H'.n w'/\VR F v v'/\ (ops[i]? =some o->Region.wanted o (yielded ops t)=true->Steps P (lone (cq f rd t ds (.inRegion ops (i::q)::k)) cs w) (lone (cq f rd (pG t o.dst v') ds (.inRegion ops q::k)) cs w'))
def NItem.region(hE:EnvOk P E){id:Nat}{ops:Array Oper}{pre post:List IOp}{io:IOp}(U:dq P ops false=some [(.seq,pre++io::post)])(hg:io.guard=none){R:IV->Heap->Prop}(aE:W E lo (.ops none pre rd fr) H λo H1=>∃q xs,o=.ex .normal q/\cK E.g0 q.tm io.args=some xs/\ (∀o,dg P o.op=some io.kd->NOp P E.g0 o lo xs H1 R)/\ ∀v H2,R v H2->W E lo (.ops none post rd (q.put io.dst v)) H2 λo H'=>∃ag,o=.ex .normal ag/\Q (.ex .normal ag) H'):NItem P E.g0 lo (.code (.region id ops false)) rd fr H Q:=by simp only[dq] at U;cases h1:ops.toList.mapM (iY P ops) with|none=>rw[h1] at U;cases U|some l=>rw[h1] at U;simp only[uq,bN,jh,if_false] at U;have U:l=pre++io::post:=by{grind};subst U;obtain⟨hl,av⟩:=ql h1;obtain⟨n,o,H1,aS,q,xs,rfl,a9,a6,V⟩:=aE;obtain⟨bm,S1,e1,O⟩:=rD (N:=n) pre n (ao _) _ _ _ _ _ aS;injection e1 with _ e1;subst e1;have ay:∀(j:Nat)(F:IOp),(pre++io::post)[j]? =some F->∃o,ops[j]? =some o/\OpOk P ops o F:=λj F hj=>by{obtain⟨o,q1,q2⟩:=av j F hj;obtain⟨e3,e4,e5,e6⟩:=m7 q2;exact⟨o,by simpa using q1,e3,e4,e5,e6⟩};have an:ops.size=pre.length+(post.length+1):=by{grind};intro μ w t r ds hr ht bq a5 f k cs;have dm:List.range ops.size=List.range' 0 pre.length++(pre.length::List.range' (pre.length+1) post.length):=by{rw[KS,an,<-List.range'_append_1,cY,EU]};obtain⟨bc,t1,w1,a1,a2,a3,a4⟩:=yq (a:=0) (ops:=ops) (yK hE n) (λj F hj=>by have bo:=(List.getElem?_eq_some_iff.1 hj).1;simp_all[zR,cY]) O hr ht f r ds k cs (pre.length::List.range' (pre.length+1) post.length);obtain⟨o,ho,I⟩:=ay pre.length io (by simp);have ad:Region.wanted o (yielded ops t1)=true:=by{rw[oe I.guard (by simpa using a3.length) (λd w' _=>iU a3 d),hg];rfl};have a0:=eZ a1 I.args a9 (λi _=>iU a3 i);obtain⟨v,H2,v',w2,bd,b0,b1,b2,b3,b4⟩:=a6 o I.kd bc w1 t1 a1 a0 f r ds k cs ops pre.length (List.range' (pre.length+1) post.length);have b4:=b4 ho ad;have b5:VRs bd (q.put io.dst v).tm (pG t1 o.dst v').toList:=by{rw[I.dst];cases o.dst with|none=>exact VRs.mono b2.le _ _ a3|some d=>simp only[Fr.put,pG,xo];exact(VRs.mono b2.le _ _ a3).set d b3};obtain⟨n3,o3,H3,Z,fr3,rfl,hq⟩:=V v H2 b0;obtain⟨bn,S3,e3,T⟩:=rD (N:=n3) post n3 (ao _) _ _ _ _ _ Z;injection e3 with _ e3;subst e3;obtain⟨bl,t3,w3,c1,c2,c3,c4⟩:=yq (a:=pre.length+1) (ops:=ops) (yK hE n3) (λj F hj=>by obtain⟨o,q1,q2⟩:=ay (pre.length+1+j) F (by grind);exact⟨o,q1,q2⟩) T b1 b5 f r ds k cs [];rw[fS] at c4;refine⟨.normal,fr3,H3,bl,w3,t3,ds,hq,c1,(a2.trans b2).trans c2,c3,?_,?_⟩;{have hm:fr3.marks=fr.marks:=by{rw[T.marks];have:(q.put io.dst v).marks=q.marks:=by{cases io.dst<;>rfl};rw[this,O.marks]};rw[hm];exact a5.mono ((a2.trans b2).trans c2).le};{refine Steps.head CA ?_;rw[dm];exact a4.trans (b4.trans (c4.trans (.one mP)))}
def NOp.next{o:Oper}(O:dg P o.op=some .nextM){r b q last F:Nat}{seen:List Nat}{T:List (IV×IV×Nat)}(hg:H.get r=some (.iter (some b) q seen last))(hm:aK H b=some (T,F))(ad:lo<=r)(I:∀e∈T,e.2.2<last)(U:∀e∈T,e.2.2<q)(ag:∃e∈T,e.2.2∉seen):NOp P g0 o lo [.ptr r 0] H λv H'=>∃k x s,(k,x,s)∈T/\s∉seen/\v=.tuple [.bool true,k,x]/\H'=H.put r (.iter (some b) q (seen++[s]) F):=by intro μ w t hr hx f rd ds k cs ops i aS;obtain⟨y,V⟩:∃y,o.op=.next y false:=by{cases ho:o.op<;>rw[ho] at O<;>simp only[dg,IB,a7,gE,gG] at O;(all_goals (repeat' split at O));(all_goals (try simp only[gG,gE,reduceCtorEq,and_false,exists_false] at O));all_goals first|(cases O;done)|exact⟨_,rfl⟩|grind};obtain⟨dst,op,type,pos,after,guard⟩:=o;simp only at V;subst V;have hx:VRs μ [.ptr r 0] [eH t y]:=by{simpa [Op.operands] using hx};obtain⟨k0,v0,s0,h1,h2,nx,v',w',aE,Z,an,ay,hp,hv⟩:=EB (dst:=dst) (type:=type) (pos:=pos) (after:=after) (guard:=guard) (ρ:=eH t) hr hg hm ad I U ag hx;exact⟨_,_,v',w',aE,⟨k0,v0,s0,h1,h2,Rr⟩,ay,hp,hv,λho hw=>.one (G9 ho hw (AP O) Z an)⟩
def Ow(P:Program)(g0:Nat)(f:FuncId)(args:List IV)(lo:Nat)(H:Heap)(R:IV->Heap->Prop):Prop:=∀(μ:Mu)(w:World)(q:Array Value),Rel P g0 μ H.get H.n w->VRs μ args q.toList->Calls P f q w λe w'=>∃(v:IV) (H':Heap) (v':Value) (F:Mu),R v H'/\e=.returned v'/\Rel P g0 F H'.get H'.n w'/\Post lo μ H.get H.n w F H'.get H'.n w'/\VR F v v'
def NOp.call{o:Oper}(hk:dg P o.op=some .call){g:FuncId}{q cap args:List IV}{fn:Func}{body:Code}(hf:P.funcs[g]? =some fn)(hb:fn.body=some body)(hn:(fn.name=="runtime.NumGoroutine")=false){R:IV->Heap->Prop}(h:Ow P g0 g (q++args++cap) lo H R):NOp P g0 o lo (.fn g q cap::args) H R:=by obtain⟨fo,F,ts,ho⟩:=NP hk;intro μ w t hr hx f rd ds k cs ops i ad;have V:o.op.operands.toList.map (eH t)=eH t fo::F.toList.map (eH t):=by{rw[ho];simp[Op.operands,Call.operands]};rw[V] at hx;obtain⟨y,yl,hy,aS,T⟩:=hx;simp only[il] at hy;obtain⟨rfl,rfl⟩:=hy;obtain⟨l',r',ag,hl,aE⟩:=aS;have T:VRs μ args (F.map (eH t)).toList:=by{simpa using T};have a0:VRs μ (q++args++cap) ((l'++F.map (eH t))++r').toList:=by{rw[zN,zN];exact(hl.append T).append aE};obtain⟨e,w',fr,⟨v,H',v',a1,hR,rfl,ay,hp,hv⟩,O,a2,I⟩:=h μ w _ hr a0 (cq f rd t ds (.inRegion ops (i::ad)::k)::cs);refine⟨v,H',v',w',a1,hR,ay,hp,hv,λU hw=>?_⟩;rw[<-oR U];have Z:(execOp (eH t) o).run P w=.ok (.enter g ((l'++F.map (eH t))++r')) w:=by{have an:¬fn.name="runtime.NumGoroutine":=by{simpa using hn};simp only[execOp,ho,resolve,ag];simp[Deferred.ofValue,invoke,callFunc,hf,an,hb]};refine Steps.head (step_lone_go ?_) (Steps.trans O (.one (step_leave_returned I)));rw[pN U hw (λc e=>by rw[ho] at e;cases e),qv];simp only[stepG.apply,Sem.runT_eq,Z,if_true,GStep.bare_after];simp_all[cq]
end
open Go.Sort Go.Proofs Go.Shelf
section
variable {P:Program}{g0 lo:Nat}{μ:Mu}{H:Heap}{w:World}
def Po{n n':Nat}{g g':Gt}{T:Mu}{w':World}(E:Post n μ g n w T g' n' w'):∃q os,w'=grow (w.drewN q) os:=by have V:w'.heap=w.heap++w'.heap.extract w.heap.size w'.heap.size:=by{apply Array.ext_getElem?;intro i;by_cases hi:i<w.heap.size;{rw[Array.getElem?_append_left hi];exact E.frame i hi λb p ez z O Q=>Om};grind};refine⟨w'.drawn - w.drawn,w'.heap.extract w.heap.size w'.heap.size,?_⟩;have O:=E.os;have Q:=E.tape;have U:=E.output;have h4:=E.drawn;obtain⟨h,t,d,o,u⟩:=w;obtain⟨I,Z,F,o',u'⟩:=w';simp only at O Q U h4 V⊢;subst O Q U;show World.mk I Z F o' u'=World.mk (h++I.extract h.size I.size) Z (d+(F - d)) o' u';rw[<-V,show d+(F - d)=F by omega]
def IQ(os:Array Obj){c:Nat}(q:c<w.heap.size):(grow w os).heap[c]? =w.heap[c]?:=Array.getElem?_append_left q
def Rel.grown{g:Gt}{n:Nat}(h:Rel P g0 μ g n w)(os:Array Obj):Rel P g0 μ g n (grow w os):=⟨h.lt,h.inj,λb c p ez z q=>by rw[IQ os (h.clt q)];exact h.obj b c p ez z q,h.glob,h.ded⟩
def Post.grown{g:Gt}{n:Nat}(h:Rel P g0 μ g n w)(os:Array Obj):Post lo μ g n w μ g n (grow w os) where le:=μ.le_refl;hn:=ao _;old:=λ_ _ h=>h;low:=λ_ _ _=>⟨rfl,rfl⟩;own:=λ_ _ h=>h;new:=λb c p ez z I e=>absurd (h.lt b (by grind)) Om;full:=λb E F=>Om;size:=by{simp_all};frame:=λc q _=>IQ os q;os:=rfl;tape:=rfl;output:=rfl;drawn:=ao _
def toV:IV->Value|.int k n=>.int k n|_=>undef
def NQ:IV->Bool|.int _ _=>true|_=>false
def vq:∀{L:List IV}{vs:List Value},L.all NQ=true->(VRs μ L vs↔vs=L.map toV)|[],vs,_=>by constructor<;>exactλh=>h|x::L,vs,h=>by simp only[nq,bX] at h;have F:=λvs=>vq (L:=L) (vs:=vs) h.2;obtain⟨k,n,rfl⟩:∃k n,x=.int k n:=by{cases x with|int k n=>exact⟨k,n,rfl⟩|_=>exact absurd h.1 (by simp[NQ])};constructor;{rintro⟨y,ys,rfl,q,E⟩;have q:=q;rw[q,(F ys).1 E];rfl};{rintro rfl;exact⟨_,_,rfl,rfl,(F _).2 rfl⟩}
theorem BW(F:Array Value)(cs:Array Value)(h:F.size<=cs.size):(putCells id 0 F cs).toList.take F.size=F.toList:=by apply vW;intro i;rw[List.getElem?_take];by_cases hi:i<F.size;{rw[if_pos hi,CQ,CQ];unfold putCells;rw[Array.getElem?_mapIdx,zQ (by omega:i<cs.size)];simp only[dC];rw[iP,oG,getElem!_pos F i hi,zQ hi];rfl};grind
def Xn(h:Rel P g0 μ H.get H.n w){b c e ez z:Nat}{cs q:List IV}(U:μ b=.at c 0 ez z)(Q:lo<=b)(V:H.get b=some (.cells false e ez cs)){F:Array Value}(Z:VRs μ q F.toList)(hl:q.length=cs.length)(m:Nat):Rel P g0 μ (H.put b (.cells false e ez q)).get (H.put b (.cells false e ez q)).n (putRow id (Sort.ahead w m) c 0 F)/\Post lo μ H.get H.n w μ (H.put b (.cells false e ez q)).get (H.put b (.cells false e ez q)).n (putRow id (Sort.ahead w m) c 0 F):=by obtain⟨o,E,T⟩:=h.obj b c 0 ez z U;rw[V] at E;injection E with E;subst E;obtain⟨_,_,I,hc,hz,ad,hv⟩:=T;have ag:F.size=q.length:=by{rw[<-sq,Z.length]};refine h.update U Q ⟨_,V,rfl⟩ (by show(w.heap.modify c _).size=_;rw[Array.size_modify]) (λc' O=>by show(w.heap.modify c _)[c']? =_;rw[Array.getElem?_modify,if_neg (Ne.symm O)]) ?_ rfl rfl rfl (Nat.le_add_right _ _);refine⟨rfl,rfl,putCells id 0 F I,?_,?_,Om,?_⟩;{show(w.heap.modify c _)[c]? =_;rw[Array.getElem?_modify,if_pos rfl,hc];rfl};{unfold putCells;rw[Array.size_mapIdx];exact hz};grind[BW]
section
variable {α:Type}[Inhabited α]
def zK:∀(l:List Value),(List.range l.length).map (λt=>l[t]!)=l:=by intro l;apply fT (by simp);grind
def Fw(enc:α->List Value)(k:Nat)(F:∀x,(enc x).length=k)(E:0<k):∀(l:List α),(flatK enc k l.toArray).toList=l.flatMap enc:=by have key:∀(l:List α),(List.range (l.length*k)).map (λt=>(enc l[t / k]!)[t%k]!)=l.flatMap enc:=by{intro l;induction l with|nil=>simp|cons a l I=>rw[cQ,eS,Nat.add_comm,List.range_add,fA,List.flatMap_cons,<-I];congr 1;{(conv=>rhs;rw[<-zK (enc a),F]);apply Af;intro t q;have q:=List.mem_range.1 q;rw[Nat.div_eq_of_lt q,Nat.mod_eq_of_lt q];rfl};{rw[pW];apply Af;intro t _;show(enc (a::l)[(k+t) / k]!)[(k+t)%k]! =_;rw[Nat.add_div_left _ E,Nat.add_mod_left];rfl}};simp_all[flatK,Array.toList_map,Array.toList_range]
end
section
variable {α:Type}[Inhabited α][Cell α]
def tg(x:α):List Value:=(Cell.cs x).map toV
omit [Inhabited α] in theorem I5(x:α):(tg x).length=Cell.z α:=by unfold tg;rw[bG,Cell.len]
omit [Inhabited α] in theorem Qs(l:List α):l.flatMap tg=(aB l).map toV:=by unfold aB tg;rw[List.map_flatMap]
def JQ(E:α->α->Int)(b e ez:Nat)(l:List α)(H:Heap)(v:IV)(H':Heap):Prop:=v=.tuple []/\∃q:List α,q.Perm l/\q.Pairwise (λx y=>ltOf E y x=false)/\H'.n=H.n/\(∀x,x≠b->H'.get x=H.get x)/\H'.get b=some (.cells false e ez (aB q))
def zt{ρ:Ren}(L:SlLaysF0.n6 P ρ)(F:∀x:α,(Cell.cs x).all NQ=true)(aE:∀w,(isAgg (ρ.t 24)).run P w=.ok true w)(zE:∀w,(Go.sizeOf (ρ.t 24)).run P w=.ok (Cell.z α) w)(cf:α->α->Int)(hO:SWO (ltOf cf)){g b e ez lb:Nat}{ex:Bool}{l:List α}(bo:lo<=b)(hg:H.get b=some (.cells false e ez (aB l)))(bq:l.length<4611686018427387904)(eg:∀args w,(callFunc g args).run P w=.ok (.enter g args) w)(a4:∀(x y:α)(H':Heap),∃a2,CallSim P g0 g [.agg (Cell.cs x),.agg (Cell.cs y)] H'.n H' (.int .i64 (cf x y)) a2):Ow P g0 (ρ.f 6) [.slice b 0 l.length lb ex,.fn g [] []] lo H (JQ cf b e ez l H):=by intro μ w an hr ha;obtain⟨v1,b4,e1,bt,v2,b5,rfl,bw,rfl⟩:=ha;obtain⟨a,cap,rfl,ad,Q⟩:=bt;obtain⟨l1,r1,rfl,I,O⟩:=bw;have I:=I;have O:=O;have I:=Array.toList_eq_nil_iff.1 I;have O:=Array.toList_eq_nil_iff.1 O;subst I O;have aS:an=#[.slice (some a) l.length cap,.func (.func g) #[] #[]]:=by{apply sH;rw[e1]};subst aS;have a9:∃c q z,μ b=.at c 0 q z/\q=ez/\(cap=0\/a=⟨c,0,none⟩):=by{unfold SlR at Q;cases hb:μ b with|no=>rw[hb] at Q;exact Q.elim|dead=>have:=hr.ded b hb;rw[hg] at this;injection this with this;cases this|«at» c p q z=>rw[hb] at Q;obtain⟨o,T,a1⟩:=hr.obj b c p q z hb;rw[hg] at T;injection T with T;subst T;obtain⟨rfl,rfl,_⟩:=a1;exact⟨c,_,z,rfl,rfl,by simpa using Q.1⟩};obtain⟨c,q,z,hb,rfl,a0⟩:=a9;by_cases ag:l=[];{subst ag;exact(AnyF.slices_SortFunc_none L (some a) cap _ w).mono λe' w' ⟨V,h2⟩=>by subst V h2;exact⟨.tuple [],H,.tuple #[],μ,⟨rfl,[],.refl _,.nil,rfl,λ_ _=>rfl,hg⟩,rfl,hr,Post.refl hr,⟨#[],Rr⟩⟩};have bx:=List.length_pos_iff.2 ag;have ha:a=⟨c,0,none⟩:=by{rcases a0 with h|h;{have V:=ad.1;have h2:=ad.2.1;omega};{exact h}};subst ha;have Z:∀l:List α,(aB l).all NQ=true:=λl=>by{unfold aB;rw[List.all_flatMap,sN];exactλx _=>F x};have hF:∀d:Array α,(flatK tg (Cell.z α) d).toList=(aB d.toList).map toV:=λd=>by{rw[<-Qs,<-Fw tg (Cell.z α) I5 Cell.pos]};have a6:∀d:Array α,VRs μ (aB d.toList) (flatK tg (Cell.z α) d).toList:=λd=>(vq (Z _)).2 (hF d);obtain⟨o,T,a1⟩:=hr.obj b c 0 q z hb;rw[hg] at T;injection T with T;subst T;obtain⟨_,_,ay,hc,hz,b3,hv⟩:=a1;have bd:ay.toList.take (aB l).length=(flatK tg (Cell.z α) l.toArray).toList:=by{rw[hF];exact(vq (Z _)).1 hv};have a3:=(Array.getElem?_eq_some_iff.1 hc).1;have hH:HoldsK tg (Cell.z α) w c 0 l.toArray:=by{intro j hj;have bn:j<(aB l).length:=by{rw[ax];simpa using hj};refine⟨?_,?_⟩;{unfold World.cell?;simp only[hc,vY,jh,if_false,cY];have V:(ay.toList.take (aB l).length)[j]? =ay[j]?:=by{rw[List.getElem?_take,if_pos bn,CQ]};rw[<-V,bd,CQ,zQ hj,getElem!_pos _ j hj];rfl};{unfold World.frozen?;simp only[hc];simp}};have hW:∀(d:Array α)(m:Nat)(os:Array Obj),d.size=l.length->Rel P g0 μ (H.put b (.cells false e q (aB d.toList))).get (H.put b (.cells false e q (aB d.toList))).n (sortWorldK tg (Cell.z α) w c 0 m d os)/\ Post lo μ H.get H.n w μ (H.put b (.cells false e q (aB d.toList))).get (H.put b (.cells false e q (aB d.toList))).n (sortWorldK tg (Cell.z α) w c 0 m d os):=by{intro d m os hd;obtain⟨r1,p1⟩:=Xn (lo:=lo) hr hb bo hg (a6 d) (by rw[ax,ax,sq,hd]) m;exact⟨r1.grown os,p1.trans (Post.grown r1 os)⟩};have bc:CmpLays P g #[] tg (Cell.z α) cf c 0 l.toArray.size w:=by{intro m os dk bl x y;obtain⟨r1,_⟩:=hW dk m os (by simpa using bl);obtain⟨a2,hs⟩:=a4 x y (H.put b (.cells false e q (aB dk.toList)));have hx:∀x:α,VR μ (.agg (Cell.cs x)) (.agg (tg x).toArray):=λx=>⟨_,rfl,(vq (F x)).2 rfl⟩;refine(hs μ _ _ r1 ⟨_,_,rfl,hx x,_,_,rfl,hx y,rfl⟩).mono λe' w' ⟨v',b6,V,_,h3,h4⟩=>?_;have h4:=h4;subst V h4;exact⟨rfl,Po h3⟩};have a5:∀x:α,∀v∈tg x,v.oneCell'=true:=by{intro x v hv;obtain⟨y,hy,rfl⟩:=List.mem_map.1 hv;have:=List.all_eq_true.1 (F x) y hy;cases y<;>first|(cases this;done)|rfl};have E:=AnyQ.slices_SortFunc L (Cell.z α) aE zE tg I5 a5 cf hO g #[] c 0 cap l.toArray w eg bc hH a3 (by simpa using bq);rw[Aa] at E;refine E.mono λe' w' ⟨V,U,m,os,hp,hs,hw⟩=>?_;subst V hw;have hd:U.size=l.length:=by{simpa using hp.1};obtain⟨r1,p1⟩:=hW U m os hd;refine⟨.tuple [],H.put b (.cells false e q (aB U.toList)),.tuple #[],μ,⟨rfl,U.toList,?_,?_,rfl,λx hx=>by rw[aa,if_neg (Ne.symm hx)],by rw[aa,if_pos rfl]⟩,rfl,r1,p1,⟨#[],Rr⟩⟩;{have:=hp.2.2;have e1:U.extract 0 l.length=U:=by{rw[<-hd];exact Array.extract_size};have e2:l.toArray.extract 0 l.length=l.toArray:=by{rw[<-Aa];exact Array.extract_size};rw[e1,e2] at this;simpa using this};{rw[zP];intro i j hi hj bm;have:=hs i j (dB _) bm (by rw[<-hd,<-sq];exact hj);rw[getElem!_pos U i (by simpa using hi),getElem!_pos U j (by simpa using hj)] at this;simpa using this}
end
end
open Classical
def T8:IV->Bool|.int _ _=>true|.bool _=>true|.ns=>true|.slice _ _ _ _ _=>true|_=>false
section
variable {P:Program}{g0 lo:Nat}
def iz{c:Code}{x y:IC}(h:bg P c=some (.seq x y)):∃a b,c=.seq a b/\bg P a=some x/\bg P b=some y:=by cases c<;>simp only[bg,gE,uq,gG,vS,mC,reduceCtorEq,and_false,exists_false] at h;grind
def wM{c:Code}{l:List (Sg×List IOp)}(h:bg P c=some (.ops l)):∃id ops q,c=.region id ops q/\dq P ops q=some l:=by cases c<;>simp only[bg,gE,uq,gG,vS,mC,reduceCtorEq,and_false,exists_false] at h;grind
def Js{c:Code}{x:IC}{n:Nat}(h:bg P c=some (.block n x)):∃a,c=.block n a/\bg P a=some x:=by cases c<;>simp only[bg,gE,uq,gG,vS,mC,reduceCtorEq,and_false,exists_false] at h;grind
def L8{c:Code}{x:IC}(h:bg P c=some (.loop x)):∃a,c=.loop a/\bg P a=some x:=by cases c<;>simp only[bg,gE,uq,gG,vS,mC,reduceCtorEq,and_false,exists_false] at h;grind
end
open Classical
def BV(q:Nat->Nat):IV->IV|.slice b o n lb ex=>.slice (q b) o n lb ex|v=>v
def nmC(n:Nat):IV->Prop|.slice b _ _ _ _=>b<n|_=>True
def KJ{μ q:Mu}{E:Nat->Nat}{n:Nat}(hm:∀b,b<n->q b=μ (E b)\/q b=.dead):∀{v:IV}{v':Value},T8 v=true->nmC n v->VR μ (BV E v) v'->VR q v v'|.int _ _,_,_,_,h=>h|.bool _,_,_,_,h=>h|.ns,_,_,_,h=>h|.slice b o n lb ex,_,_,O,h=>by obtain⟨a,cap,e,F,I⟩:=h;refine⟨a,cap,e,F,?_⟩;unfold SlR at I⊢;rcases hm b O with e|e<;>grind
def mz{μ q:Mu}{I:Nat->Nat}{n:Nat}(hm:∀b,b<n->q b=μ (I b)\/q b=.dead):∀{cs:List IV}{l:List Value},cs.all T8=true->(∀c∈cs,nmC n c)->VRs μ (cs.map (BV I)) l->VRs q cs l|[],_,_,_,h=>h|c::cs,_,E,F,h=>by simp only[nq,bX] at E;obtain⟨y,ys,e,O,Q⟩:=h;exact⟨y,ys,e,KJ hm E.1 (F c so) O,mz hm E.2 (λc T=>F c (fB _ T)) Q⟩
section
variable {μ μ1 μ':Mu}
def BI(μ μ1 μ':Mu):Prop:=∀b,μ b≠.no->μ' b=μ1 b\/μ' b=.dead
def LocR.swap(hs:BI μ μ1 μ'){b o:Nat}{q a:Addr}(h0:LocR μ b o q)(h:LocR μ1 b o a):LocR μ' b o a:=by have hn:μ b≠.no:=by{intro e;unfold LocR at h0;rw[e] at h0;exact h0};unfold LocR at h⊢;rcases hs b hn with e|e<;>grind
def SlR.swap(hs:BI μ μ1 μ'){b o c0 cap:Nat}{ex:Bool}{q a:Addr}(h0:SlR μ b o ex c0 q)(h:SlR μ1 b o ex cap a):SlR μ' b o ex cap a:=by have hn:μ b≠.no:=by{intro e;unfold SlR at h0;rw[e] at h0;exact h0};unfold SlR at h⊢;rcases hs b hn with e|e<;>grind
mutual
def VR.swap(hs:BI μ μ1 μ'):∀(x:IV)(U v:Value),VR μ x U->VR μ1 x v->VR μ' x v|.bool _,_,_,_,h=>h|.int _ _,_,_,_,h=>h|.str _,_,_,_,h=>h|.ptr _ _,_,_,h0,h=>by obtain⟨a,e,k⟩:=h;obtain⟨_,_,k0⟩:=h0;exact⟨a,e,k0.swap hs k⟩|.nilPtr,_,_,_,h=>h|.slice _ _ _ _ _,_,_,h0,h=>by obtain⟨a,c,e,k,l⟩:=h;obtain⟨_,_,_,_,Q⟩:=h0;exact⟨a,c,e,k,Q.swap hs l⟩|.ns,_,_,_,h=>h|.map _,_,_,h0,h=>by obtain⟨a,e,k⟩:=h;obtain⟨_,_,k0⟩:=h0;exact⟨a,e,k0.swap hs k⟩|.nilMap,_,_,_,h=>h|.fn _ l r,_,_,h0,h=>by obtain⟨q,T,e,E,I⟩:=h;obtain⟨_,_,_,F,O⟩:=h0;exact⟨q,T,e,VRs.swap hs l _ _ F E,VRs.swap hs r _ _ O I⟩|.yield _,_,_,h0,h=>by obtain⟨a,e,k⟩:=h;obtain⟨_,_,k0⟩:=h0;exact⟨a,e,k0.swap hs k⟩|.nilFunc,_,_,_,h=>h|.iface _ x,_,_,h0,h=>by obtain⟨V,e,k⟩:=h;obtain⟨_,_,k0⟩:=h0;exact⟨V,e,VR.swap hs x _ _ k0 k⟩|.nilIface,_,_,_,h=>h|.agg l,_,_,h0,h=>by obtain⟨q,e,k⟩:=h;obtain⟨_,_,k0⟩:=h0;exact⟨q,e,VRs.swap hs l _ _ k0 k⟩|.tuple l,_,_,h0,h=>by obtain⟨q,e,k⟩:=h;obtain⟨_,_,k0⟩:=h0;exact⟨q,e,VRs.swap hs l _ _ k0 k⟩
def VRs.swap(hs:BI μ μ1 μ'):∀(x:List IV)(E v:List Value),VRs μ x E->VRs μ1 x v->VRs μ' x v|[],_,_,_,h=>h|x::xs,_,_,h0,h=>by obtain⟨y,ys,e,k,ks⟩:=h;obtain⟨_,_,_,k0,q⟩:=h0;exact⟨y,ys,e,VR.swap hs x _ _ k0 k,VRs.swap hs xs _ _ q ks⟩
end
def EsR.swap(hs:BI μ μ1 μ'):∀{q:List (IV×IV×Nat)}{F l:List MapEntry},EsR μ q F->EsR μ1 q l->EsR μ' q l|[],_,_,_,h=>h|(k,v,_)::_,_,_,h0,h=>by obtain⟨e,E,a,b,c,d,f⟩:=h;obtain⟨_,_,_,b0,c0,_,f0⟩:=h0;exact⟨e,E,a,VR.swap hs k _ _ b0 b,VR.swap hs v _ _ c0 c,d,EsR.swap hs f0 f⟩
def ObjR.swap{P:Program}(hs:BI μ μ1 μ'){o:IObj}{p p0 ez O z z0:Nat}{h h0:Option Obj}(k0:ObjR P μ o p0 O z0 h0)(k:ObjR P μ1 o p ez z h):ObjR P μ' o p ez z h:=by cases o with|cells ro e V cs=>cases ro;{obtain⟨a,b,q,c,d,F,f⟩:=k;obtain⟨_,_,_,_,_,_,f0⟩:=k0;exact⟨a,b,q,c,d,F,VRs.swap hs _ _ _ f0 f⟩};{obtain⟨a,q,F,Z,b,c,f⟩:=k;obtain⟨_,_,_,_,_,_,f0⟩:=k0;exact⟨a,q,F,Z,b,c,VRs.swap hs _ _ _ f0 f⟩}|map es E=>obtain⟨a,I,b,c⟩:=k;obtain⟨_,_,_,c0⟩:=k0;exact⟨a,I,b,EsR.swap hs c0 c⟩|loop st pend tm ps T body df=>obtain⟨a,L,b,c,d,e,f,g,i,j⟩:=k;obtain⟨_,_,_,_,_,U,_,_,_,j0⟩:=k0;exact⟨a,L,b,c,d,VRs.swap hs _ _ _ U e,f,g,i,j0.swap hs j⟩|deferred=>exact k|taken=>exact k|iter m Q seen last=>obtain⟨a,m',b,c⟩:=k;obtain⟨_,_,_,c0⟩:=k0;exact⟨a,m',b,VR.swap hs _ _ _ c0 c⟩|dead=>exact k
end
structure FixOk(lo:Nat)(H H1 Hs:Heap)(σ:Nat→Nat):Prop where
 hn:H.n≤Hs.n
 s0:∀b,b < H.n→σ b=b
 s1:∀b,H.n≤b→b < Hs.n→H.n≤σ b∧σ b < H1.n
 s2:∀b b',H.n≤b→b < Hs.n→H.n≤b'→b' < Hs.n→σ b=σ b'→b=b'
 low:∀b,b < lo→b < H.n→Hs.get b=H.get b
 old:∀b,b < H.n→(Hs.get b=H.get b∧H1.get b=H.get b)∨(lo≤b∧Hs.get b=some .dead)∨
  (lo≤b∧bE H.get b∧∃e z cs,Hs.get b=some (.cells false e z cs)∧H1.get b=some (.cells false e z (cs.map (BV σ)))∧cs.all T8=true∧∀c∈cs,nmC Hs.n c)
 new:∀b,H.n≤b→b < Hs.n→∃e z cs,Hs.get b=some (.cells false e z cs)∧H1.get (σ b)=some (.cells false e z (cs.map (BV σ)))∧cs.all T8=true∧∀c∈cs,nmC Hs.n c
section
variable {P:Program}{g0 lo:Nat}
def X9{μ F:Mu}{H H1 Q:Heap}{w w1:World}{Z:Nat->Nat}(b4:g0<=lo)(hr:Rel P g0 μ H.get H.n w)(r1:Rel P g0 F H1.get H1.n w1)(p1:Post lo μ H.get H.n w F H1.get H1.n w1)(E:FixOk lo H H1 Q Z):∃aE,Rel P g0 aE Q.get Q.n w1/\Post lo μ H.get H.n w aE Q.get Q.n w1/\∀b,b<Q.n->aE b=F (Z b)\/aE b=.dead:=by let m2:Mu:=λb=>if b<Q.n then(if Q.get b=some .dead/\F (Z b)≠.no then .dead else F (Z b)) else .no;have bo:∀b,Q.n<=b->m2 b=.no:=λb h=>by{grind};have bn:∀b,b<Q.n->Q.get b=some .dead->F (Z b)≠.no->m2 b=.dead:=λb I q h3=>by{grind};have a9:∀b,b<Q.n->¬(Q.get b=some .dead/\F (Z b)≠.no)->m2 b=F (Z b):=λb I q=>by{grind};have ag:∀b,b<Q.n->m2 b=F (Z b)\/m2 b=.dead:=λb h=>by{grind};have bx:∀b,b<Q.n->F (Z b)=.no->m2 b=.no:=λb I q=>by{grind};have ay:∀b c p ez z,m2 b=.at c p ez z->b<Q.n/\F (Z b)=.at c p ez z/\Q.get b≠some .dead:=by{grind};have a6:∀b b',b<Q.n->b'<Q.n->Z b=Z b'->b=b':=by{intro b b' I q he;rcases dj b H.n with c1|c1<;>rcases dj b' H.n with c2|c2;{rw[E.s0 b c1,E.s0 b' c2] at he;exact he};{have:=E.s0 b c1;have:=E.s1 b' c2 q;omega};{have:=E.s0 b' c2;have:=E.s1 b c1 I;omega};{exact E.s2 b b' c1 I c2 q he}};have bd:BI μ F m2:=λb O=>by{have V:=hr.lt b O;have:=ag b (cC V E.hn);rwa [E.s0 b V] at this};have bc:∀b,b<Q.n->bE Q.get b->bE H1.get (Z b):=by{rintro b O ⟨o,I,q⟩;rcases dj b H.n with c|c;{rw[E.s0 b c];rcases E.old b c with⟨T,a2⟩|⟨_,T⟩|⟨_,_,e,z,cs,T,a2,_⟩;{exact⟨o,by rw[a2,<-T];exact I,q⟩};{rw[T] at I;injection I with I;subst I;cases q};{exact⟨_,a2,rfl⟩}};{obtain⟨e,z,cs,T,a2,_⟩:=E.new b c O;exact⟨_,a2,rfl⟩}};have bt:μ.le m2:=λb O=>by{rcases bd b O with e|e;{rw[e];exact p1.le b O};{exact .inr e}};refine⟨m2,⟨?_,?_,?_,?_,?_⟩,⟨bt,E.hn,?_,?_,?_,?_,?_,p1.size,p1.frame,p1.os,p1.tape,p1.output,p1.drawn⟩,ag⟩;{grind};{intro b b' c p ez z p' b3 z' O bl ho;obtain⟨I,q,_⟩:=ay _ _ _ _ _ O;obtain⟨h3,h4,_⟩:=ay _ _ _ _ _ bl;exact a6 b b' I h3 (r1.inj _ _ _ _ _ _ _ _ _ q h4 (bc b I ho))};{intro b c p ez z O;obtain⟨I,q,h3⟩:=ay _ _ _ _ _ O;obtain⟨o1,g1,k1⟩:=r1.obj _ c p ez z q;rcases dj b H.n with cc|cc;{have e0:=E.s0 b cc;rw[e0] at g1 q;rcases E.old b cc with⟨T,a2⟩|⟨_,T⟩|⟨_,_,e,z',cs,T,a2,a3,a4⟩;{rw[a2] at g1;refine⟨o1,by rw[T];exact g1,?_⟩;have bw:μ b≠.no:=λh=>by{rw[p1.old b cc h] at q;cases q};obtain⟨c0,p0,an,z0,bm⟩:∃c0 p0 an z0,μ b=.at c0 p0 an z0:=by{cases hm:μ b with|no=>exact absurd hm bw|dead=>have:=hr.ded b hm;rw[g1] at this;injection this with this;subst this;exact k1.elim|«at» c0 p0 an z0=>exact⟨_,_,_,_,rfl⟩};obtain⟨o0,U,k0⟩:=hr.obj b _ _ _ _ bm;rw[g1] at U;injection U with U;subst U;exact k0.swap bd k1};{exact absurd T h3};{rw[a2] at g1;injection g1 with g1;subst g1;obtain⟨q1,q2,aS,q3,q4,q5,q6⟩:=k1;rw[bG] at q5 q6;exact⟨_,T,q1,q2,aS,q3,q4,q5,mz ag a3 a4 q6⟩}};{obtain⟨e,z',cs,T,a2,a3,a4⟩:=E.new b cc I;rw[a2] at g1;injection g1 with g1;subst g1;obtain⟨q1,q2,aS,q3,q4,q5,q6⟩:=k1;rw[bG] at q5 q6;exact⟨_,T,q1,q2,aS,q3,q4,q5,mz ag a3 a4 q6⟩}};{intro i hi;have bq:=hr.glob i hi;have V:=hr.lt i (by grind);have I:=r1.glob i hi;have e0:=E.s0 i V;rcases ag i (cC V E.hn) with e|e;{rw[e,e0];exact I};{have hd:Q.get i=some .dead:=by{grind};rw[E.low i Om V] at hd;obtain⟨o,g,k⟩:=hr.obj i _ _ _ _ bq;rw[hd] at g;injection g with g;subst g;exact k.elim}};{intro b O;have V:=ER λh=>by{rw[bo b h] at O;cases O};by_cases q:Q.get b=some .dead/\F (Z b)≠.no;{exact q.1};{rw[a9 b V q] at O;have hd:=r1.ded _ O;rcases dj b H.n with cc|cc;{rw[E.s0 b cc] at hd;rcases E.old b cc with⟨T,a2⟩|⟨_,T⟩|⟨_,_,e,z',cs,T,a2,_⟩<;>grind};{obtain⟨e,z',cs,T,a2,_⟩:=E.new b cc V;grind}}};{intro b O h;exact bx b (cC O E.hn) (by rw[E.s0 b O];exact p1.old b O h)};{intro b O ad;have hl:=p1.low b O ad;have hg:=E.low b O ad;refine⟨?_,hg⟩;have a5:=cC ad E.hn;by_cases q:Q.get b=some .dead/\F (Z b)≠.no;{rw[bn b a5 q.1 q.2];have h3:=q.2;rw[E.s0 b ad,hl.1] at h3;cases hm:μ b with|no=>exact absurd hm h3|dead=>rfl|«at» c0 p0 an z0=>obtain⟨o0,U,k0⟩:=hr.obj b _ _ _ _ hm;rw[<-hg,q.1] at U;injection U with U;subst U;exact k0.elim};{rw[a9 b a5 q,E.s0 b ad];exact hl.1}};{rintro b O ⟨o,I,q⟩;rcases E.old b O with⟨T,_⟩|⟨_,T⟩|⟨_,a0,_⟩;{exact⟨o,by rw[<-T];exact I,q⟩};{rw[T] at I;injection I with I;subst I;cases q};{exact a0}};{intro b c p ez z O e;obtain⟨I,q,_⟩:=ay _ _ _ _ _ e;exact p1.new _ c p ez z (E.s1 b O I).1 q};{intro b I q;have:=E.s1 b I q;have h3:=p1.full _ this.1 this.2;grind}
def VN{f:FuncId}{fn:IFn}(E:iy P f=some fn){args:List IV}{H Hs:Heap}{v:List IV}(aE:g0<=lo){NC:Prop}(a9:∀(μ:Mu)(w:World)(q:Array Value),Rel P g0 μ H.get H.n w->VRs μ args q.toList->NC)(T:NC->∀I c,P.funcs[f]? =some I->I.body=some c->bg P c=some fn.body->NItem P g0 lo (.code c) none ⟨args++dV (fn.ntmps - args.length),[]⟩ H λo H'=>∃e O,o=.ex e O/\(∀id,e≠.jmp (.exit id))/\O.marks=[]/\ ∃σ,aU H' O.tm fn.results=some [.agg (v.map (BV σ))]/\v.all T8=true/\(∀c∈v,nmC Hs.n c)/\FixOk lo H H' Hs σ):CallSim P g0 f args lo H (.agg v) Hs:=by unfold iy at E;cases hf:P.funcs[f]? with|none=>rw[hf] at E;cases E|some I=>rw[hf] at E;simp only at E;split at E;{cases E};{cases hb:I.body with|none=>rw[hb] at E;cases E|some c=>rw[hb] at E;simp only at E;cases F:I.results.toList.mapM (xE P) with|none=>rw[F] at E;cases E|some bq=>cases U:bg P c with|none=>rw[F,U] at E;cases E|some ic=>rw[F,U] at E;injection E with E;subst E;intro μ w q hr ha cs;have hs:=T (a9 μ w q hr ha) I c hf hb U;have ht:VRs μ (args++dV (I.ntmps - args.length)) (q++Array.replicate (I.ntmps - q.size) undef).toList:=by{have hl:args.length=q.size:=by{have:=ha.length;simpa using this};rw[hl,zN,Array.toList_replicate];exact ha.append (og _)};obtain⟨e,bo,H1,bt,w1,t1,bn,⟨e',O,an,he,a6,σ,hv,bd,bc,ay⟩,a1,a2,a3,a4,a5⟩:=hs μ w _ none [] hr ht rfl rfl f [] cs;injection an with q1 q2;subst q1 q2;rw[a6] at a4;have a4:=a4;subst a4;have Q:Frame.enter P f q .normal=cq f none (q++Array.replicate (I.ntmps - q.size) undef) [] [.code c]:=by{simp[Frame.enter,cq,hf,hb]};have a0:∃todo,Steps P (lone (Frame.enter P f q .normal) cs w) (lone (QV f t1 [] todo) cs w1):=by{rw[Q];cases e with|normal=>exact⟨[],Steps.trans a5 (.one (tU (.inl rfl)))⟩|jmp j=>cases j with|exit id=>exact absurd rfl (he id)|ret=>obtain⟨pre,b1,_⟩:=a5;exact⟨_,Steps.trans b1 (.one (tU (.inr ⟨_,rfl⟩)))⟩};obtain⟨todo,bm⟩:=a0;obtain⟨v',ag,Z⟩:=sm a1 a3 F hv;have Z:=Z;obtain⟨m2,ad,V,bl⟩:=X9 aE hr a1 a2 ay;refine⟨.returned v',w1,QV f t1 [] todo,⟨v',m2,rfl,ad,V,?_⟩,bm,rfl,rfl,rfl,rfl,I,hf,ag⟩;obtain⟨l',e',aS⟩:=Z;exact⟨l',e',mz bl bd bc aS⟩}
noncomputable def lW(P:Program)(g0:Nat)(f:FuncId)(C:List IV->Heap->Option (IV×Heap)):List IV->Nat->Heap->Option (IV×Heap):=λargs lo H=>match C args H with|some (v,H')=>if NZ lo H H'/\CallSim P g0 f args lo H v H' then some (v,H') else none|none=>none
def xx{f:FuncId}{C:List IV->Heap->Option (IV×Heap)}{args:List IV}{H H':Heap}{v:IV}(q:C args H=some (v,H'))(E:NZ lo H H')(hs:CallSim P g0 f args lo H v H'):lW P g0 f C args lo H=some (v,H'):=by simp_all[lW,if_pos]
def Fy{f:FuncId}{C:List IV->Heap->Option (IV×Heap)}{args:List IV}{H H':Heap}{v:IV}(h:lW P g0 f C args lo H=some (v,H')):NZ lo H H'/\∀q,q<=lo->lW P g0 f C args q H=some (v,H'):=by unfold lW at h;split at h;{rename_i T H0 Q;split at h;{rename_i E;injection h with h;injection h with I O;subst I O;exact⟨E.1,λq F=>xx Q (E.1.lower F) (E.2.lower F)⟩};{cases h}};{cases h}
def LD{f:FuncId}{C:List IV->Heap->Option (IV×Heap)}{args:List IV}{H H':Heap}{v:IV}(h:lW P g0 f C args lo H=some (v,H')):CallSim P g0 f args lo H v H':=by grind[lW]
end
open Go.Proofs Go.Shelf
section
variable {P:Program}{ρ:Ren}{g0 lo:Nat}{H:Heap}
end
end Go.Iso
