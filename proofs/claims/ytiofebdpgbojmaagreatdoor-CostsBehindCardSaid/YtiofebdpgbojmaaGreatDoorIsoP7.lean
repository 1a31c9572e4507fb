/-
  rules of runs over ranges, slices and lists.
-/
import Derived.Test.YtiofebdpgbojmaaGreatDoorIsoP6
import Derived.IntWalk
import Derived.Shelf.SlSortCmp.NoneTotal
set_option linter.unusedSimpArgs false
set_option linter.unusedVariables false
set_option maxRecDepth 100000
set_option linter.defProp false
namespace Go.Iso
section
variable {E:Env}{lo:Nat}{rd:Option Nat}{fr:Fr}{H:Heap}{Q:Ah}
def KQ:Option Jmp->Ex|none=>.normal|some j=>.jmp j
def TK:KQ none=.normal:=rfl
def TI{j:Jmp}:KQ (some j)=.jmp j:=rfl
def PL(l lo:Nat)(marks:List Nat)(fr:Fr)(Q:Ah)(u:Heap)(ob:Option IObj):Prop:=match ob with|some (.loop st pend tm F q body A)=>st≠.busy/\lo<=l/\Q (.ex (KQ pend) {fr with marks:=marks++fr.marks}) (u.put l (.loop .exhausted pend tm F q body A))|_=>False
def WG(l lo:Nat)(marks:List Nat)(fr:Fr)(Q:Ah):Ah:=λo q=>match o with|.val _=>PL l lo marks fr Q q (q.get l)|_=>False
def acI(E:Env)(lo:Nat)(u:List Nat)(q body:IC)(fr:Fr)(Q:Ah)(g:IV)(e:Nat×List Nat×Heap):Prop:=W E lo (.apply g [.yield e.2.2.n]) (e.2.2.new (.loop .ready none fr.tm u q body e.1)) (WG e.2.2.n lo e.2.1 fr Q)
def WF{l:Nat}{marks:List Nat}{v:IV}:WG l lo marks fr Q (.val v) H=PL l lo marks fr Q H (H.get l):=rfl
def WE{l:Nat}{marks:List Nat}{st:LoopState}{pend:Option Jmp}{tm:List IV}{A:List Nat}{q body:IC}{u:Nat}:PL l lo marks fr Q H (some (.loop st pend tm A q body u))=(st≠.busy/\lo<=l/\Q (.ex (KQ pend) {fr with marks:=marks++fr.marks}) (H.put l (.loop .exhausted pend tm A q body u))):=rfl
def XS{f:IA}{Z:List Nat}{A body:IC}{g:IV}{e:Nat×List Nat×Heap}(hg:f.eval E.g0 fr.tm=some g)(he:gQ rd H=some e):W E lo (.code (.rfn f Z A body) rd fr) H Q=acI E lo Z A body fr Q g e:=by obtain⟨df,marks,H1⟩:=e;refine propext ⟨?_,?_⟩;{rintro⟨n,o,H',h,hq⟩;cases n with|zero=>cases h|succ n=>rw[run] at h;simp only[hg,he] at h;cases U:run E n (.apply g [.yield H1.n]) lo (H1.new (.loop .ready none fr.tm Z A body df)) with|none=>rw[U] at h;cases h|some p=>rw[U] at h;obtain⟨o1,I⟩:=p;refine⟨n,o1,I,U,?_⟩;cases o1 with|ex e fr=>cases h|val v=>simp only at h;show PL _ _ _ _ _ _ _;cases O:I.get H1.n with|none=>rw[O] at h;cases h|some ob=>rw[O] at h;cases ob with|loop st pend tm T u q K=>(simp only at h;split at h;{cases h};{rename_i hn;refine⟨λe=>hn (.inl e),Nat.le_of_not_lt λe=>hn (.inr e),?_⟩;cases pend with|none=>injection h with h;injection h with V Y;subst V Y;exact hq|some j=>injection h with h;injection h with V Y;subst V Y;exact hq})|_=>cases h};{intro h;refine abo hg he (h.mono λo I h=>?_);cases o with|ex e fr=>exact h.elim|val v=>have F:PL H1.n lo marks fr Q I (I.get H1.n):=h;cases O:I.get H1.n with|none=>rw[O] at F;exact F.elim|some ob=>rw[O] at F;cases ob with|loop st pend tm T u q K=>exact⟨v,st,pend,tm,T,u,q,K,rfl,rfl,F.1,F.2.1,by cases pend<;>exact F.2.2⟩|_=>exact F.elim}
def XT{f:IA}{A:List Nat}{q body:IC}:W E lo (.code (.rfn f A q body) none fr) H Q=j7 (f.eval E.g0 fr.tm) λg=>W E lo (.apply g [.yield (H.n+1)]) ((H.new .deferred).new (.loop .ready none fr.tm A q body H.n)) (WG (H.n+1) lo [H.n] fr Q):=by cases u:f.eval E.g0 fr.tm with|none=>(refine propext ⟨?_,λh=>h.elim⟩;rintro⟨n,o,H',h,F⟩;cases n with|zero=>cases h|succ n=>rw[run] at h;simp only[u] at h;cases h)|some g=>exact XS u (e:=(H.n,[H.n],H.new .deferred)) rfl
def AW(l:Nat)(Q:Ah)(e:Ex)(H:Heap)(ob:Option IObj):Prop:=match ob with|some (.loop _ _ tm A q body u)=>(match e with|.normal=>Q (.val (.bool true)) (H.put l (.loop .ready none tm A q body u))|.jmp j=>Q (.val (.bool false)) (H.put l (.loop .done (some j) tm A q body u)))|_=>False
def OJ(l:Nat)(Q:Ah):Ah:=λo H=>match o with|.ex e _=>AW l Q e H (H.get l)|_=>False
def xU(E:Env)(lo l:Nat)(body:IC)(Q:Ah)(fr:Fr)(H:Heap)(ob:Option IObj):Prop:=match ob with|some (.loop .ready pend tm F u q A)=>W E lo (.code body (some l) fr) (H.put l (.loop .busy pend tm F u q A)) (OJ l Q)|_=>False
def IX(E:Env)(lo l:Nat)(body:IC)(Q:Ah):Ah:=λo H=>match o with|.ex .normal fr=>xU E lo l body Q fr H (H.get l)|_=>False
def Oe(E:Env)(lo l:Nat)(args:List IV)(Q:Ah)(H:Heap)(ob:Option IObj):Prop:=match ob with|some (.loop _ _ tm u q body _)=>args.length=u.length/\lo<=l/\W E lo (.code q (some l) ⟨eM tm u args,[]⟩) H (IX E lo l body Q)|_=>False
def SQ{l:Nat}{e:Ex}:OJ l Q (.ex e fr) H=AW l Q e H (H.get l):=rfl
def SO{l:Nat}{st:LoopState}{pend:Option Jmp}{tm:List IV}{A:List Nat}{q body:IC}{u:Nat}:AW l Q .normal H (some (.loop st pend tm A q body u))=Q (.val (.bool true)) (H.put l (.loop .ready none tm A q body u)):=rfl
def SP{l:Nat}{j:Jmp}{st:LoopState}{pend:Option Jmp}{tm:List IV}{A:List Nat}{q body:IC}{u:Nat}:AW l Q (.jmp j) H (some (.loop st pend tm A q body u))=Q (.val (.bool false)) (H.put l (.loop .done (some j) tm A q body u)):=rfl
def PR{l:Nat}{body:IC}:IX E lo l body Q (.ex .normal fr) H=xU E lo l body Q fr H (H.get l):=rfl
def PQ{l:Nat}{body q:IC}{pend:Option Jmp}{tm:List IV}{F:List Nat}{u:IC}{A:Nat}:xU E lo l body Q fr H (some (.loop .ready pend tm F u q A))=W E lo (.code body (some l) fr) (H.put l (.loop .busy pend tm F u q A)) (OJ l Q):=rfl
def Od{l:Nat}{args:List IV}{st:LoopState}{pend:Option Jmp}{tm:List IV}{u:List Nat}{q body:IC}{A:Nat}:Oe E lo l args Q H (some (.loop st pend tm u q body A))=(args.length=u.length/\lo<=l/\W E lo (.code q (some l) ⟨eM tm u args,[]⟩) H (IX E lo l body Q)):=rfl
def uf{l:Nat}{args:List IV}:W E lo (.apply (.yield l) args) H Q=Oe E lo l args Q H (H.get l):=by refine propext ⟨?_,?_⟩;{rintro⟨n,o,H',h,hq⟩;cases n with|zero=>cases h|succ n=>rw[run] at h;(try simp only at h);cases hg:H.get l with|none=>rw[hg] at h;cases h|some ob=>rw[hg] at h;cases ob with|loop st pend tm ps ad body df=>simp only at h;split at h;{rename_i hl;refine⟨hl.1,hl.2,?_⟩;cases h1:run E n (.code ad (some l) ⟨eM tm ps args,[]⟩) lo H with|none=>rw[h1] at h;cases h|some p=>rw[h1] at h;obtain⟨o1,H1⟩:=p;refine⟨n,o1,H1,h1,?_⟩;cases o1 with|val v=>cases h|ex e fr=>cases e with|jmp j=>cases h|normal=>simp only at h;show xU _ _ _ _ _ _ _ _;simp only[iC] at h;cases hb:H1.get l with|none=>rw[hb] at h;cases h|some O=>rw[hb] at h;cases O with|loop V A aE ay F u an=>(cases V with|ready=>(simp only at h;cases h2:run E n (.code body (some l) fr) lo (H1.put l (.loop .busy A aE ay F u an)) with|none=>rw[h2] at h;cases h|some p=>rw[h2] at h;obtain⟨o3,Y⟩:=p;refine⟨n,o3,Y,h2,?_⟩;cases o3 with|val v=>cases h|ex e fr3=>simp only[AL] at h;show AW _ _ _ _ _;cases K:Y.get l with|none=>rw[K] at h;cases h|some T=>rw[K] at h;cases T with|loop a1 U It a0 ag I aS=>(cases e with|normal=>injection h with h;injection h with h3 h4;subst h3 h4;exact hq|jmp j=>injection h with h;injection h with h3 h4;subst h3 h4;exact hq)|_=>cases h)|_=>cases h)|_=>cases h};{cases h}|_=>cases h};{intro h;cases hg:H.get l with|none=>rw[hg] at h;exact h.elim|some ob=>rw[hg] at h;cases ob with|loop st pend tm ps ad body df=>(obtain⟨h1,h2,h3⟩:=h;refine UI hg h1 h2 (h3.mono λo H1 h=>?_);cases o with|val v=>exact h.elim|ex e fr=>cases e with|jmp j=>exact h.elim|normal=>have Z:xU E lo l body Q fr H1 (H1.get l):=h;cases hb:H1.get l with|none=>rw[hb] at Z;exact Z.elim|some O=>rw[hb] at Z;cases O with|loop V A aE ay F u an=>(cases V with|ready=>(refine⟨fr,_,rfl,by simp only[iC,hb],W.mono Z λo Y h=>?_⟩;cases o with|val v=>exact h.elim|ex e fr3=>have q:AW l Q e Y (Y.get l):=h;cases K:Y.get l with|none=>rw[K] at q;exact q.elim|some T=>rw[K] at q;cases T with|loop a1 U It a0 ag I aS=>(cases e with|normal=>exact⟨_,_,(_,_),rfl,by simp only[AL,K];rfl,q⟩|jmp j=>exact⟨_,_,(_,_),rfl,by simp only[AL,K];rfl,q⟩)|_=>exact q.elim)|_=>exact Z.elim)|_=>exact Z.elim)|_=>exact h.elim}
def aax(I:Nat->Fr->Heap->Prop)(k:Nat)(Q:Ah):Ah:=λo H=>match o with|.ex .normal fr=>∃q,q<k/\I q fr H|o=>Q o H
def aD{c:IC}(I:Nat->Fr->Heap->Prop)(h:∀k fr H,I k fr H->∀L:Ah,(∀q fr H,q<k->I q fr H->L (.ex .normal fr) H)->(∀j fr H,L (.ex (.jmp j) fr) H=Q (.ex (.jmp j) fr) H)->W E lo (.code c rd fr) H L):∀(k:Nat){fr:Fr}{H:Heap},I k fr H->W E lo (.code (.loop c) rd fr) H Q:=by intro k;induction k using Nat.strongRecOn with|ind k U=>intro fr H hi;rw[pM];refine(h k fr H hi (aax I k Q) (λq fr H K O=>⟨q,K,O⟩) (λj fr H=>rfl)).mono λo H' u=>?_;cases o with|val v=>exact u|ex e F=>cases e with|jmp j=>exact u|normal=>obtain⟨q,T,A⟩:=u;exact U q T A
end
def ady{a b:Nat}(h:b<a):(a=b)=False:=by simp;omega
def adx{a b:Nat}(h:a<b):(a=b)=False:=by simp;omega
def cLe{a b:Nat}(h:a<=b):(a<=b)=True:=by simp[h]
def adw{a b:Nat}(h:b<a):(a<=b)=False:=by simp;omega
def cLt{a b:Nat}(h:a<b):(a<b)=True:=by simp[h]
def adv{a b:Nat}(h:b<=a):(a<b)=False:=by simp;omega
def iLe{a b:Int}(h:a<=b):(a<=b)=True:=by simp[h]
def acY{a b:Int}(h:b<a):(a<=b)=False:=by simp;omega
def iLt{a b:Int}(h:a<b):(a<b)=True:=by simp[h]
def acX{a b:Int}(h:b<=a):(a<b)=False:=by simp;omega
def iGe{a b:Int}(h:a>=b):(a>=b)=True:=by simp;omega
def ac0{a b:Int}(h:a<b):(a>=b)=False:=by simp;omega
def iGt{a b:Int}(h:a>b):(a>b)=True:=by simp;omega
def acZ{a b:Int}(h:a<=b):(a>b)=False:=by simp;omega
def ac2{a b:Int}(h:a=b):(a==b)=true:=by simp[h]
def aaL{a b:Int}(h:a<b\/b<a):(a==b)=false:=by simp;omega
def ac1{a b:Int}(h:a<b\/b<a):(a !=b)=true:=by simp;omega
def aaK{a b:Int}(h:a=b):(a !=b)=false:=by simp[h]
def acv{a:Int}(h: -9223372036854775808<=a/\a<=9223372036854775807):IntKind.i64.wrap a=a:=IntWalk.i64_in a Om
def wU8{a:Int}(h:0<=a/\a<=255):IntKind.u8.wrap a=a:=IntWalk.u8_in a h
def J3{l:List IV}:(IV.agg l).cells=l:=rfl
def J2{k:IntKind}{n:Int}:(IV.int k n).cells=[.int k n]:=rfl
def Ht{b:Bool}:(IV.bool b).cells=[.bool b]:=rfl
def JX{s:List UInt8}:(IV.str s).cells=[.str s]:=rfl
def JY{b o:Nat}:(IV.ptr b o).cells=[.ptr b o]:=rfl
def AP:IV.nilPtr.cells=[.nilPtr]:=rfl
def EA{b o n c:Nat}{ex:Bool}:(IV.slice b o n c ex).cells=[.slice b o n c ex]:=rfl
def wy:IV.nilSlice.cells=[.nilSlice]:=rfl
def JZ{b:Nat}:(IV.map b).cells=[.map b]:=rfl
def AQ:IV.nilMap.cells=[.nilMap]:=rfl
def NQ{f:FuncId}{a b:List IV}:(IV.fn f a b).cells=[.fn f a b]:=rfl
def Ez{b:Nat}:(IV.yield b).cells=[.yield b]:=rfl
def Ad:IV.nilFunc.cells=[.nilFunc]:=rfl
def EB{t:TypeId}{v:IV}:(IV.iface t v).cells=[.iface t v]:=rfl
def wz:IV.nilIface.cells=[.nilIface]:=rfl
def sV{k:IntKind}{n:Int}:(IV.int k n).one=true:=rfl
def qc{b:Bool}:(IV.bool b).one=true:=rfl
def P4{s:List UInt8}:(IV.str s).one=true:=rfl
def P5{b o:Nat}:(IV.ptr b o).one=true:=rfl
def F4:IV.nilPtr.one=true:=rfl
def Jd{b o n c:Nat}{ex:Bool}:(IV.slice b o n c ex).one=true:=rfl
def AC:IV.nilSlice.one=true:=rfl
def P6{b:Nat}:(IV.map b).one=true:=rfl
def F5:IV.nilMap.one=true:=rfl
def TP{f:FuncId}{a b:List IV}:(IV.fn f a b).one=true:=rfl
def Jc{b:Nat}:(IV.yield b).one=true:=rfl
def DM:IV.nilFunc.one=true:=rfl
def Je{t:TypeId}{v:IV}:(IV.iface t v).one=true:=rfl
def AD:IV.nilIface.one=true:=rfl
def oJ(ob:IObj)(o n:Nat):Option (List IV):=match ob with|.cells _ _ _ cs=>if o+n<=cs.length then some ((cs.drop o).take n) else none|_=>none
def TF{q:Bool}{e ez:Nat}{cs:List IV}{o n:Nat}:oJ (.cells q e ez cs) o n=if o+n<=cs.length then some ((cs.drop o).take n) else none:=rfl
def PT{H:Heap}{ob:IObj}{b o n:Nat}:(H.new ob).read b o n=if H.n=b then oJ ob o n else H.read b o n:=by unfold Heap.read;rw[aj];by_cases h:H.n=b;{simp only[h,if_true];cases ob<;>rfl};{simp[h]}
def PS{H:Heap}{ob:IObj}{b' b o n:Nat}:(H.put b' ob).read b o n=if b'=b then oJ ob o n else H.read b o n:=by unfold Heap.read;rw[aa];by_cases h:b'=b;{simp only[h,if_true];cases ob<;>rfl};{simp[h]}
def ae{H:Heap}{q:Bool}{e ez:Nat}{cs:List IV}{b:Nat}(h:H.get b=some (.cells q e ez cs))(o n:Nat):H.read b o n=if o+n<=cs.length then some ((cs.drop o).take n) else none:=by unfold Heap.read;rw[h]
def KL{H H':Heap}{b:Nat}(h:H'.get b=H.get b)(o n:Nat):H'.read b o n=H.read b o n:=by unfold Heap.read;rw[h]
def Keep.read{lo:Nat}{H H':Heap}(k:Keep lo H H')(b o n:Nat)(q:b<lo)(u:b<H.n):H'.read b o n=H.read b o n:=KL (k.2 b q u) o n
inductive SV where
 | nil
 | sl (b o n c:Nat) (ex:Bool)
 deriving Inhabited
def SV.iv:SV->IV|.nil=>.nilSlice|.sl b o n c ex=>.slice b o n c ex
def SV.blk:SV->Nat|.nil=>0|.sl b _ _ _ _=>b
def SV.off:SV->Nat|.nil=>0|.sl _ o _ _ _=>o
def SV.tight:SV->Prop|.nil=>True|.sl _ _ n c ex=>c=n/\ex=true
def iE(v:SV):v.iv.one=true:=by cases v<;>rfl
def HV(v:SV):v.iv.cells=[v.iv]:=by cases v<;>rfl
def Ch:SV.nil.iv=.nilSlice:=rfl
def mC{b o n c:Nat}{ex:Bool}:(SV.sl b o n c ex).iv=.slice b o n c ex:=rfl
class Cell (α:Type) where
 z:Nat
 cs:α→List IV
 len:∀a,(cs a).length=z
 one:∀a,(cs a).all IV.one=true
 pos:0 < z
instance:Cell SV where
 z:=1
 cs v:=[v.iv]
 len _:=rfl
 one v:=by simp[iE]
 pos:=by omega
theorem eX(v:SV):Cell.cs v=[v.iv]:=rfl
def dw:Cell.z SV=1:=rfl
def gh{b o n c:Nat}{ex:Bool}:(SV.sl b o n c ex).blk=b:=rfl
def mD{b o n c:Nat}{ex:Bool}:(SV.sl b o n c ex).off=o:=rfl
section
variable {α:Type}[Cell α]
def aA(l:List α):List IV:=l.flatMap Cell.cs
theorem bA(a:α)(l:List α):aA (a::l)=Cell.cs a++aA l:=rfl
theorem eW(a b:List α):aA (a++b)=aA a++aA b:=by simp[aA]
def GP(a:α):aA [a]=Cell.cs a:=by simp[aA]
def az(l:List α):(aA l).length=l.length*Cell.z α:=by induction l with|nil=>simp[aA]|cons p l q=>rw[bA,aW,q,Cell.len,cv,eD];omega
def fE(l:List α):(aA l).all IV.one=true:=by induction l with|nil=>rfl|cons p l q=>rw[bA,List.all_append,q,Cell.one];rfl
theorem qj(l:List α)(k:Nat):(aA l).drop (k*Cell.z α)=aA (l.drop k):=by induction l generalizing k with|nil=>simp[aA]|cons p l q=>cases k with|zero=>simp|succ k=>rw[bA,List.drop_succ_cons,eD,Nat.add_comm,<-Cell.len p,List.drop_length_add_append,Cell.len,q]
theorem BR(l:List α)(k:Nat):(aA l).take (k*Cell.z α)=aA (l.take k):=by induction l generalizing k with|nil=>simp[aA]|cons p l q=>cases k with|zero=>simp[aA]|succ k=>rw[bA,List.take_succ_cons,bA,eD,Nat.add_comm,<-Cell.len p,List.take_length_add_append,Cell.len,q]
def Ul(l:List α)(i:Nat)(h:i<l.length):((aA l).drop (i*Cell.z α)).take (Cell.z α)=Cell.cs l[i]:=by grind[qj,List.drop_eq_getElem_cons,bA,Cell.len,List.take_left]
def lT{H:Heap}{b o n a m:Nat}{cs:List IV}(h:H.read b o n=some cs)(A:a+m<=n):H.read b (o+a) m=some ((cs.drop a).take m):=by unfold Heap.read at h⊢;cases q:H.get b with|none=>rw[q] at h;cases h|some ob=>rw[q] at h;cases ob with|cells E e ez u=>simp only at h⊢;split at h;{injection h with h;rw[iP,<-h,List.drop_take,List.take_take,qH,show min m (n - a)=m from by omega]};{cases h}|_=>cases h
def Sl(H:Heap)(v:SV)(l:List α):Prop:=match v with|.nil=>l=[]|.sl b o n c _=>n=l.length/\n<=c/\(l≠[]->b<H.n/\H.read b o (l.length*Cell.z α)=some (aA l))
def Sl.keep{H H':Heap}{v:SV}{l:List α}(h:Sl H v l)(k:Keep H.n H H'):Sl H' v l:=by cases v with|nil=>exact h|sl b o n c ex=>exact⟨h.1,h.2.1,λq=>⟨cj (h.2.2 q).1 k.1,(k.read b o _ (h.2.2 q).1 (h.2.2 q).1).trans (h.2.2 q).2⟩⟩
def Sl.same{H H':Heap}{v:SV}{l:List α}(h:Sl H v l)(hn:H.n<=H'.n)(u:l≠[]->H'.get v.blk=H.get v.blk):Sl H' v l:=by cases v with|nil=>exact h|sl b o n c ex=>exact⟨h.1,h.2.1,λq=>⟨cj (h.2.2 q).1 hn,(KL (u q) o _).trans (h.2.2 q).2⟩⟩
def Sl.blk_lt{H:Heap}{v:SV}{l:List α}(h:Sl H v l)(q:l≠[]):v.blk<H.n:=by cases v with|nil=>exact absurd h q|sl b o n c ex=>exact(h.2.2 q).1
def Sl.blk_lt'{H:Heap}{v:SV}{l:List α}(h:Sl H v l){i:Nat}(q:i<l.length):v.blk<H.n:=h.blk_lt (by grind)
def dF{H:Heap}:Sl H .nil ([]:List α):=rfl
def Sl.ln{H:Heap}{v:SV}{l:List α}(h:Sl H v l)(lo:Nat)(H':Heap):ev1 .lenSl [v.iv] lo H'=some (.int .i64 l.length,H'):=by cases v with|nil=>have h:l=[]:=h;subst h;rfl|sl b o n c ex=>rw[<-h.1];rfl
def Sl.lenI{H:Heap}{v:SV}{l:List α}(h:Sl H v l):lJ v.iv=some l.length:=by cases v with|nil=>have h:l=[]:=h;subst h;rfl|sl b o n c ex=>rw[<-h.1];rfl
def Sl.srcI{H:Heap}{v:SV}{l:List α}(h:Sl H v l){z:Nat}(u:Cell.z α=z):fK H z l.length v.iv=some (aA l):=by subst u;cases v with|nil=>have h:l=[]:=h;subst h;rfl|sl b o n c ex=>show(if l.length=0 then some [] else H.read b o (l.length*Cell.z α))=_;by_cases q:l=[];{subst q;rfl};{rw[if_neg (by grind)];exact(h.2.2 q).2}
def Sl.idx{H:Heap}{v:SV}{l:List α}(h:Sl H v l)(z:Nat)(x:Int)(lo:Nat)(H':Heap)(h0:0<=x)(q:x<l.length):ev1 (.idxSl z) [v.iv,.int .i64 x] lo H'=some (.ptr v.blk (v.off+x.toNat*z),H'):=by cases v with|nil=>have h:l=[]:=h;subst h;simp at q;omega|sl b o n c ex=>have hn:=h.1;simp only[ev1,SV.iv,SV.blk,SV.off];rw[if_pos ⟨h0,Om⟩]
def Sl.read{H:Heap}{v:SV}{l:List α}(h:Sl H v l){z:Nat}(u:Cell.z α=z)(i:Nat)(hi:i<l.length):H.read v.blk (v.off+i*z) z=some (Cell.cs l[i]):=by subst u;have q:l≠[]:=by{grind};cases v with|nil=>exact absurd h q|sl b o n c ex=>have:=lT (a:=i*Cell.z α) (m:=Cell.z α) (h.2.2 q).2 (by rw[<-eD];exact nU _ hi);rw[Ul l i hi] at this;exact this
def Sl.part{H:Heap}{b o n c:Nat}{ex:Bool}{l:List α}(h:Sl H (.sl b o n c ex) l){z:Nat}(F:Cell.z α=z){a m c':Nat}{ex':Bool}(hm:a+m<=l.length)(E:m<=c'):Sl H (.sl b (o+a*z) m c' ex') ((l.drop a).take m):=by subst F;have u:((l.drop a).take m).length=m:=by{rw[fB,lW];omega};refine⟨u.symm,E,λA=>?_⟩;have q:l≠[]:=by{intro e;rw[e] at A;simp at A};refine⟨(h.2.2 q).1,?_⟩;have:=lT (a:=a*Cell.z α) (m:=m*Cell.z α) (h.2.2 q).2 (by rw[<-qW];exact nU _ hm);grind[qj,BR]
def FL(n:Nat)(a:α):nR n (Cell.cs a)=aA (List.replicate n a):=by induction n with|zero=>rfl|succ n q=>rw[nR,q,yy,bA]
def mm(l:List α)(i:Nat)(a:α)(h:i<l.length):aw (aA l) (i*Cell.z α) (Cell.cs a)=aA (l.set i a):=by have q:i*Cell.z α+Cell.z α<=(aA l).length:=by{rw[az,<-eD];exact nU _ h};rw[dy _ _ _ (by rw[Cell.len];exact q),BR,Cell.len,<-eD,qj,List.set_eq_take_append_cons_drop,if_pos h];rw[eW,bA,ci]
def bI(tm:List IV)(n:Nat)(h:tm.length=n):tm=(List.range n).map λi=>tm.getD i UN:=by subst h;apply eQ<;>grind
def Own(H:Heap)(b e cap:Nat)(l:List α):Prop:=l.length<=cap/\b<H.n/\∃r,H.get b=some (.cells false e (Cell.z α) (aA l++r))/\r.length=(cap - l.length)*Cell.z α
def Own.sl{H:Heap}{b e cap:Nat}{l:List α}(h:Own H b e cap l)(ex:Bool):Sl H (.sl b 0 l.length cap ex) l:=by obtain⟨q,u,r,A,E⟩:=h;refine⟨rfl,q,λ_=>⟨u,?_⟩⟩;rw[ae A,cV,if_pos (by rw[aW,az];omega),qG,<-az,List.take_left]
def Own.same{H H':Heap}{b e cap:Nat}{l:List α}(h:Own H b e cap l)(hn:H.n<=H'.n)(F:H'.get b=H.get b):Own H' b e cap l:=by obtain⟨q,u,r,A,E⟩:=h;exact⟨q,cj u hn,r,F.trans A,E⟩
def Own.keep{H H':Heap}{b e cap:Nat}{l:List α}(h:Own H b e cap l)(k:Keep H.n H H'):Own H' b e cap l:=h.same k.1 (k.2 b h.2.1 h.2.1)
def Own.full{H:Heap}{b e:Nat}{l:List α}(h:Own H b e l.length l):H.get b=some (.cells false e (Cell.z α) (aA l)):=by obtain⟨q,u,r,A,E⟩:=h;grind
def Own.mk'{H:Heap}{b e:Nat}{l:List α}(q:b<H.n){z:Nat}(E:Cell.z α=z){cs:List IV}(A:H.get b=some (.cells false e z cs))(u:cs=aA l):Own H b e l.length l:=by subst E u;exact⟨aq _,q,[],by rw[A,dt],by simp⟩
def Own.mksl{H:Heap}{e n:Nat}{z:Nat}(q:Cell.z α=z)(a:α):Own (H.new (.cells false e z (nR n (Cell.cs a)))) H.n e n (List.replicate n a):=by subst q;refine⟨by simp,by rw[ac];omega,[],by rw[aj,if_pos rfl,dt,FL],by simp⟩
def vq{H:Heap}{e n:Nat}{z:Nat}(u:Cell.z α=z){cs:List IV}(q:cs.length=n*z):Own (H.new (.cells false e z cs)) H.n e n ([]:List α):=by subst u;exact⟨by simp,by rw[ac];omega,cs,by rw[aj,if_pos rfl];rfl,by simp[q]⟩
def Own.set{H:Heap}{b e cap:Nat}{l:List α}(h:Own H b e cap l){z:Nat}(K:Cell.z α=z)(i:Nat)(hi:i<l.length)(a:α)(lo:Nat)(q:lo<=b):∃cs,H.write lo b (i*z) (Cell.cs a)=some (H.put b (.cells false e z cs))/\Own (H.put b (.cells false e z cs)) b e cap (l.set i a):=by subst K;obtain⟨u,A,r,E,F⟩:=h;have I:=az l;have O:i*Cell.z α+Cell.z α<=l.length*Cell.z α:=by{rw[<-eD];exact nU _ hi};refine⟨aw (aA l++r) (i*Cell.z α) (Cell.cs a),?_,?_⟩;{unfold Heap.write;rw[E];simp only;rw[if_pos ⟨q,by rw[Cell.len,aW];omega,Cell.one a⟩]};{refine⟨by simp[u],A,r,?_,by simp[F]⟩;rw[aa,if_pos rfl,<-mm l i a hi,dy _ _ _ (by rw[Cell.len,aW];omega),dy _ _ _ (by rw[Cell.len];omega),Cell.len];grind}
def Own.push{H:Heap}{b e cap:Nat}{l m:List α}(h:Own H b e cap l){z:Nat}(I:Cell.z α=z)(Q:l.length+m.length<=cap)(lo:Nat)(F:lo<=b):∃cs,H.write lo b (l.length*z) (aA m)=some (H.put b (.cells false e z cs))/\Own (H.put b (.cells false e z cs)) b e cap (l++m):=by subst I;obtain⟨K,E,r,O,A⟩:=h;have u:=az l;have q:=az m;have T:(aA m).length<=r.length:=by{rw[q,A];exact nU _ Om};refine⟨aw (aA l++r) (l.length*Cell.z α) (aA m),?_,?_⟩;{simp_all[Heap.write,if_pos,aW,fE]};{refine⟨by simp;omega,E,r.drop (aA m).length,?_,?_⟩;{rw[aa,if_pos rfl,dy _ _ _ (by grind),eW,<-u,List.take_left,List.drop_length_add_append]};{rw[lW,A,q,aW,<-Nat.sub_mul];congr 1;omega}}
end
section
variable {α:Type}[Cell α]
theorem Keep.newPut{H:Heap}{o o':IObj}:Keep H.n H ((H.new o).put H.n o'):=(Keep.new _ _).trans (.put _ _ (aq _))
def d0{H:Heap}{v:SV}{l:List α}(A:Sl H v l){z:Nat}(O:Cell.z α=z)(e lo:Nat)(zs:List IV)(F:zs.length=z)(u:lo<=H.n):∃q,ev1 (.copy z) [.slice H.n 0 l.length l.length true,v.iv] lo (H.new (.cells false e z (nR l.length zs)))=some (.int .i64 l.length,q)/\q.n=H.n+1/\Keep H.n H q/\Own q H.n e l.length l:=by subst O;have E:=A.keep (H':=H.new (.cells false e (Cell.z α) (nR l.length zs))) (Keep.new _ _);have I:ny (.slice H.n 0 l.length l.length true)=some l.length:=rfl;by_cases h0:l=[];{subst h0;refine⟨H.new (.cells false e (Cell.z α) []),?_,ac _ _,Keep.new _ _,Own.mk' (l:=[]) (cs:=[]) (by rw[ac];omega) rfl (by rw[aj,if_pos rfl]) rfl⟩;simp only[ev1,I,A.lenI];rfl};{have K:0<l.length:=List.length_pos_iff.2 h0;refine⟨(H.new (.cells false e (Cell.z α) (nR l.length zs))).put H.n (.cells false e (Cell.z α) (aA l)),?_,by rw[af,ac],Keep.newPut,Own.mk' (by rw[af,ac];omega) rfl (by rw[aa,if_pos rfl]) rfl⟩;simp only[ev1,I,A.lenI];rw[Nat.min_self,iN,E.srcI rfl];simp only[bF,Heap.write];rw[aj,if_pos rfl];simp only;have Q:(nR l.length zs).length=(aA l).length:=by{rw[eN,F,az]};rw[if_pos ⟨u,Om,fE l⟩,dy _ _ _ Om];grind}
def Own.put{H:Heap}{b e:Nat}{l:List α}(h:Own H b e l.length l){z:Nat}(q:Cell.z α=z)(i:Nat)(hi:i<l.length)(a:α):Own (H.put b (.cells false e z (aw (aA l) (i*z) (Cell.cs a)))) b e l.length (l.set i a):=by subst q;rw[mm l i a hi];have:=Own.mk' (H:=H.put b (.cells false e (Cell.z α) (aA (l.set i a)))) (l:=l.set i a) (b:=b) (e:=e) h.2.1 rfl (by rw[aa,if_pos rfl]) rfl;grind
def Rl{H:Heap}{b e n:Nat}{ex:Bool}{d l:List α}{v:SV}(u:Own H b e n d)(hd:d.length=n)(A:Sl H v l){z:Nat}(Y:Cell.z α=z)(lo:Nat)(T:l.length<=n)(V:lo<=b):∃q,ev1 (.copy z) [.slice b 0 n n ex,v.iv] lo H=some (.int .i64 l.length,q)/\q.n=H.n/\(∀x,x≠b->q.get x=H.get x)/\Own q b e n (l++d.drop l.length):=by subst Y hd;have E:ny (.slice b 0 d.length d.length ex)=some d.length:=rfl;have K:=u.full;by_cases h0:l=[];{subst h0;refine⟨H,?_,rfl,λ_ _=>rfl,by simpa using u⟩;simp only[ev1,E,A.lenI];rw[if_pos (by simp)];rfl};{have I:0<l.length:=List.length_pos_iff.2 h0;have Q:=az l;have O:=az d;have U:(aA l).length<=(aA d).length:=by{simp_all[nU]};refine⟨H.put b (.cells false e (Cell.z α) (aA (l++d.drop l.length))),?_,af _ _ _,λx hx=>by rw[aa,if_neg (Ne.symm hx)],?_⟩;{simp only[ev1,E,A.lenI];rw[vC T,iN,A.srcI rfl];simp only[bF,Heap.write,K];simp_all[if_pos,fE,dy,sG,ie,cV,qj,eW]};{have F:(l++d.drop l.length).length=d.length:=by{rw[aW,lW];omega};have:=Own.mk' (H:=H.put b (.cells false e (Cell.z α) (aA (l++d.drop l.length)))) (l:=l++d.drop l.length) (b:=b) (e:=e) u.2.1 rfl (by rw[aa,if_pos rfl]) rfl;grind}}
def i5{H:Heap}{b e cap:Nat}{ex:Bool}{l m:List α}{v:SV}(I:Own H b e cap l)(E:Sl H v m){z:Nat}(F:Cell.z α=z)(bytes lo:Nat)(O:l.length+m.length<=cap)(u:lo<=b):∃q,ev1 (.append e z bytes) [.slice b 0 l.length cap ex,v.iv] lo H=some (.slice b 0 (l.length+m.length) cap ex,q)/\q.n=H.n/\(∀b',b'≠b->q.get b'=H.get b')/\Own q b e cap (l++m):=by simp only[ev1,E.lenI,E.srcI F,bF,cS];rw[if_neg (by rw[fE];decide)];by_cases h0:m=[];{grind};{have A:0<m.length:=List.length_pos_iff.2 h0;obtain⟨cs,Q,K⟩:=I.push F O lo u;simp_all[af,aa,if_neg,Ne.symm,if_pos,cV]}
def i6{H:Heap}{b e n:Nat}{l m:List α}{v:SV}(Q:Own H b e n l)(hn:n=l.length)(F:Sl H v m){z:Nat}(T:Cell.z α=z)(bytes lo:Nat)(hm:m≠[])(K:(l.length+m.length)*(bytes+1)<=2^40)(A:lo<=b):∃q,ev1 (.append e z bytes) [.slice b 0 l.length n false,v.iv] lo H=some (.slice H.n 0 (l.length+m.length) (l.length+m.length) false,q)/\q.n=H.n+1/\(∀b',b'≠b->b'<H.n->q.get b'=H.get b')/\Own q H.n e (l.length+m.length) (l++m):=by subst hn T;have E:0<m.length:=List.length_pos_iff.2 hm;have O:=Q.full;simp only[ev1,F.lenI,F.srcI rfl,bF,cS];rw[if_neg (by rw[fE];decide)];rw[iN,iN,if_pos K,O];simp only[ii,if_false];have u:=az l;rw[if_pos ⟨trivial,trivial,Cell.pos,trivial,A,Om⟩];refine⟨_,rfl,by rw[ac,af],λb' I U=>by rw[aj,if_neg (by rw[af];omega),aa,if_neg (Ne.symm I)],?_⟩;rw[<-u,vE,<-eW,<-aW];exact Own.mk' (by rw[ac,af];omega) rfl (by rw[aj,if_pos (af _ _ _)]) rfl
def nK{H:Heap}{e:Nat}{m:List α}{v:SV}(A:Sl H v m){z:Nat}(F:Cell.z α=z)(bytes lo:Nat)(hm:m≠[])(E:m.length*(bytes+1)<=2^40):∃q,ev1 (.append e z bytes) [.nilSlice,v.iv] lo H=some (.slice H.n 0 m.length m.length false,q)/\q.n=H.n+1/\Keep H.n H q/\Own q H.n e m.length m:=by subst F;have u:0<m.length:=List.length_pos_iff.2 hm;simp only[ev1,A.lenI,A.srcI rfl,bF,cS];rw[if_neg (by rw[fE];decide)];rw[iN,if_pos E];exact⟨_,rfl,ac _ _,Keep.new _ _,Own.mk' (by rw[ac];omega) rfl (by rw[aj,if_pos rfl]) rfl⟩
def i9{H:Heap}{b o n e:Nat}{l m:List α}{v:SV}(hs:Sl H (.sl b o l.length n true) l)(E:Sl H v m){z:Nat}(I:Cell.z α=z)(bytes lo:Nat)(hm:m≠[])(hn:n<l.length+m.length)(F:(l.length+m.length)*(bytes+1)<=2^40):∃u,ev1 (.append e z bytes) [.slice b o l.length n true,v.iv] lo H=some (.slice H.n 0 (l.length+m.length) (l.length+m.length) false,u)/\u.n=H.n+1/\Keep H.n H u/\Own u H.n e (l.length+m.length) (l++m):=by subst I;have A:0<m.length:=List.length_pos_iff.2 hm;have q:=hs.srcI rfl;simp only[SV.iv] at q;simp only[ev1,E.lenI,E.srcI rfl,bF,cS];rw[if_neg (by rw[fE];decide)];rw[iN,iN,if_pos F,if_pos trivial,q];refine⟨_,rfl,ac _ _,Keep.new _ _,?_⟩;rw[<-eW,<-aW];exact Own.mk' (by rw[ac];omega) rfl (by rw[aj,if_pos rfl]) rfl
end
section
variable {α:Type}[Cell α]
def Sl2(H:Heap)(v:SV)(ls:List (List α)):Prop:=∃vs:List SV,Sl H v vs/\vs.length=ls.length/\∀(i:Nat)(h:i<ls.length)(q:i<vs.length),Sl H vs[i] ls[i]
def Sl2.keep{H H':Heap}{v:SV}{ls:List (List α)}(h:Sl2 H v ls)(k:Keep H.n H H'):Sl2 H' v ls:=by obtain⟨vs,q,u,A⟩:=h;exact⟨vs,q.keep k,u,λi a b=>(A i a b).keep k⟩
def Sl2.ln{H:Heap}{v:SV}{ls:List (List α)}(h:Sl2 H v ls)(lo:Nat)(H':Heap):ev1 .lenSl [v.iv] lo H'=some (.int .i64 ls.length,H'):=by obtain⟨vs,q,u,A⟩:=h;rw[q.ln,u]
def Sl2.idx{H:Heap}{v:SV}{ls:List (List α)}(h:Sl2 H v ls)(z:Nat)(x:Int)(lo:Nat)(H':Heap)(h0:0<=x)(u:x<ls.length):ev1 (.idxSl z) [v.iv,.int .i64 x] lo H'=some (.ptr v.blk (v.off+x.toNat*z),H'):=by obtain⟨vs,g1,g2,q⟩:=h;exact g1.idx z x lo H' h0 Om
def Sl2.elem{H:Heap}{v:SV}{ls:List (List α)}(h:Sl2 H v ls)(i:Nat)(hi:i<ls.length):∃w:SV,H.read v.blk (v.off+i*1) 1=some [w.iv]/\Sl H w ls[i]/\v.blk<H.n:=by obtain⟨vs,g1,g2,q⟩:=h;exact⟨vs[i]'Om,g1.read (α:=SV) rfl i Om,q i hi Om,g1.blk_lt' (i:=i) Om⟩
def Sl2.nil{H:Heap}:Sl2 H .nil ([]:List (List α)):=⟨[],rfl,rfl,λi h=>by simp at h⟩
def Fresh(n0:Nat)(H:Heap)(e:Nat)(v:SV)(l:List α):Prop:=(v=.nil/\l=[])\/∃b,v=.sl b 0 l.length l.length true/\n0<=b/\Own H b e l.length l
def Fresh.sl{n0:Nat}{H:Heap}{e:Nat}{v:SV}{l:List α}(h:Fresh n0 H e v l):Sl H v l:=by rcases h with⟨rfl,rfl⟩|⟨b,rfl,u,q⟩;{exact dF};{exact q.sl true}
def Fresh.keep{n0:Nat}{H H':Heap}{e:Nat}{v:SV}{l:List α}(h:Fresh n0 H e v l)(k:Keep H.n H H'):Fresh n0 H' e v l:=by rcases h with⟨rfl,rfl⟩|⟨b,rfl,q,u⟩;{exact .inl ⟨rfl,rfl⟩};{exact .inr ⟨b,rfl,q,u.keep k⟩}
end
def Sl.cellsAt{α:Type}[Cell α]{H:Heap}{v:SV}{l:List α}(h:Sl H v l)(E:l≠[]):∃u e ez cs,H.get v.blk=some (.cells u e ez cs):=by cases v with|nil=>exact absurd h E|sl b o n c ex=>have q:=(h.2.2 E).2;unfold Heap.read at q;show ∃u e ez cs,H.get b=_;cases A:H.get b with|none=>rw[A] at q;cases q|some ob=>rw[A] at q;cases ob with|cells u e ez cs=>exact⟨_,_,_,_,rfl⟩|_=>cases q
def Sl.off{α:Type}[Cell α]{H:Heap}{v:SV}{l:List α}(h:Sl H v l)(u:l≠[]){x:Nat}{ob:IObj}(hx:H.get x=some ob)(A:∀q e ez cs,ob≠.cells q e ez cs):v.blk≠x:=by intro e;obtain⟨q,a,b,c,E⟩:=h.cellsAt u;grind
def aT{α:Type}:List (List α)->Nat|[]=>0|a::l=>if aT l=0/\a=[] then 0 else aT l+1
theorem fT{α:Type}:∀l:List (List α),aT l<=l.length|[]=>aq _|a::l=>by have:=fT l;grind[aT,List.length_cons]
def fA{α:Type}:∀(l:List (List α))(i:Nat)(h:i<l.length),aT l<=i->l[i]=[]|[],_,h,_=>by simp at h|a::l,0,h,k=>by grind[aT]|a::l,i+1,h,k=>by have:aT l<=i:=by{grind[aT]};exact fA l i (by simpa using h) this
theorem kZ{α:Type}:∀(l:List (List α))(n:Nat)(h:n<l.length),aT l=n+1->l[n]≠[]|[],_,h,_=>by simp at h|a::l,n,h,k=>by unfold aT at k;split at k;{omega};{rename_i hn;cases n with|zero=>simp only[List.getElem_cons_zero];exactλe=>hn ⟨Om,e⟩|succ n=>exact kZ l n (by simpa using h) Om}
def oG{α:Type}{l:List (List α)}{n:Nat}(hn:n<=l.length)(q:∀i (h:i<l.length),n<=i->l[i]=[])(u:∀m (h:m<l.length),n=m+1->l[m]≠[]):n=aT l:=by rcases Dz n (aT l) with h|h|h;{exfalso;have A:=fT l;exact kZ l (aT l - 1) Om Om (q _ Om Om)};{exact h};{exfalso;exact u (n - 1) Om Om (fA l _ Om Om)}
section
variable {α:Type}
def gE(f:Nat->α)(a b n x:Nat):α:=if a<=x/\x<a+n then f (x+b - a) else if b<=x/\x<b+n then f (x+a - b) else f x
def m8(f:Nat->α)(a m b x:Nat):α:=if a<=x/\x<a+(b - m) then f (x+(m - a)) else if a+(b - m)<=x/\x<b then f (x - (b - m)) else f x
def Iz(f:Nat->α)(a b x:Nat):gE f a b 0 x=f x:=by simp_all[gE,if_neg]
def IB{f g:Nat->α}{a b n:Nat}(q:a+n<b)(u:∀x,g x=if x=b+n then gE f a b n (a+n) else if x=a+n then gE f a b n (b+n) else gE f a b n x)(x:Nat):g x=gE f a b (n+1) x:=by rw[u];unfold gE;grind
theorem PJ{f g:Nat->α}{m i j:Nat}(hi:i<=m)(F:0<j)(E:j<i)(u:∀x,g x=gE f (m - i) m j x)(x:Nat):m8 g (m - (i - j)) m (m+j) x=m8 f (m - i) m (m+j) x:=by unfold m8;by_cases A:m - (i - j)<=x/\x<m - (i - j)+(m+j - m);{rw[if_pos A,u];unfold gE;by_cases q:m<=x+(m - (m - (i - j)))<;>grind};{rw[if_neg A];by_cases q:m - (i - j)+(m+j - m)<=x/\x<m+j;{rw[if_pos q,u];unfold gE;grind};{rw[if_neg q,u];unfold gE;grind}}
theorem Mv{f g:Nat->α}{m i j:Nat}(hi:i<=m)(E:0<i)(F:i<j)(q:∀x,g x=gE f (m - i) (m+j - i) i x)(x:Nat):m8 g (m - i) m (m+(j - i)) x=m8 f (m - i) m (m+j) x:=by unfold m8;by_cases u:m - i<=x/\x<m - i+(m+(j - i) - m);{rw[if_pos u,q,iP];unfold gE;grind};{rw[if_neg u];by_cases A:m - i+(m+(j - i) - m)<=x/\x<m+(j - i);{rw[if_pos A,q];unfold gE;grind};{rw[if_neg A,q];unfold gE;grind}}
def PI{f g:Nat->α}{m i:Nat}(hi:i<=m)(q:∀x,g x=gE f (m - i) m i x)(x:Nat):g x=m8 f (m - i) m (m+i) x:=by rw[q];unfold gE m8;grind
def FJ(f:Nat->α){a m b:Nat}(q:a<=m)(u:m<=b)(h:a=m\/m=b)(x:Nat):m8 f a m b x=f x:=by unfold m8;grind
end
section
variable {α:Type}[Inhabited α]
def aP(l:List α)(x:Nat):α:=l.getD x default
theorem jd{l:List α}{x:Nat}(h:x<l.length):aP l x=l[x]:=by unfold aP;grind
def gC(l:List α)(i j:Nat):List α:=(l.set i (aP l j)).set j (aP l i)
def jF(l:List α)(i j:Nat):(gC l i j).length=l.length:=by simp[gC]
def Iy{l:List α}{i j:Nat}(hi:i<l.length)(q:j<l.length):(gC l i j).Perm l:=by grind[gC,jd,List.set_set_perm]
theorem gO{l:List α}{i j:Nat}(hi:i<l.length)(A:j<l.length)(x:Nat):aP (gC l i j) x=if x=j then aP l i else if x=i then aP l j else aP l x:=by unfold gC;by_cases q:x=j;{subst q;rw[if_pos rfl,jd (by simpa using A)];simp};{rw[if_neg q];by_cases u:x=i;{subst u;rw[if_pos rfl,jd (by simpa using hi)];rw[ij (Ne.symm q),lY]};simp_all[if_neg,aP,bG,List.getElem?_set_ne,Ne.symm]}
structure Mix(a b:Nat)(l l':List α):Prop where
 len:l'.length=l.length
 perm:l'.Perm l
 out:∀x,(x < a∨b≤x)→aP l' x=aP l x
 img:∀x,a≤x→x < b→∃y,a≤y∧y < b∧aP l' x=aP l y
theorem Mix.refl(a b:Nat)(l:List α):Mix a b l l:=⟨rfl,.refl _,λ_ _=>rfl,λx q u=>⟨x,q,u,rfl⟩⟩
def Mix.trans{a b:Nat}{l m n:List α}(h:Mix a b l m)(k:Mix a b m n):Mix a b l n:=by refine⟨k.len.trans h.len,k.perm.trans h.perm,λx hx=>(k.out x hx).trans (h.out x hx),λx q u=>?_⟩;obtain⟨y,A,E,F⟩:=k.img x q u;obtain⟨z,I,K,O⟩:=h.img y A E;grind
def Mix.wide{a b c d:Nat}{l m:List α}(h:Mix a b l m)(A:c<=a)(hd:b<=d):Mix c d l m:=by refine⟨h.len,h.perm,λx hx=>h.out x Om,λx q u=>?_⟩;by_cases hx:a<=x/\x<b;{obtain⟨y,E,F,I⟩:=h.img x hx.1 hx.2;grind};{exact⟨x,q,u,h.out x Om⟩}
def Mix.swap{a b i j:Nat}{l:List α}(A:b<=l.length)(hi:a<=i/\i<b)(E:a<=j/\j<b):Mix a b l (gC l i j):=by have q:i<l.length:=Om;have u:j<l.length:=Om;refine⟨jF _ _ _,Iy q u,λx hx=>?_,λx F I=>?_⟩;{rw[gO q u,iN,iN]};{rw[gO q u];grind}
variable (lt:α->α->Prop)
def Srt(l:List α)(a b:Nat):Prop:=∀i j,a<=i->i<j->j<b->lt (aP l i) (aP l j)
def Srt.part{lt:α->α->Prop}{l:List α}{a b c d:Nat}(h:Srt lt l a b)(E:a<=c)(hd:d<=b):Srt lt l c d:=λi j u q A=>h i j Om q Om
def Srt.out{lt:α->α->Prop}{l q:List α}{a b c d:Nat}(h:Srt lt l a b)(k:Mix c d l q)(hd:b<=c\/d<=a):Srt lt q a b:=λi j u A E=>by rw[k.out i Om,k.out j Om];exact h i j u A E
def RR{lt:α->α->Prop}{l l1 l2:List α}{a m b:Nat}(E:Mix a m l l1)(u:Mix m b l1 l2)(F:Srt lt l1 a m)(I:Srt lt l2 m b)(K:∀x y,a<=x->x<m->m<=y->y<b->lt (aP l x) (aP l y)):Srt lt l2 a b:=by intro i j hi q A;by_cases c1:j<m;{rw[u.out i Om,u.out j Om];exact F i j hi q c1};{by_cases c2:m<=i;{exact I i j c2 q A};{rw[u.out i Om];obtain⟨x,O,Q,T⟩:=E.img i hi Om;obtain⟨y,U,V,Y⟩:=u.img j Om A;rw[T,Y,E.out y Om];exact K x y O Q U V}}
def SY{lt ord:α->α->Prop}{l l1:List α}{a m b mid start q:Nat}(Z:a<=start)(h2:start<=mid)(h3:start<=m)(h4:mid<=q)(h5:m<=q)(h6:q<=b)(he:start+q=mid+m)(sL:Srt lt l a m)(V:Srt lt l m b)(E:∀i j,a<=i->i<m->m<=j->j<b->ord (aP l i) (aP l j))(pA:∀i j,a<=i->i<start->q<=j->j<b->lt (aP l i) (aP l j))(Y:∀i j,m<=i->i<q->start<=j->j<m->lt (aP l i) (aP l j))(T:∀x,aP l1 x=m8 (aP l) start m q x):(Srt lt l1 a start/\Srt lt l1 start mid/\Srt lt l1 mid q/\Srt lt l1 q b)/\(∀i j,a<=i->i<start->start<=j->j<mid->ord (aP l1 i) (aP l1 j))/\(∀i j,mid<=i->i<q->q<=j->j<b->ord (aP l1 i) (aP l1 j))/\ ∀x y,a<=x->x<mid->mid<=y->y<b->lt (aP l1 x) (aP l1 y):=by have K:∀x,x<start->aP l1 x=aP l x:=λx hx=>by{rw[T];unfold m8;grind};have O:∀x,start<=x->x<mid->aP l1 x=aP l (x+(m - start)):=λx hx U=>by{rw[T];unfold m8;rw[iP]};have F:∀x,mid<=x->x<q->aP l1 x=aP l (x - (q - m)):=λx hx U=>by{rw[T];unfold m8;grind};have Q:∀x,q<=x->aP l1 x=aP l x:=λx hx=>by{rw[T];unfold m8;grind};refine⟨⟨λi j q1 A u=>?_,λi j q1 A u=>?_,λi j q1 A u=>?_,λi j q1 A u=>?_⟩,λi j q1 A u I=>?_,λi j q1 A u I=>?_,λx y q1 A u I=>?_⟩;{rw[K i Om,K j u];exact sL i j q1 A Om};{rw[O i q1 Om,O j Om u];exact V _ _ Om Om Om};{rw[F i q1 Om,F j Om u];exact sL _ _ Om Om Om};{rw[Q i q1,Q j Om];exact V _ _ Om A u};{rw[K i A,O j u I];exact E _ _ q1 Om Om Om};{rw[F i q1 A,Q j u];exact E _ _ Om Om Om I};{by_cases c1:x<start;{rw[K x c1];by_cases c2:y<q;{rw[F y u c2];exact sL _ _ q1 Om Om};grind};{rw[O x Om A];by_cases c2:y<q;{rw[F y u c2];exact Y _ _ Om Om Om Om};{rw[Q y Om];exact V _ _ Om Om I}}}
def EF{lt:α->α->Prop}{l:List α}(h:Srt lt l 0 l.length):l.Pairwise lt:=by rw[Bo];intro i j hi u q;have:=h i j (dI _) q u;grind[jd]
def ji{lt:α->α->Prop}{l:List α}(h:l.Pairwise lt)(a b:Nat)(E:b<=l.length):Srt lt l a b:=by rw[Bo] at h;intro i j q u A;grind[jd]
end
theorem vt{α:Type}{lt:α->α->Prop}(q:∀a,¬lt a a)(F:∀a b c,lt a b->lt b c->lt a c):∀{l m:List α},l.Pairwise lt->m.Pairwise lt->(∀x,x∈l↔x∈m)->l=m|[],[],_,_,_=>rfl|[],b::m,_,_,h=>absurd ((h b).2 (by simp)) (by simp)|a::l,[],_,_,h=>absurd ((h a).1 (by simp)) (by simp)|a::l,b::m,E,hm,h=>by rw[List.pairwise_cons] at E hm;have A:a=b:=by{rcases List.mem_cons.1 ((h a).1 (by simp)) with e|e;{exact e};{rcases List.mem_cons.1 ((h b).2 (by simp)) with u|u;{exact u.symm};{exact absurd (F _ _ _ (E.1 b u) (hm.1 a e)) (q a)}}};subst A;congr 1;refine vt q F E.2 hm.2 λx=>⟨λhx=>?_,λhx=>?_⟩<;>grind
def MM{f:Fp}:bH .none f=true:=by cases f<;>rfl
def Bu{f:Fp}:bH f .none=true:=by cases f<;>rfl
def MJ{b o n b' o' q:Nat}:bH (.rd b o n) (.rd b' o' q)=true:=rfl
def MH{b o n b' o' q:Nat}:bH (.rd b o n) (.wr b' o' q)=iD b o n b' o' q:=rfl
def MG{b o n b' o' q:Nat}:bH (.wr b o n) (.rd b' o' q)=iD b o n b' o' q:=rfl
def MF{b o n b' o' q:Nat}:bH (.wr b o n) (.wr b' o' q)=iD b o n b' o' q:=rfl
def ML{b o n b':Nat}:bH (.rd b o n) (.wb b')=decide (b'≠b):=rfl
def MO{b o n b':Nat}:bH (.wb b') (.rd b o n)=decide (b'≠b):=rfl
def I9{b o n b':Nat}:bH (.wr b o n) (.wb b')=decide (b'≠b):=rfl
def MN{b o n b':Nat}:bH (.wb b') (.wr b o n)=decide (b'≠b):=rfl
def MP{b b':Nat}:bH (.wb b) (.wb b')=decide (b≠b'):=rfl
def aZ{q:dm}{o:IOp}{xs:List IV}(h:fe o xs=some .none):bu (some q) o xs=some (some ((o.idx,.none)::q)):=by simp_all[bu,mj,if_pos,sJ,Bu]
section
variable {fc:dm}{dst:Option Nat}{args:List IA}{g:Option (Nat×Bool)}{amb:Bool}{idx mask:Nat}{xs:List IV}
def Ji{o:IOp}:bu none o xs=some none:=rfl
def Gc:bu (some fc) ⟨dst,.move,args,g,amb,idx,mask⟩ xs=some (some ((idx,.none)::fc)):=aZ rfl
def Jj{op:BinOp}:bu (some fc) ⟨dst,.bin op,args,g,amb,idx,mask⟩ xs=some (some ((idx,.none)::fc)):=aZ rfl
def MX{op:UnOp}:bu (some fc) ⟨dst,.un op,args,g,amb,idx,mask⟩ xs=some (some ((idx,.none)::fc)):=aZ rfl
def Ge{k:IntKind}:bu (some fc) ⟨dst,.conv k,args,g,amb,idx,mask⟩ xs=some (some ((idx,.none)::fc)):=aZ rfl
def DP{z:Nat}:bu (some fc) ⟨dst,.idxSl z,args,g,amb,idx,mask⟩ xs=some (some ((idx,.none)::fc)):=aZ rfl
def uM{z:Nat}:bu (some fc) ⟨dst,.fieldAddr z,args,g,amb,idx,mask⟩ xs=some (some ((idx,.none)::fc)):=aZ rfl
def DQ{z:Nat}{n:Option Nat}:bu (some fc) ⟨dst,.field z n,args,g,amb,idx,mask⟩ xs=some (some ((idx,.none)::fc)):=aZ rfl
def DO:bu (some fc) ⟨dst,.lenSl,args,g,amb,idx,mask⟩ xs=some (some ((idx,.none)::fc)):=aZ rfl
def Gb:bu (some fc) ⟨dst,.pick,args,g,amb,idx,mask⟩ xs=some (some ((idx,.none)::fc)):=aZ rfl
def sX{l z:Nat}:bu (some fc) ⟨dst,.idxArrAddr l z,args,g,amb,idx,mask⟩ xs=some (some ((idx,.none)::fc)):=aZ rfl
end
def acz(m k:Nat):Nat.testBit m k=decide (m / 2^k%2=1):=Nat.testBit_eq_decide_div_mod_eq
section
variable {α:Type}[Cell α]
def Gr(n0:Nat)(H:Heap)(e:Nat)(v:SV)(l:List α):Prop:=(v=.nil/\l=[])\/∃b,v=.sl b 0 l.length l.length false/\n0<=b/\l≠[]/\Own H b e l.length l
def Gr.nil{n0:Nat}{H:Heap}{e:Nat}:Gr n0 H e .nil ([]:List α):=.inl ⟨rfl,rfl⟩
def Gr.sl{n0:Nat}{H:Heap}{e:Nat}{v:SV}{l:List α}(h:Gr n0 H e v l):Sl H v l:=by rcases h with⟨rfl,rfl⟩|⟨b,rfl,_,_,q⟩;{exact dF};{exact q.sl false}
def Gr.blk{n0:Nat}{H:Heap}{e:Nat}{v:SV}{l:List α}(h:Gr n0 H e v l)(u:l≠[]):H.get v.blk=some (.cells false e (Cell.z α) (aA l)):=by rcases h with⟨_,rfl⟩|⟨b,rfl,_,_,q⟩;{exact absurd rfl u};{exact q.full}
def Gr.keep{n0:Nat}{H H':Heap}{e:Nat}{v:SV}{l:List α}(h:Gr n0 H e v l)(k:Keep H.n H H'):Gr n0 H' e v l:=by rcases h with h|⟨b,q,u,A,E⟩;{exact .inl h};{exact .inr ⟨b,q,u,A,E.keep k⟩}
def KeepG(n0 e z:Nat)(H H':Heap):Prop:=H.n<=H'.n/\∀x,x<H.n->(x<n0\/∀cs,H.get x≠some (.cells false e z cs))->H'.get x=H.get x
def KeepG.refl(n0 e z:Nat)(H:Heap):KeepG n0 e z H H:=⟨aq _,λ_ _ _=>rfl⟩
def KeepG.trans{n0 e z:Nat}{a b c:Heap}(h:KeepG n0 e z a b)(k:KeepG n0 e z b c):KeepG n0 e z a c:=by refine⟨dq h.1 k.1,λx u A=>?_⟩;have q:=h.2 x u A;rw[<-q];exact k.2 x (cj u h.1) (by rw[q];exact A)
def KeepG.of{n0 e z:Nat}{H H':Heap}(k:Keep H.n H H'):KeepG n0 e z H H':=⟨k.1,λx h _=>k.2 x h h⟩
def KeepG.low{n0 e z:Nat}{H H':Heap}(k:KeepG n0 e z H H')(hn:n0<=H.n):Keep n0 H H':=⟨k.1,λx q u=>k.2 x u (.inl q)⟩
def KeepG.get{n0 e z x:Nat}{H H':Heap}{ob:IObj}(k:KeepG n0 e z H H')(hx:x<H.n)(u:H.get x=some ob)(q:∀cs,ob≠.cells false e z cs):H'.get x=some ob:=by rw[k.2 x hx (.inr λcs h=>q cs (by grind))];exact u
def Own.keepG{n0 e q z b cap:Nat}{H H':Heap}{l:List α}(h:Own H b e cap l)(k:KeepG n0 q z H H')(I:e≠q):Own H' b e cap l:=by obtain⟨A,u,r,E,F⟩:=h;refine Own.same ⟨A,u,r,E,F⟩ k.1 (k.2 b u (.inr λcs K=>?_));grind
def OwnS(n0:Nat)(H:Heap)(e:Nat)(v:SV)(l:List α):Prop:=(v=.nil/\l=[])\/∃b cap ex,v=.sl b 0 l.length cap ex/\n0<=b/\Own H b e cap l
def OwnS.sl{n0:Nat}{H:Heap}{e:Nat}{v:SV}{l:List α}(h:OwnS n0 H e v l):Sl H v l:=by rcases h with⟨rfl,rfl⟩|⟨b,cap,ex,rfl,_,h⟩;{exact dF};{exact h.sl ex}
def OwnS.keep{n0:Nat}{H H':Heap}{e:Nat}{v:SV}{l:List α}(h:OwnS n0 H e v l)(k:Keep H.n H H'):OwnS n0 H' e v l:=by rcases h with h|⟨b,cap,ex,q,u,A⟩;{exact .inl h};{exact .inr ⟨b,cap,ex,q,u,A.keep k⟩}
def OwnS.keepG{n0 n1 e u z:Nat}{H H':Heap}{v:SV}{l:List α}(h:OwnS n0 H e v l)(k:KeepG n1 u z H H')(q:e≠u):OwnS n0 H' e v l:=by rcases h with h|⟨b,cap,ex,A,E,F⟩;{exact .inl h};{exact .inr ⟨b,cap,ex,A,E,F.keepG k q⟩}
def Fresh.own{n0:Nat}{H:Heap}{e:Nat}{v:SV}{l:List α}(h:Fresh n0 H e v l):OwnS n0 H e v l:=by rcases h with h|⟨b,q,u,A⟩;{exact .inl h};{exact .inr ⟨b,l.length,true,q,u,A⟩}
def Gr.own{n0:Nat}{H:Heap}{e:Nat}{v:SV}{l:List α}(h:Gr n0 H e v l):OwnS n0 H e v l:=by rcases h with h|⟨b,q,u,_,A⟩;{exact .inl h};{exact .inr ⟨b,l.length,false,q,u,A⟩}
def Gr.push{n0:Nat}{H:Heap}{e:Nat}{v:SV}{l:List α}(h:Gr n0 H e v l){a:α}{u:SV}(T:Sl H u [a]){z:Nat}(I:Cell.z α=z)(bytes lo:Nat)(Y:lo<=n0)(hn:n0<=H.n)(Q:(l.length+1)*(bytes+1)<=2^40):∃q w,ev1 (.append e z bytes) [v.iv,u.iv] lo H=some (SV.iv w,q)/\KeepG n0 e z H q/\Gr n0 q e w (l++[a]):=by rcases h with⟨rfl,rfl⟩|⟨b,rfl,Z,h3,O⟩;{obtain⟨q,E,U,F,K⟩:=nK (e:=e) T I bytes lo (by simp) (by simpa using Q);exact⟨q,.sl H.n 0 1 1 false,E,KeepG.of F,.inr ⟨H.n,rfl,hn,by simp,K⟩⟩};{obtain⟨q,E,U,F,K⟩:=i6 (n:=l.length) O rfl T I bytes lo (by simp) (by simpa using Q) Om;refine⟨q,.sl H.n 0 (l.length+1) (l.length+1) false,E,⟨Om,λx V A=>F x ?_ V⟩,.inr ⟨H.n,by simp,hn,by simp,by grind⟩⟩;rintro rfl;rcases A with A|A;{omega};{exact A _ (by rw[O.full,I])}}
def lj{H:Heap}{e z:Nat}(q:Cell.z α=z)(a:α):Own (H.new (.cells false e z (Cell.cs a))) H.n e 1 [a]:=by have:=Own.mk' (H:=H.new (.cells false e z (Cell.cs a))) (b:=H.n) (e:=e) (l:=[a]) (by rw[ac];omega) q (by rw[aj,if_pos rfl]) (GP a).symm;exact this
def Gr.pushNew{n0:Nat}{H:Heap}{e:Nat}{v:SV}{l:List α}(h:Gr n0 H e v l)(a:α){z:Nat}(A:Cell.z α=z)(bytes lo:Nat)(u:lo<=n0)(hn:n0<=H.n)(F:(l.length+1)*(bytes+1)<=2^40):∃q w,ev1 (.append e z bytes) [v.iv,.slice H.n 0 1 1 true] lo (H.new (.cells false e z (Cell.cs a)))=some (SV.iv w,q)/\KeepG n0 e z H q/\Gr n0 q e w (l++[a]):=by obtain⟨q,w,E,I,g1⟩:=(h.keep (.new _ (.cells false e z (Cell.cs a)))).push (a:=a) ((lj A a).sl true) A bytes lo u (by rw[ac];omega) F;exact⟨q,w,E,(KeepG.of (.new _ _)).trans I,g1⟩
end
def AJ{α:Type}(f:Nat->List α)(n:Nat):(List.range (n+1)).flatMap f=(List.range n).flatMap f++f n:=by rw[List.range_succ,DB];simp
end Go.Iso
section
namespace Go.Iso
def OM:fk []=.tuple []:=rfl
def OL{v:IV}:fk [v]=v:=rfl
def OK{v w:IV}{l:List IV}:fk (v::w::l)=.tuple (v::w::l):=rfl
def BAS:=ao @XR (ao @abp (ao @XU (ao @im (ao @UK (ao @VF (ao @XV (ao @HR (ao @J9 (ao @Uj (ao @Uk (ao @abq (ao @aeG (ao @QM (ao @QO (ao @abh (ao @abi (ao @abg (ao @abj (ao @XM (ao @aaN (ao @Wp (ao @TM (ao @eq_self.{1} (ao @Nat.left_eq_add (ao @Nat.add_eq_left (ao @Nat.add_left_cancel_iff (ao @Nat.add_assoc (ao @NY (ao @LR (ao @LQ (ao @Sq (ao @Sp (ao @WP (ao @WQ (ao @aap (ao @List.getD_cons_zero.{0} (ao @List.getD_cons_succ.{0} (ao @ST (ao @SU (ao @Wq (ao @XI (ao @XH (ao @XJ (ao @Uy (ao @Uz (ao @V6 (ao @UL (ao @if_true.{1} (ao @if_false.{1} (ao @Option.map_some.{0,0} (ao @Option.map_none.{0,0} (ao @Option.bind_some.{0,0} (ao @Option.bind_none.{0,0} (ao @List.nil_append.{0} (ao @List.append_nil.{0} (ao @List.cons_append.{0} (ao @List.length_cons.{0} (ao @List.length_nil.{0} (ao @Nat.zero_add (ao @WI (ao @WJ (ao @Qr (ao @SM (ao @beq_self_eq_true.{0} (ao @Bool.false_eq_true (ao @Bool.not_true (ao @Bool.not_false (ao @Option.getD_some.{0} (ao @Option.getD_none.{0} (ao @J3 (ao @J2 (ao @Ht (ao @JX (ao @JY (ao @AP (ao @EA (ao @wy (ao @JZ (ao @AQ (ao @NQ (ao @Ez (ao @Ad (ao @EB (ao @wz (ao @aj (ao @ac (ao @aa (ao @af (ao @List.drop_succ_cons.{0} (ao @List.drop_zero.{0} (ao @List.take_succ_cons.{0} (ao @List.take_zero.{0} (ao @Nat.add_zero (ao @Nat.le_refl (ao @Option.some.injEq.{0} (ao @and_true (ao @true_and (ao @and_false (ao @false_and (ao @BEq.rfl.{0} (ao @sV (ao @qc (ao @P4 (ao @P5 (ao @F4 (ao @Jd (ao @AC (ao @P6 (ao @F5 (ao @TP (ao @Jc (ao @DM (ao @Je (ao @AD (ao @List.all_cons.{0} (ao @List.all_nil.{0} (ao @Bool.and_self (ao @Bool.and_true (ao @Bool.true_and (ao @Nat.le_add_right (ao @Nat.add_sub_cancel (ao @bne_self_eq_false.{0} (ao @Bool.false_bne (ao @Bool.bne_false (ao @Bool.or_true (ao @Bool.true_or (ao @Int.toNat_natCast (ao @Option.isSome_some.{0} (ao @XT (ao @WF (ao @WE (ao @uf (ao @Od (ao @PR (ao @PQ (ao @SQ (ao @SO (ao @SP (ao @TK (ao @TI (ao @ne_eq.{1} (ao @not_false_eq_true (ao @ady (ao @adx (ao @cLe (ao @adw (ao @cLt (ao @adv (ao @iLe (ao @acY (ao @iLt (ao @acX (ao @iGe (ao @ac0 (ao @iGt (ao @acZ (ao @ac2 (ao @aaL (ao @ac1 (ao @aaK (ao @acv (ao @wU8 (ao @decide_true (ao @decide_false (ao @PT (ao @PS (ao @TF (ao @HV (ao @iE (ao @Ch (ao @mC (ao @eX (ao @gh (ao @mD (ao @Nat.zero_mul (ao @Bool.true_eq_false (ao @Bool.false_or (ao @Bool.or_false (ao @Bool.false_and (ao @Bool.and_false (ao @not_true_eq_false (ao @Nat.sub_zero (ao @List.getElem?_cons_zero.{0} (ao @List.getElem?_cons_succ.{0} (ao @bJ.eq_1 (ao @bJ.eq_2 (ao @IA.eval.eq_1 (ao @IA.eval.eq_2 (ao @IA.eval.eq_3 (ao @Fr.put.eq_1 (ao @Fr.put.eq_2 (ao @dh.eq_1 (ao @dh.eq_2 (ao @cu.eq_1 (ao @cu.eq_2 (ao @aG.eq_1 (ao @aG.eq_2 (ao @gG.eq_1 (ao @gG.eq_2 (ao @ak.eq_1 (ao @ak.eq_2 (ao @List.set.eq_1.{0} (ao @List.set.eq_2.{0} (ao @List.set.eq_3.{0} (ao @List.drop.eq_1.{0} (ao @List.drop.eq_2.{0} (ao @List.drop.eq_3.{0} (ao @List.take.eq_1.{0} (ao @List.take.eq_2.{0} (ao @List.take.eq_3.{0} (ao @List.append.eq_1.{0} (ao @List.append.eq_2.{0} (ao @aw.eq_1 (ao @aw.eq_2 (ao @aw.eq_3 (ao @aw.eq_4 (ao @dY.eq_1 (ao @dY.eq_2 (ao @bu.eq_1 (ao @bu.eq_2 (ao @OM (ao @OL (ao @OK (ao @MM (ao @Bu (ao @MJ (ao @MH (ao @MG (ao @MF (ao @ML (ao @MO (ao @I9 (ao @MN (ao @MP (@acz)))))))))))))))))))))))))))))))))))))))))))))))))))))))))))))))))))))))))))))))))))))))))))))))))))))))))))))))))))))))))))))))))))))))))))))))))))))))))))))))))))))))))))))))))))))))))))))))))))))))))))))))))))))))))))))))))))))))))))
def ai:=ao @Ji (ao @Gc (ao @Jj (ao @MX (ao @Ge (ao @DP (ao @uM (ao @DQ (ao @DO (ao @Gb (@sX))))))))))
end Go.Iso
end
namespace Go.Iso
def VD{b o n b' o' q:Nat}(h:b<b'):iD b o n b' o' q=true:=by grind[iD]
def VE{b o n b' o' q:Nat}(h:b'<b):iD b o n b' o' q=true:=by grind[iD]
def acS:Fp->Bool|.none|.rd _ _ _=>true|_=>false
def oQ:dm->Bool|[]=>true|p::q=>acS p.2&&oQ q
def MW:oQ []=true:=rfl
def Jf{i:Nat}{q:dm}:oQ ((i,.none)::q)=oQ q:=rfl
def Qd{i b o n:Nat}{q:dm}:oQ ((i,.rd b o n)::q)=oQ q:=rfl
def Qc{i b o n:Nat}{q:dm}:oQ ((i,.wr b o n)::q)=false:=rfl
def BA{b o n mask:Nat}:∀{q:dm},oQ q=true->(q.all λp=>mask.testBit p.1||bH p.2 (.rd b o n))=true|[],_=>rfl|(i,f)::q,h=>by simp only[oQ,bP] at h;rw[lU,BA h.2,uy];cases f with|none=>simp[bH]|rd=>simp[bH]|_=>cases h.1
section
variable {fc:dm}{dst:Option Nat}{args:List IA}{g:Option (Nat×Bool)}{amb:Bool}{idx mask:Nat}{xs:List IV}
def Gf:bu (some fc) ⟨dst,.call,args,g,amb,idx,mask⟩ xs=some (some ((idx,.none)::fc)):=aZ rfl
def DT{e z:Nat}{zs:List IV}:bu (some fc) ⟨dst,.alloc e z zs,args,g,amb,idx,mask⟩ xs=some (some ((idx,.none)::fc)):=aZ rfl
def DR{zs:List IV}{os:List (Nat×Nat)}:bu (some fc) ⟨dst,.build zs os,args,g,amb,idx,mask⟩ xs=some (some ((idx,.none)::fc)):=aZ rfl
def yU{e z n:Nat}{zs:List IV}{os:List (Nat×Nat)}:bu (some fc) ⟨dst,.buildSl e z n zs os,args,g,amb,idx,mask⟩ xs=some (some ((idx,.none)::fc)):=aZ rfl
def Gd{n:Option Nat}{b a:Nat}:bu (some fc) ⟨dst,.load n,args,g,amb,idx,mask⟩ [.ptr b a]=if oQ fc=true then some (some ((idx,.rd b a (n.getD 1))::fc)) else(mj fc ⟨dst,.load n,args,g,amb,idx,mask⟩ [.ptr b a]).map some:=by simp_all[bu,mj,fe,if_pos,BA]
end
def FR:=ao @Gf (ao @DT (ao @DR (ao @yU @Gd)))
def FW:=ao @MW (ao @Jf (ao @Qd (ao @Qc (ao @VD @VE))))
end Go.Iso
section
namespace Go.Iso
def J1{a b:Prop}(h:a)(k:b):a/\b:=⟨h,k⟩
def Sm:=J1 @BAS (J1 @fe.eq_def (J1 @mj.eq_def (J1 @Vi.eq_def (J1 @oj.eq_def (J1 @ev1.eq_def (J1 @eM.eq_def (J1 @V8.eq_def (J1 @gp.eq_def (J1 @Il.eq_def @cY.eq_def)))))))))
def ah:=J1 Sm @Heap.write.eq_def
def gz:=J1 ah FW
def gF:=J1 ai FR
def ar{H0 H1:Heap}(q:H0=H1)(x:Nat){v:Option IObj}(h:H0.get x=v:=by simp(disch:=omega)only[ah,↓ai,seval];rfl):H1.get x=v:=q▸h
def aL{n:Nat}{H H0 H1:Heap}(q:H0=H1)(a:H.n<=H1.n:=by omega)(h:∀x,x<n->x<H.n->H0.get x=H.get x:=by intros;simp(disch:=omega)only[ah,↓ai,seval]):Keep n H H1:=⟨a,q▸h⟩
end Go.Iso
end
namespace Go.Iso
def mY:∀(c:List IV)(o:Nat)(x:IV),o<c.length->aw c o [x]=c.set o x|[],_,_,h=>by simp at h|a::c,0,x,_=>by show x::aw c 0 []=_;cases c<;>rfl|a::c,o+1,x,h=>by show a::aw c o [x]=_;rw[mY c o x (by simpa using h)];rfl
section
variable {α:Type}[Cell α]
def iw(l:List α)(i:Nat)(h:i<l.length):aA l=aA (l.take i)++(Cell.cs l[i]++aA (l.drop (i+1))):=by grind[bA,eW,List.drop_eq_getElem_cons,List.take_append_drop]
end
section
variable {α:Type}[Cell α]
def Gr.pushNewO{n0:Nat}{H:Heap}{e:Nat}{v:SV}{l:List α}(h:Gr n0 H e v l)(a:α){z:Nat}(K:Cell.z α=z)(bytes lo:Nat)(Z:lo<=n0)(hn:n0<=H.n)(Q:(l.length+1)*(bytes+1)<=2^40):∃q w,ev1 (.append e z bytes) [v.iv,.slice H.n 0 1 1 true] lo (H.new (.cells false e z (Cell.cs a)))=some (SV.iv w,q)/\H.n<=q.n/\(∀y,y<H.n->(l≠[]->y≠v.blk)->q.get y=H.get y)/\Gr n0 q e w (l++[a])/\H.n<=w.blk:=by have T:Sl (H.new (.cells false e z (Cell.cs a))) (.sl H.n 0 1 1 true) [a]:=(lj K a).sl true;have kN:Keep H.n H (H.new (.cells false e z (Cell.cs a))):=.new _ _;have ad:=ac H (.cells false e z (Cell.cs a));rcases h with⟨rfl,rfl⟩|⟨b,rfl,h2,V,Y⟩;{obtain⟨q,A,U,E,O⟩:=nK (e:=e) T K bytes lo (by simp) (by simpa using Q);exact⟨q,.sl (H.new (.cells false e z (Cell.cs a))).n 0 1 1 false,A,Om,λy u _=>(E.2 y Om Om).trans (kN.2 y u u),.inr ⟨_,rfl,Om,by simp,O⟩,by show _<=(H.new _).n;omega⟩};{obtain⟨q,A,U,E,O⟩:=i6 (n:=l.length) (Y.keep kN) rfl T K bytes lo (by simp) (by simpa using Q) Om;refine⟨q,.sl (H.new (.cells false e z (Cell.cs a))).n 0 (l.length+1) (l.length+1) false,A,Om,λy u F=>?_,.inr ⟨(H.new (.cells false e z (Cell.cs a))).n,by simp,Om,by simp,by grind⟩,by show _<=(H.new _).n;omega⟩;have I:y≠b:=F V;rw[E y I Om];exact kN.2 y u u}
end
def SV.cut(z:Nat)(v:SV)(a n:Nat):SV:=match v with|.nil=>.nil|.sl b o _ c ex=>.sl b (o+a*z) n (c - a) ex
section
variable {α:Type}[Cell α]
end
open Classical
section
variable {P:Program}{g0 lo:Nat}{μ:Mu}{H H':Heap}{w:World}{ρ:Operand->Value}{xs:List IV}{v:IV}
variable {dst:Option Tmp}{type:TypeId}{pos:String}{after:Array Edge}{guard:Option (Tmp×Bool)}
def ui:∀{q:List (IV×IV×Nat)}{l:List MapEntry}{e:MapEntry},EsR μ q l->e∈l->∃k v,(k,v,e.born)∈q/\VR μ k e.key/\VR μ v e.val|[],_,_,h,F=>by cases h;cases F|(k,v,s)::q,_,x,I,h=>by obtain⟨e,Q,rfl,A,E,O,u⟩:=I;cases h with|head=>exact⟨k,v,by grind,A,E⟩|tail _ h=>obtain⟨K,v',a,b,c⟩:=ui u h;exact⟨K,v',eS _ a,b,c⟩
def C8(h:Rel P g0 μ H.get H.n w){x:Operand}{r b q I u:Nat}{seen:List Nat}{es:List (IV×IV×Nat)}(hg:H.get r=some (.iter (some b) q seen I))(hm:aK H b=some (es,u))(b5:lo<=r)(a1:∀e∈es,e.2.2<I)(ay:∀e∈es,e.2.2<q)(a7:∃e∈es,e.2.2∉seen)(hx:VRs μ [.ptr r 0] [ρ x]):∃k v s,(k,v,s)∈es/\s∉seen/\Gives P g0 lo μ H w (execOp ρ ⟨dst,.next x false,type,pos,after,guard⟩) (.tuple [.bool true,k,v]) (H.put r (.iter (some b) q (seen++[s]) u)):=by obtain⟨y,hy,hv⟩:=qv hx;injection hy with hy _;subst hy;obtain⟨a,aS,hl⟩:=hv;have a9:∀o,H.get r=some o->o≠.dead->∃c p ez z,μ r=.at c p ez z/\ObjR P μ o p ez z w.heap[c]?/\a=⟨c,p+0,none⟩:=by{intro o ho hd;unfold LocR at hl;cases hb:μ r with|no=>rw[hb] at hl;exact hl.elim|dead=>have:=h.ded r hb;rw[ho] at this;injection this with this;exact absurd this hd|«at» c p ez z=>rw[hb] at hl;obtain⟨ob,ag,b9⟩:=h.obj r c p ez z hb;rw[ho] at ag;injection ag with ag;subst ag;exact⟨c,p,ez,z,rfl,b9,hl⟩};obtain⟨c,p,ez,z,hb,⟨rfl,m',K,bn⟩,ha⟩:=a9 _ hg (by simp);subst ha;obtain⟨rm,cd,z2,E,ad,cf,Q,V⟩:=lG h hm bn;injection ad with ad;subst ad;have a3:=Ar (f:=λs=>decide (I<=s)) V;have a8:es≠[]:=by{obtain⟨e,he,_⟩:=a7;exact List.ne_nil_of_mem he};have a4:(!seen.toArray.isEmpty&&!E.isEmpty&&E.all λe=>decide (e.born>=I))=false:=by{have:(E.all λe=>decide (e.born>=I))=false:=by{rw[<-Array.all_toList,<-a3,Bool.eq_false_iff];intro hh;cases es with|nil=>exact a8 rfl|cons e es=>simp only[lU,bP,decide_eq_true_eq] at hh;have:=a1 e (qJ ..);omega};rw[this,Bool.and_false]};have g1:(getObj c).run P w=.ok (.mapIter (some rm) q seen.toArray I) w:=by{simp[getObj,Sem.run,K]};have Z:(E.filter λe=>!seen.toArray.contains e.born).toList=E.toList.filter λe=>!seen.contains e.born:=by{rw[Array.toList_filter];simp};have a5:=Aq (f:=λs=>!seen.contains s) V;have f1:((E.filter λe=>!seen.toArray.contains e.born).filter λe=>decide (e.born<q))=E.filter λe=>!seen.toArray.contains e.born:=by{rw[Array.filter_eq_self];intro e he;obtain⟨k,v,F,_,_⟩:=ui V (Array.mem_toList_iff.2 (Array.mem_filter.1 he).1);simpa using ay _ F};have f2:((E.filter λe=>!seen.toArray.contains e.born).filter λe=>decide (e.born>=q))=#[]:=by{rw[Array.filter_eq_empty_iff];intro e he;obtain⟨k,v,F,_,_⟩:=ui V (Array.mem_toList_iff.2 (Array.mem_filter.1 he).1);have:=ay _ F;simp only at this;simp;omega};have aE:(E.filter λe=>!seen.toArray.contains e.born)≠#[]:=by{intro A;rw[A] at Z;obtain⟨e,he,hs⟩:=a7;rw[<-Z] at a5;have a6:=EsR.length a5;simp only[cE] at a6;have:e∈es.filter λe=>!seen.contains e.2.2:=List.mem_filter.2 ⟨he,by simpa using hs⟩;rw[List.length_eq_zero_iff.1 a6] at this;cases this};generalize hL:(E.filter λe=>!seen.toArray.contains e.born)=L at *;have bt:c<w.heap.size:=(Array.getElem?_eq_some_iff.1 K).1;have a2:∀(i:Nat)(U:World),U.heap=w.heap->U.os=w.os->U.tape=w.tape->U.output=w.output->w.drawn<=U.drawn->i<L.size->∃A k0 v0,L[i]? =some A/\(k0,v0,A.born)∈es/\A.born∉seen/\ (∃O,Rel P g0 O (H.put r (.iter (some b) q (seen++[A.born]) u)).get (H.put r (.iter (some b) q (seen++[A.born]) u)).n {U with heap:=U.heap.setIfInBounds c (.mapIter (some rm) q (seen.toArray.push A.born) u)}/\ Post lo μ H.get H.n w O (H.put r (.iter (some b) q (seen++[A.born]) u)).get (H.put r (.iter (some b) q (seen++[A.born]) u)).n {U with heap:=U.heap.setIfInBounds c (.mapIter (some rm) q (seen.toArray.push A.born) u)}/\ VR O (.tuple [.bool true,k0,v0]) (.tuple #[.bool true,A.key,A.val])):=by{intro i U q1 q2 q3 q4 q5 hi;obtain⟨A,T⟩:∃A,L[i]? =some A:=⟨L[i],by simp[hi]⟩;have F:A∈L:=Array.mem_of_getElem? T;rw[<-hL] at F;obtain⟨b7,b8⟩:=Array.mem_filter.1 F;obtain⟨k0,v0,Y,b4,cc⟩:=ui V (Array.mem_toList_iff.2 b7);obtain⟨hr,hp⟩:=h.update (lo:=lo) (w':={U with heap:=U.heap.setIfInBounds c (.mapIter (some rm) q (seen.toArray.push A.born) u)}) (o:=.iter (some b) q (seen++[A.born]) u) hb b5 ⟨_,hg,rfl⟩ (by simp[q1]) (λc' bo=>by simp only[q1];rw[I4 (Ne.symm bo)]) (by simp only[q1];rw[KN bt];exact⟨rfl,some rm,by simp,bn⟩) q2 q3 q4 q5;exact⟨A,k0,v0,T,Y,by simpa using b8,μ,hr,hp,⟨_,rfl,_,_,rfl,rfl,_,_,rfl,b4,_,_,rfl,cc,rfl⟩⟩};have an:L.isEmpty=false:=by{simpa [Array.isEmpty_iff] using aE};have bd:0<L.size:=Array.size_pos_iff.2 aE;by_cases bw:L.size<=1;{obtain⟨A,k0,v0,T,Y,a0,O,h1,h2,h3⟩:=a2 0 w rfl rfl rfl rfl (aq _) bd;refine⟨k0,v0,A.born,Y,a0,.value (.tuple #[.bool true,A.key,A.val]),.tuple #[.bool true,A.key,A.val],_,O,?_,.inl rfl,h1,h2,h3⟩;simp only[execOp,Instr.next,aS,Sem.run_bind,g1,Result.andThen_ok,bL Q,a4,ii,if_false,hL,f1,f2,an];simp[choose,Sem.run,Question.forced,setObj,K,bw,T]};{have b3:(Question.mapNext L.size).forced=false:=by{simp[Question.forced];omega};have b6:(Question.mapNext L.size).cut (w.tape w.drawn (.mapNext L.size))<L.size:=Nat.mod_lt _ bd;obtain⟨A,k0,v0,T,Y,a0,O,h1,h2,h3⟩:=a2 _ {w with drawn:=w.drawn+1} rfl rfl rfl rfl (qX _) b6;refine⟨k0,v0,A.born,Y,a0,.value (.tuple #[.bool true,A.key,A.val]),.tuple #[.bool true,A.key,A.val],_,O,?_,.inl rfl,h1,h2,h3⟩;simp only[execOp,Instr.next,aS,Sem.run_bind,g1,Result.andThen_ok,bL Q,a4,ii,if_false,hL,f1,f2,an];have hd:w.drew.heap=w.heap:=rfl;simp[choose,Sem.run,b3,setObj,hd,K,T];exact⟨rfl,rfl⟩}
end
open Classical
def CallSim.lower{P:Program}{g0:Nat}{f:FuncId}{args:List IV}{lo u:Nat}{H H':Heap}{v:IV}(Q:u<=lo)(h:CallSim P g0 f args lo H v H'):CallSim P g0 f args u H v H':=by intro μ w q T O;exact(h μ w q T O).mono λe w' ⟨v',A,E,F,I,K⟩=>⟨v',A,E,F,I.lower Q,K⟩
def NItem(P:Program)(g0 lo:Nat)(F:Item)(rd:Option Nat)(fr:Fr)(H:Heap)(Q:Ah):Prop:=∀(μ:Mu)(w:World)(t:Array Value)(r:Option Nat)(ds:List Deferred),Rel P g0 μ H.get H.n w->VRs μ fr.tm t.toList->RdR μ rd r->DsR μ fr.marks ds->∀(f:FuncId)(k:List Item)(cs:List Frame),∃e u H' q w' E A,Q (.ex e u) H'/\Rel P g0 q H'.get H'.n w'/\Post lo μ H.get H.n w q H'.get H'.n w'/\VRs q u.tm E.toList/\DsR q u.marks A/\ Arr P f r E A cs w' (lone (bN f r t ds (F::k)) cs w) k e
section
variable {P:Program}{E:Env}{g0 lo:Nat}{rd:Option Nat}{fr:Fr}{H:Heap}{Q Q':Ah}
def NItem.mono{F:Item}(h:NItem P g0 lo F rd fr H Q)(hq:∀e q H',Q (.ex e q) H'->Q' (.ex e q) H'):NItem P g0 lo F rd fr H Q':=by intro μ w t r ds K O A u f k cs;obtain⟨e,q,H',T,w1,t1,I,U,V,Y,Z,a4,a5⟩:=h μ w t r ds K O A u f k cs;grind
def HZ{F:Item}{e:Ex}{q:Fr}{H':Heap}(h:ItemSim P g0 lo F rd fr H e q H')(hq:Q (.ex e q) H'):NItem P g0 lo F rd fr H Q:=by intro μ w t r ds K O A u f k cs;obtain⟨T,w1,t1,I,U,V,Y,Z,a5⟩:=h μ w t r ds K O A u f k cs;grind
def iF(F:EnvOk P E){c:Code}{u:IC}(I:aY P c=some u)(h:W E lo (.code u rd fr) H Q):NItem P E.g0 lo (.code c) rd fr H Q:=by obtain⟨n,o,H',q,K⟩:=h;obtain⟨e,A,rfl,hs⟩:=Aa (wU F n) n (aq _) c u rd fr lo H o H' I q;exact HZ hs K
def NItem.seq{I K q:Item}(hs:∀f r t ds k cs w,step P (lone (bN f r t ds (I::k)) cs w)=.next (lone (bN f r t ds (K::q::k)) cs w))(Z:∀id k,exitTo id (q::k)=exitTo id k)(h1:NItem P g0 lo K rd fr H λo H1=>match o with|.ex .normal u=>NItem P g0 lo q rd u H1 Q|o=>Q o H1):NItem P g0 lo I rd fr H Q:=by intro μ w t r ds hr ht F Y f k cs;obtain⟨e,u,H1,O,w1,t1,A,a0,a1,T,a3,a4,a5⟩:=h1 μ w t r ds hr ht F Y f (q::k) cs;cases e with|normal=>obtain⟨e2,V,H2,ad,w2,t2,U,b0,b1,b2,b3,b4,b5⟩:=a0 O w1 t1 r A a1 a3 (F.mono T.le) a4 f k cs;exact⟨e2,V,H2,ad,w2,t2,U,b0,b1,T.trans b2,b3,b4,b5.head (Steps.head (hs f r t ds k cs w) a5)⟩|jmp j=>exact⟨.jmp j,u,H1,O,w1,t1,A,a0,a1,T,a3,a4,(a5.skipItem Z).head (.one (hs f r t ds k cs w))⟩
def NItem.seqC{a b:Code}(u:NItem P g0 lo (.code a) rd fr H λo H1=>match o with|.ex .normal q=>NItem P g0 lo (.code b) rd q H1 Q|o=>Q o H1):NItem P g0 lo (.code (.seq a b)) rd fr H Q:=NItem.seq (λf r t ds k cs w=>IG) (vS b) u
def EG{id:Nat}{c:Code}(h:NItem P g0 lo (.code c) rd fr H λo H'=>match o with|.ex (.jmp (.exit q)) V=>Q (.ex (if q=id then .normal else .jmp (.exit q)) V) H'|o=>Q o H'):NItem P g0 lo (.code (.block id c)) rd fr H Q:=by intro μ w t r ds hr ht ad Y f k cs;obtain⟨e1,A,H1,F,w1,t1,u,I,K,O,T,U,a5⟩:=h μ w t r ds hr ht ad Y f (.inBlock id::k) cs;have st:step P (lone (bN f r t ds (.code (.block id c)::k)) cs w)=.next (lone (bN f r t ds (.code c::.inBlock id::k)) cs w):=Fu;cases e1 with|normal=>exact⟨.normal,A,H1,F,w1,t1,u,I,K,O,T,U,Steps.head st (Steps.trans a5 (.one xD))⟩|jmp j=>obtain⟨pre,b1,b2⟩:=a5;cases j with|ret=>exact⟨.jmp .ret,A,H1,F,w1,t1,u,I,K,O,T,U,pre++[.inBlock id],Steps.head st (by simpa using b1),λq e=>by cases e⟩|exit q=>refine⟨_,A,H1,F,w1,t1,u,I,K,O,T,U,?_⟩;have hx:=b2 q rfl;rw[pw] at hx;by_cases Z:q=id;{subst Z;simp only[if_true] at hx⊢;exact Steps.head st (b1.trans (.one (KF hx)))};{rw[if_neg (Ne.symm Z)] at hx;rw[if_neg Z];refine⟨pre++[.inBlock id],Steps.head st (by simpa using b1),λag e=>?_⟩;grind}
def NItem.inLoop{c:Code}(Inv:Nat->Fr->Heap->Prop)(I:∀n fr H,Inv n fr H->NItem P g0 lo (.code c) rd fr H λo H'=>match o with|.ex .normal q=>∃m,m<n/\Inv m q H'|o=>Q o H'):∀n fr H,Inv n fr H->NItem P g0 lo (.inLoop c) rd fr H Q:=by intro n;induction n using Nat.strongRecOn with|_ n K=>intro fr H F;refine NItem.seq (λf r t ds k cs w=>uq) (iJ c) ((I n fr H F).mono λe q H' A=>?_);cases e with|normal=>obtain⟨m,hm,u⟩:=A;exact K m hm q H' u|jmp j=>exact A
def NItem.loopC{c:Code}(Inv:Nat->Fr->Heap->Prop)(n:Nat)(h0:Inv n fr H)(A:∀n fr H,Inv n fr H->NItem P g0 lo (.code c) rd fr H λo H'=>match o with|.ex .normal q=>∃m,m<n/\Inv m q H'|o=>Q o H'):NItem P g0 lo (.code (.loop c)) rd fr H Q:=by refine NItem.seq (λf r t ds k cs w=>C2) (iJ c) ((A n fr H h0).mono λe q H' F=>?_);cases e with|normal=>obtain⟨m,hm,u⟩:=F;exact NItem.inLoop Inv A m q H' u|jmp j=>exact F
def NOp(P:Program)(g0:Nat)(o:Oper)(lo:Nat)(xs:List IV)(H:Heap)(R:IV->Heap->Prop):Prop:=∀(μ:Mu)(w:World)(t:Array Value),Rel P g0 μ H.get H.n w->VRs μ xs (o.op.operands.toList.map (dC t))->∀(f:FuncId)(rd:Option Nat)(ds:List Deferred)(k:List Item)(cs:List Frame)(ops:Array Oper)(i:Nat)(q:List Nat),∃(v:IV) (H':Heap) (v':Value) (w':World) (u:Mu),R v H'/\Rel P g0 u H'.get H'.n w'/\Post lo μ H.get H.n w u H'.get H'.n w'/\VR u v v'/\ (ops[i]? =some o->Region.wanted o (yielded ops t)=true->Steps P (lone (bN f rd t ds (.inRegion ops (i::q)::k)) cs w) (lone (bN f rd (oi t o.dst v') ds (.inRegion ops q::k)) cs w'))
def NItem.region(hE:EnvOk P E){id:Nat}{ops:Array Oper}{pre post:List IOp}{io:IOp}(K:dQ P ops false=some [(.seq,pre++io::post)])(hg:io.guard=none){R:IV->Heap->Prop}(an:W E lo (.ops none pre rd fr) H λo H1=>∃q xs,o=.ex .normal q/\bJ E.g0 q.tm io.args=some xs/\ (∀o,cK P o.op=some io.kd->NOp P E.g0 o lo xs H1 R)/\ ∀v H2,R v H2->W E lo (.ops none post rd (q.put io.dst v)) H2 λo H'=>∃Z,o=.ex .normal Z/\Q (.ex .normal Z) H'):NItem P E.g0 lo (.code (.region id ops false)) rd fr H Q:=by simp only[dQ] at K;cases h1:ops.toList.mapM (my P ops) with|none=>rw[h1] at K;cases K|some l=>rw[h1] at K;simp only[sM,bF,ii,if_false] at K;have K:l=pre++io::post:=by{grind};subst K;obtain⟨hl,ar⟩:=oV h1;obtain⟨n,o,H1,ay,q,xs,rfl,a5,a0,O⟩:=an;obtain⟨a9,S1,e1,F⟩:=qb (N:=n) pre n (aq _) _ _ _ _ _ ay;injection e1 with _ e1;subst e1;have ag:∀(j:Nat)(u:IOp),(pre++io::post)[j]? =some u->∃o,ops[j]? =some o/\OpOk P ops o u:=λj u hj=>by{obtain⟨o,q1,q2⟩:=ar j u hj;obtain⟨Y,e4,e5,e6⟩:=lM q2;exact⟨o,by simpa using q1,Y,e4,e5,e6⟩};have ad:ops.size=pre.length+(post.length+1):=by{grind};intro μ w t r ds hr ht bo aS f k cs;have dB:List.range ops.size=List.range' 0 pre.length++(pre.length::List.range' (pre.length+1) post.length):=by{rw[I1,ad,<-List.range'_append_1,cV,Du]};obtain⟨a6,t1,w1,a1,a2,V,a4⟩:=wD (a:=0) (ops:=ops) (wU hE n) (λj u hj=>by have bn:j<pre.length:=(List.getElem?_eq_some_iff.1 hj).1;simp_all[yh,cV]) F hr ht f r ds k cs (pre.length::List.range' (pre.length+1) post.length);obtain⟨o,ho,A⟩:=ag pre.length io (by simp);have U:Region.wanted o (yielded ops t1)=true:=by{rw[mG A.guard (by simpa using V.length) (λd w' _=>gP V d),hg];rfl};have aE:=eu a1 A.args a5 (λi _=>gP V i);obtain⟨v,H2,v',w2,a7,b0,b1,b2,b3,b4⟩:=a0 o A.kd a6 w1 t1 a1 aE f r ds k cs ops pre.length (List.range' (pre.length+1) post.length);have b4:=b4 ho U;have b5:VRs a7 (q.put io.dst v).tm (oi t1 o.dst v').toList:=by{rw[A.dst];cases o.dst with|none=>exact VRs.mono b2.le _ _ V|some d=>simp only[Fr.put,oi,vI];exact(VRs.mono b2.le _ _ V).set d b3};obtain⟨n3,o3,H3,T,fr3,rfl,hq⟩:=O v H2 b0;obtain⟨bd,S3,Y,I⟩:=qb (N:=n3) post n3 (aq _) _ _ _ _ _ T;injection Y with _ Y;subst Y;obtain⟨a8,t3,w3,c1,c2,c3,c4⟩:=wD (a:=pre.length+1) (ops:=ops) (wU hE n3) (λj u hj=>by obtain⟨o,q1,q2⟩:=ag (pre.length+1+j) u (by grind);exact⟨o,q1,q2⟩) I b1 b5 f r ds k cs [];rw[dt] at c4;refine⟨.normal,fr3,H3,a8,w3,t3,ds,hq,c1,(a2.trans b2).trans c2,c3,?_,?_⟩;{have hm:fr3.marks=fr.marks:=by{rw[I.marks];have:(q.put io.dst v).marks=q.marks:=by{cases io.dst<;>rfl};rw[this,F.marks]};rw[hm];exact aS.mono ((a2.trans b2).trans c2).le};{refine Steps.head A5 ?_;rw[dB];exact a4.trans (b4.trans (c4.trans (.one lB)))}
def NOp.next{o:Oper}(I:cK P o.op=some .nextM){r b q A u:Nat}{seen:List Nat}{K:List (IV×IV×Nat)}(hg:H.get r=some (.iter (some b) q seen A))(hm:aK H b=some (K,u))(V:lo<=r)(F:∀e∈K,e.2.2<A)(O:∀e∈K,e.2.2<q)(Y:∃e∈K,e.2.2∉seen):NOp P g0 o lo [.ptr r 0] H λv H'=>∃k x s,(k,x,s)∈K/\s∉seen/\v=.tuple [.bool true,k,x]/\H'=H.put r (.iter (some b) q (seen++[s]) u):=by intro μ w t hr hx f rd ds k cs ops i an;obtain⟨y,T⟩:∃y,o.op=.next y false:=by{cases ho:o.op<;>rw[ho] at I<;>simp only[cK,GB,aU,fg,fh] at I;(all_goals (repeat' split at I));(all_goals (try simp only[fh,fg,reduceCtorEq,and_false,exists_false] at I));all_goals first|(cases I;done)|exact⟨_,rfl⟩|grind};obtain⟨dst,op,type,pos,after,guard⟩:=o;simp only at T;subst T;have hx:VRs μ [.ptr r 0] [dC t y]:=by{simpa [Op.operands] using hx};obtain⟨k0,v0,s0,h1,h2,nx,v',w',ag,U,Z,ad,hp,hv⟩:=C8 (dst:=dst) (type:=type) (pos:=pos) (after:=after) (guard:=guard) (ρ:=dC t) hr hg hm V F O Y hx;exact⟨_,_,v',w',ag,⟨k0,v0,s0,h1,h2,Rr⟩,ad,hp,hv,λho hw=>.one (Fs ho hw (zi I) U Z)⟩
def LD(P:Program)(g0:Nat)(f:FuncId)(args:List IV)(lo:Nat)(H:Heap)(R:IV->Heap->Prop):Prop:=∀(μ:Mu)(w:World)(q:Array Value),Rel P g0 μ H.get H.n w->VRs μ args q.toList->Calls P f q w λe w'=>∃(v:IV) (H':Heap) (v':Value) (u:Mu),R v H'/\e=.returned v'/\Rel P g0 u H'.get H'.n w'/\Post lo μ H.get H.n w u H'.get H'.n w'/\VR u v v'
def NOp.call{o:Oper}(hk:cK P o.op=some .call){g:FuncId}{q cap args:List IV}{fn:Func}{body:Code}(hf:P.funcs[g]? =some fn)(hb:fn.body=some body)(hn:(fn.name=="runtime.NumGoroutine")=false){R:IV->Heap->Prop}(h:LD P g0 g (q++args++cap) lo H R):NOp P g0 o lo (.fn g q cap::args) H R:=by obtain⟨fo,u,ts,Z⟩:=K0 hk;intro μ w t hr hx f rd ds k cs ops i U;have O:o.op.operands.toList.map (dC t)=dC t fo::u.toList.map (dC t):=by{rw[Z];simp[Op.operands,Call.operands]};rw[O] at hx;obtain⟨y,yl,hy,an,I⟩:=hx;simp only[fW] at hy;obtain⟨rfl,rfl⟩:=hy;obtain⟨l',r',V,hl,ag⟩:=an;have I:VRs μ args (u.map (dC t)).toList:=by{simpa using I};have ay:VRs μ (q++args++cap) ((l'++u.map (dC t))++r').toList:=by{rw[x9,x9];exact(hl.append I).append ag};obtain⟨e,w',fr,⟨v,H',v',aE,hR,rfl,ad,hp,hv⟩,F,aS,A⟩:=h μ w _ hr ay (bN f rd t ds (.inRegion ops (i::U)::k)::cs);refine⟨v,H',v',w',aE,hR,ad,hp,hv,λK hw=>?_⟩;rw[<-nl K];have T:(execOp (dC t) o).run P w=.ok (.enter g ((l'++u.map (dC t))++r')) w:=by{have Y:¬fn.name="runtime.NumGoroutine":=by{simpa using hn};simp only[execOp,Z,resolve,V];simp[Deferred.ofValue,invoke,callFunc,hf,Y,hb]};refine Steps.head (step_lone_go ?_) (Steps.trans F (.one (step_leave_returned A)));rw[oB K hw (λc e=>by rw[Z] at e;cases e),pj];simp only[stepG.apply,Sem.runT_eq,T,if_true,GStep.bare_after];simp_all[bN]
end
open Go.Sort Go.Proofs Go.Shelf
section
variable {P:Program}{g0 lo:Nat}{μ:Mu}{H:Heap}{w:World}
def MB{n n':Nat}{g Y:Gt}{O:Mu}{w':World}(A:Post n μ g n w O Y n' w'):∃q os,w'=grow (w.drewN q) os:=by have T:w'.heap=w.heap++w'.heap.extract w.heap.size w'.heap.size:=by{apply Array.ext_getElem?;intro i;by_cases hi:i<w.heap.size;{rw[Array.getElem?_append_left hi];exact A.frame i hi λb p ez z I K=>Om};grind};refine⟨w'.drawn - w.drawn,w'.heap.extract w.heap.size w'.heap.size,?_⟩;have I:=A.os;have K:=A.tape;have Q:=A.output;have Z:=A.drawn;obtain⟨h,t,d,o,u⟩:=w;obtain⟨F,U,E,o',V⟩:=w';simp only at I K Q Z T⊢;subst I K Q;show World.mk F U E o' V=World.mk (h++F.extract h.size F.size) U (d+(E - d)) o' V;rw[<-T,show d+(E - d)=E by omega]
def GK(os:Array Obj){c:Nat}(q:c<w.heap.size):(grow w os).heap[c]? =w.heap[c]?:=Array.getElem?_append_left q
def Rel.grown{g:Gt}{n:Nat}(h:Rel P g0 μ g n w)(os:Array Obj):Rel P g0 μ g n (grow w os):=⟨h.lt,h.inj,λb c p ez z q=>by rw[GK os (h.clt q)];exact h.obj b c p ez z q,h.glob,h.ded⟩
def Post.grown{g:Gt}{n:Nat}(h:Rel P g0 μ g n w)(os:Array Obj):Post lo μ g n w μ g n (grow w os) where le:=μ.le_refl;hn:=aq _;old:=λ_ _ h=>h;low:=λ_ _ _=>⟨rfl,rfl⟩;own:=λ_ _ h=>h;new:=λb c p ez z E e=>absurd (h.lt b (by grind)) Om;full:=λb u A=>Om;size:=by{simp_all};frame:=λc q _=>GK os q;os:=rfl;tape:=rfl;output:=rfl;drawn:=aq _
def toV:IV->Value|.int k n=>.int k n|_=>undef
def K1:IV->Bool|.int _ _=>true|_=>false
def ug:∀{L:List IV}{vs:List Value},L.all K1=true->(VRs μ L vs↔vs=L.map toV)|[],vs,_=>by constructor<;>exactλh=>h|x::L,vs,h=>by simp only[lU,bP] at h;have A:=λvs=>ug (L:=L) (vs:=vs) h.2;obtain⟨k,n,rfl⟩:∃k n,x=.int k n:=by{cases x with|int k n=>exact⟨k,n,rfl⟩|_=>exact absurd h.1 (by simp[K1])};constructor;{rintro⟨y,ys,rfl,q,u⟩;have q:y=.int k n:=q;rw[q,(A ys).1 u];rfl};{rintro rfl;exact⟨_,_,rfl,rfl,(A _).2 rfl⟩}
theorem AA(F:Array Value)(cs:Array Value)(h:F.size<=cs.size):(putCells id 0 F cs).toList.take F.size=F.toList:=by apply uE;intro i;rw[List.getElem?_take];by_cases hi:i<F.size;{rw[if_pos hi,Bi,Bi];unfold putCells;rw[Array.getElem?_mapIdx,yg (by omega:i<cs.size)];simp only[dV];rw[iP,m9,getElem!_pos F i hi,yg hi];rfl};grind
def TD(h:Rel P g0 μ H.get H.n w){b c e ez z:Nat}{cs q:List IV}(O:μ b=.at c 0 ez z)(I:lo<=b)(Q:H.get b=some (.cells false e ez cs)){F:Array Value}(T:VRs μ q F.toList)(hl:q.length=cs.length)(m:Nat):Rel P g0 μ (H.put b (.cells false e ez q)).get (H.put b (.cells false e ez q)).n (putRow id (Sort.ahead w m) c 0 F)/\Post lo μ H.get H.n w μ (H.put b (.cells false e ez q)).get (H.put b (.cells false e ez q)).n (putRow id (Sort.ahead w m) c 0 F):=by obtain⟨o,u,K⟩:=h.obj b c 0 ez z O;rw[Q] at u;injection u with u;subst u;obtain⟨_,_,A,U,Z,V,hv⟩:=K;have Y:F.size=q.length:=by{rw[<-qK,T.length]};refine h.update O I ⟨_,Q,rfl⟩ (by show(w.heap.modify c _).size=_;rw[Array.size_modify]) (λc' E=>by show(w.heap.modify c _)[c']? =_;rw[Array.getElem?_modify,if_neg (Ne.symm E)]) ?_ rfl rfl rfl (Nat.le_add_right _ _);refine⟨rfl,rfl,putCells id 0 F A,?_,?_,Om,?_⟩;{show(w.heap.modify c _)[c]? =_;rw[Array.getElem?_modify,if_pos rfl,U];rfl};{unfold putCells;rw[Array.size_mapIdx];exact Z};grind[AA]
section
variable {α:Type}[Inhabited α]
def xW:∀(l:List Value),(List.range l.length).map (λt=>l[t]!)=l:=by intro l;apply eQ (by simp);grind
def D1(enc:α->List Value)(k:Nat)(A:∀x,(enc x).length=k)(u:0<k):∀(l:List α),(flatK enc k l.toArray).toList=l.flatMap enc:=by have key:∀(l:List α),(List.range (l.length*k)).map (λt=>(enc l[t / k]!)[t%k]!)=l.flatMap enc:=by{intro l;induction l with|nil=>simp|cons a l E=>rw[cv,eD,Nat.add_comm,List.range_add,gH,yq,<-E];congr 1;{(conv=>rhs;rw[<-xW (enc a),A]);apply List.map_congr_left;intro t q;have q:=List.mem_range.1 q;rw[Nat.div_eq_of_lt q,Nat.mod_eq_of_lt q];rfl};{rw[nS];apply List.map_congr_left;intro t _;show(enc (a::l)[(k+t) / k]!)[(k+t)%k]! =_;rw[Nat.add_div_left _ u,Nat.add_mod_left];rfl}};simp_all[flatK,Array.toList_map,Array.toList_range]
end
section
variable {α:Type}[Inhabited α][Cell α]
def rD(x:α):List Value:=(Cell.cs x).map toV
omit [Inhabited α] in theorem G0(x:α):(rD x).length=Cell.z α:=by unfold rD;rw[bi,Cell.len]
omit [Inhabited α] in theorem NB(l:List α):l.flatMap rD=(aA l).map toV:=by unfold aA rD;rw[Dr]
def HT(u:α->α->Int)(b e ez:Nat)(l:List α)(H:Heap)(v:IV)(H':Heap):Prop:=v=.tuple []/\∃q:List α,q.Perm l/\q.Pairwise (λx y=>ltOf u y x=false)/\H'.n=H.n/\(∀x,x≠b->H'.get x=H.get x)/\H'.get b=some (.cells false e ez (aA q))
def xG{ρ:Ren}(L:SlLaysF0.n6 P ρ)(A:∀x:α,(Cell.cs x).all K1=true)(aE:∀w,(isAgg (ρ.t 24)).run P w=.ok true w)(zE:∀w,(Go.sizeOf (ρ.t 24)).run P w=.ok (Cell.z α) w)(cf:α->α->Int)(hO:SWO (ltOf cf)){g b e ez lb:Nat}{ex:Bool}{l:List α}(bd:lo<=b)(hg:H.get b=some (.cells false e ez (aA l)))(bn:l.length<4611686018427387904)(eg:∀args w,(callFunc g args).run P w=.ok (.enter g args) w)(a1:∀(x y:α)(H':Heap),∃aS,CallSim P g0 g [.agg (Cell.cs x),.agg (Cell.cs y)] H'.n H' (.int .i64 (cf x y)) aS):LD P g0 (ρ.f 6) [.slice b 0 l.length lb ex,.fn g [] []] lo H (HT cf b e ez l H):=by intro μ w ad hr ha;obtain⟨v1,b5,e1,bo,v2,b6,rfl,bt,rfl⟩:=ha;obtain⟨a,cap,rfl,Y,I⟩:=bo;obtain⟨l1,Q,rfl,E,F⟩:=bt;have E:l1.toList=[]:=E;have F:Q.toList=[]:=F;have E:l1=#[]:=Array.toList_eq_nil_iff.1 E;have F:Q=#[]:=Array.toList_eq_nil_iff.1 F;subst E F;have ag:ad=#[.slice (some a) l.length cap,.func (.func g) #[] #[]]:=by{apply qV;rw[e1]};subst ag;have a4:∃c q z,μ b=.at c 0 q z/\q=ez/\(cap=0\/a=⟨c,0,none⟩):=by{unfold SlR at I;cases hb:μ b with|no=>rw[hb] at I;exact I.elim|dead=>have:=hr.ded b hb;rw[hg] at this;injection this with this;cases this|«at» c p q z=>rw[hb] at I;obtain⟨o,O,ay⟩:=hr.obj b c p q z hb;rw[hg] at O;injection O with O;subst O;obtain⟨rfl,rfl,_⟩:=ay;exact⟨c,_,z,rfl,rfl,by simpa using I.1⟩};obtain⟨c,q,z,hb,rfl,an⟩:=a4;by_cases Z:l=[];{subst Z;exact(AnyF.slices_SortFunc_none L (some a) cap _ w).mono λe' w' ⟨U,h2⟩=>by subst U h2;exact⟨.tuple [],H,.tuple #[],μ,⟨rfl,[],.refl _,.nil,rfl,λ_ _=>rfl,hg⟩,rfl,hr,Post.refl hr,⟨#[],Rr⟩⟩};have bw:0<l.length:=List.length_pos_iff.2 Z;have ha:a=⟨c,0,none⟩:=by{rcases an with h|h;{have U:=Y.1;have h2:=Y.2.1;omega};{exact h}};subst ha;have V:∀l:List α,(aA l).all K1=true:=λl=>by{unfold aA;rw[List.all_flatMap,sJ];exactλx _=>A x};have hF:∀d:Array α,(flatK rD (Cell.z α) d).toList=(aA d.toList).map toV:=λd=>by{rw[<-NB,<-D1 rD (Cell.z α) G0 Cell.pos]};have a3:∀d:Array α,VRs μ (aA d.toList) (flatK rD (Cell.z α) d).toList:=λd=>(ug (V _)).2 (hF d);obtain⟨o,O,ay⟩:=hr.obj b c 0 q z hb;rw[hg] at O;injection O with O;subst O;obtain⟨_,_,K,hc,hz,b4,hv⟩:=ay;have a6:K.toList.take (aA l).length=(flatK rD (Cell.z α) l.toArray).toList:=by{rw[hF];exact(ug (V _)).1 hv};have a0:c<w.heap.size:=(Array.getElem?_eq_some_iff.1 hc).1;have hH:HoldsK rD (Cell.z α) w c 0 l.toArray:=by{intro j hj;have a9:j<(aA l).length:=by{rw[az];simpa using hj};have b3:j<K.size:=Om;refine⟨?_,?_⟩;{unfold World.cell?;simp only[hc,uG,ii,if_false,cV];have U:(K.toList.take (aA l).length)[j]? =K[j]?:=by{rw[List.getElem?_take,if_pos a9,Bi]};rw[<-U,a6,Bi,yg hj,getElem!_pos _ j hj];rfl};{unfold World.frozen?;simp only[hc];simp}};have hW:∀(d:Array α)(m:Nat)(os:Array Obj),d.size=l.length->Rel P g0 μ (H.put b (.cells false e q (aA d.toList))).get (H.put b (.cells false e q (aA d.toList))).n (sortWorldK rD (Cell.z α) w c 0 m d os)/\ Post lo μ H.get H.n w μ (H.put b (.cells false e q (aA d.toList))).get (H.put b (.cells false e q (aA d.toList))).n (sortWorldK rD (Cell.z α) w c 0 m d os):=by{intro d m os hd;obtain⟨Q,p1⟩:=TD (lo:=lo) hr hb bd hg (a3 d) (by rw[az,az,qK,hd]) m;exact⟨Q.grown os,p1.trans (Post.grown Q os)⟩};have a5:CmpLays P g #[] rD (Cell.z α) cf c 0 l.toArray.size w:=by{intro m os dk a7 x y;obtain⟨Q,_⟩:=hW dk m os (by simpa using a7);obtain⟨aS,hs⟩:=a1 x y (H.put b (.cells false e q (aA dk.toList)));have hx:∀x:α,VR μ (.agg (Cell.cs x)) (.agg (rD x).toArray):=λx=>⟨_,rfl,(ug (A x)).2 rfl⟩;refine(hs μ _ _ Q ⟨_,_,rfl,hx x,_,_,rfl,hx y,rfl⟩).mono λe' w' ⟨v',b7,U,_,h3,h4⟩=>?_;have h4:v'=.int .i64 (cf x y):=h4;subst U h4;exact⟨rfl,MB h3⟩};have a2:∀x:α,∀v∈rD x,v.oneCell'=true:=by{intro x v hv;obtain⟨y,hy,rfl⟩:=List.mem_map.1 hv;have:=List.all_eq_true.1 (A x) y hy;cases y<;>first|(cases this;done)|rfl};have u:=AnyQ.slices_SortFunc L (Cell.z α) aE zE rD G0 a2 cf hO g #[] c 0 cap l.toArray w eg a5 hH a0 (by simpa using bn);rw[yt] at u;refine u.mono λe' w' ⟨U,T,m,os,hp,hs,hw⟩=>?_;subst U hw;have hd:T.size=l.length:=by{simpa using hp.1};obtain⟨Q,p1⟩:=hW T m os hd;refine⟨.tuple [],H.put b (.cells false e q (aA T.toList)),.tuple #[],μ,⟨rfl,T.toList,?_,?_,rfl,λx hx=>by rw[aa,if_neg (Ne.symm hx)],by rw[aa,if_pos rfl]⟩,rfl,Q,p1,⟨#[],Rr⟩⟩;{have:=hp.2.2;have e1:T.extract 0 l.length=T:=by{rw[<-hd];exact Array.extract_size};have e2:l.toArray.extract 0 l.length=l.toArray:=by{rw[<-yt];exact Array.extract_size};rw[e1,e2] at this;simpa using this};{rw[Bo];intro i j hi hj a8;have:=hs i j (dI _) a8 (by rw[<-hd,<-qK];exact hj);rw[getElem!_pos T i (by simpa using hi),getElem!_pos T j (by simpa using hj)] at this;simpa using this}
end
end
open Classical
def P8:IV->Bool|.int _ _=>true|.bool _=>true|.nilSlice=>true|.slice _ _ _ _ _=>true|_=>false
section
variable {P:Program}{g0 lo:Nat}
def gg{c:Code}{x y:IC}(h:aY P c=some (.seq x y)):∃a b,c=.seq a b/\aY P a=some x/\aY P b=some y:=by cases c<;>simp only[aY,fg,sM,fh,uA,li,reduceCtorEq,and_false,exists_false] at h;grind
def vi{c:Code}{l:List (Sg×List IOp)}(h:aY P c=some (.ops l)):∃id ops q,c=.region id ops q/\dQ P ops q=some l:=by cases c<;>simp only[aY,fg,sM,fh,uA,li,reduceCtorEq,and_false,exists_false] at h;grind
def Hi{c:Code}{x:IC}{n:Nat}(h:aY P c=some (.block n x)):∃a,c=.block n a/\aY P a=some x:=by cases c<;>simp only[aY,fg,sM,fh,uA,li,reduceCtorEq,and_false,exists_false] at h;grind
def JT{c:Code}{x:IC}(h:aY P c=some (.loop x)):∃a,c=.loop a/\aY P a=some x:=by cases c<;>simp only[aY,fg,sM,fh,uA,li,reduceCtorEq,and_false,exists_false] at h;grind
end
open Classical
def xS(q:Nat->Nat):IV->IV|.slice b o n lb ex=>.slice (q b) o n lb ex|v=>v
def nmC(n:Nat):IV->Prop|.slice b _ _ _ _=>b<n|_=>True
def IU{μ q:Mu}{u:Nat->Nat}{n:Nat}(hm:∀b,b<n->q b=μ (u b)\/q b=.dead):∀{v:IV}{v':Value},P8 v=true->nmC n v->VR μ (xS u v) v'->VR q v v'|.int _ _,_,_,_,h=>h|.bool _,_,_,_,h=>h|.nilSlice,_,_,_,h=>h|.slice b o n lb ex,_,_,F,h=>by obtain⟨a,cap,e,A,E⟩:=h;refine⟨a,cap,e,A,?_⟩;unfold SlR at E⊢;rcases hm b F with e|e<;>grind
def lg{μ q:Mu}{E:Nat->Nat}{n:Nat}(hm:∀b,b<n->q b=μ (E b)\/q b=.dead):∀{cs:List IV}{l:List Value},cs.all P8=true->(∀c∈cs,nmC n c)->VRs μ (cs.map (xS E)) l->VRs q cs l|[],_,_,_,h=>h|c::cs,_,u,A,h=>by simp only[lU,bP] at u;obtain⟨y,ys,e,F,I⟩:=h;exact⟨y,ys,e,IU hm u.1 (A c qJ) F,lg hm u.2 (λc K=>A c (eS _ K)) I⟩
section
variable {μ μ1 μ':Mu}
def Ao(μ μ1 μ':Mu):Prop:=∀b,μ b≠.no->μ' b=μ1 b\/μ' b=.dead
def LocR.swap(hs:Ao μ μ1 μ'){b o:Nat}{q a:Addr}(h0:LocR μ b o q)(h:LocR μ1 b o a):LocR μ' b o a:=by have hn:μ b≠.no:=by{intro e;unfold LocR at h0;rw[e] at h0;exact h0};unfold LocR at h⊢;rcases hs b hn with e|e<;>grind
def SlR.swap(hs:Ao μ μ1 μ'){b o c0 cap:Nat}{ex:Bool}{q a:Addr}(h0:SlR μ b o ex c0 q)(h:SlR μ1 b o ex cap a):SlR μ' b o ex cap a:=by have hn:μ b≠.no:=by{intro e;unfold SlR at h0;rw[e] at h0;exact h0};unfold SlR at h⊢;rcases hs b hn with e|e<;>grind
mutual
def VR.swap(hs:Ao μ μ1 μ'):∀(x:IV)(O v:Value),VR μ x O->VR μ1 x v->VR μ' x v|.bool _,_,_,_,h=>h|.int _ _,_,_,_,h=>h|.str _,_,_,_,h=>h|.ptr _ _,_,_,h0,h=>by obtain⟨a,e,k⟩:=h;obtain⟨_,_,k0⟩:=h0;exact⟨a,e,k0.swap hs k⟩|.nilPtr,_,_,_,h=>h|.slice _ _ _ _ _,_,_,h0,h=>by obtain⟨a,c,e,k,l⟩:=h;obtain⟨_,_,_,_,I⟩:=h0;exact⟨a,c,e,k,I.swap hs l⟩|.nilSlice,_,_,_,h=>h|.map _,_,_,h0,h=>by obtain⟨a,e,k⟩:=h;obtain⟨_,_,k0⟩:=h0;exact⟨a,e,k0.swap hs k⟩|.nilMap,_,_,_,h=>h|.fn _ l r,_,_,h0,h=>by obtain⟨q,K,e,u,E⟩:=h;obtain⟨_,_,_,A,F⟩:=h0;exact⟨q,K,e,VRs.swap hs l _ _ A u,VRs.swap hs r _ _ F E⟩|.yield _,_,_,h0,h=>by obtain⟨a,e,k⟩:=h;obtain⟨_,_,k0⟩:=h0;exact⟨a,e,k0.swap hs k⟩|.nilFunc,_,_,_,h=>h|.iface _ x,_,_,h0,h=>by obtain⟨Q,e,k⟩:=h;obtain⟨_,_,k0⟩:=h0;exact⟨Q,e,VR.swap hs x _ _ k0 k⟩|.nilIface,_,_,_,h=>h|.agg l,_,_,h0,h=>by obtain⟨q,e,k⟩:=h;obtain⟨_,_,k0⟩:=h0;exact⟨q,e,VRs.swap hs l _ _ k0 k⟩|.tuple l,_,_,h0,h=>by obtain⟨q,e,k⟩:=h;obtain⟨_,_,k0⟩:=h0;exact⟨q,e,VRs.swap hs l _ _ k0 k⟩
def VRs.swap(hs:Ao μ μ1 μ'):∀(x:List IV)(u v:List Value),VRs μ x u->VRs μ1 x v->VRs μ' x v|[],_,_,_,h=>h|x::xs,_,_,h0,h=>by obtain⟨y,ys,e,k,ks⟩:=h;obtain⟨_,_,_,k0,q⟩:=h0;exact⟨y,ys,e,VR.swap hs x _ _ k0 k,VRs.swap hs xs _ _ q ks⟩
end
def EsR.swap(hs:Ao μ μ1 μ'):∀{q:List (IV×IV×Nat)}{A l:List MapEntry},EsR μ q A->EsR μ1 q l->EsR μ' q l|[],_,_,_,h=>h|(k,v,_)::_,_,_,h0,h=>by obtain⟨e,u,a,b,c,d,f⟩:=h;obtain⟨_,_,_,b0,c0,_,f0⟩:=h0;exact⟨e,u,a,VR.swap hs k _ _ b0 b,VR.swap hs v _ _ c0 c,d,EsR.swap hs f0 f⟩
def ObjR.swap{P:Program}(hs:Ao μ μ1 μ'){o:IObj}{p Z ez F z z0:Nat}{h h0:Option Obj}(k0:ObjR P μ o Z F z0 h0)(k:ObjR P μ1 o p ez z h):ObjR P μ' o p ez z h:=by cases o with|cells ro e T cs=>cases ro;{obtain⟨a,b,q,c,d,A,f⟩:=k;obtain⟨_,_,_,_,_,_,f0⟩:=k0;exact⟨a,b,q,c,d,A,VRs.swap hs _ _ _ f0 f⟩};{obtain⟨a,q,A,U,b,c,f⟩:=k;obtain⟨_,_,_,_,_,_,f0⟩:=k0;exact⟨a,q,A,U,b,c,VRs.swap hs _ _ _ f0 f⟩}|map es u=>obtain⟨a,E,b,c⟩:=k;obtain⟨_,_,_,c0⟩:=k0;exact⟨a,E,b,EsR.swap hs c0 c⟩|loop st pend tm ps O body df=>obtain⟨a,L,b,c,d,e,f,g,i,j⟩:=k;obtain⟨_,_,_,_,_,Q,_,_,_,V⟩:=k0;exact⟨a,L,b,c,d,VRs.swap hs _ _ _ Q e,f,g,i,V.swap hs j⟩|deferred=>exact k|taken=>exact k|iter m I seen K=>obtain⟨a,Y,b,c⟩:=k;obtain⟨_,_,_,c0⟩:=k0;exact⟨a,Y,b,VR.swap hs _ _ _ c0 c⟩|dead=>exact k
end
structure FixOk(lo:Nat)(H H1 Hs:Heap)(σ:Nat→Nat):Prop where
 hn:H.n≤Hs.n
 s0:∀b,b < H.n→σ b=b
 s1:∀b,H.n≤b→b < Hs.n→H.n≤σ b∧σ b < H1.n
 s2:∀b b',H.n≤b→b < Hs.n→H.n≤b'→b' < Hs.n→σ b=σ b'→b=b'
 low:∀b,b < lo→b < H.n→Hs.get b=H.get b
 old:∀b,b < H.n→(Hs.get b=H.get b∧H1.get b=H.get b)∨(lo≤b∧Hs.get b=some .dead)∨
  (lo≤b∧bj H.get b∧∃e z cs,Hs.get b=some (.cells false e z cs)∧H1.get b=some (.cells false e z (cs.map (xS σ)))∧cs.all P8=true∧∀c∈cs,nmC Hs.n c)
 new:∀b,H.n≤b→b < Hs.n→∃e z cs,Hs.get b=some (.cells false e z cs)∧H1.get (σ b)=some (.cells false e z (cs.map (xS σ)))∧cs.all P8=true∧∀c∈cs,nmC Hs.n c
section
variable {P:Program}{g0 lo:Nat}
def Um{μ A:Mu}{H H1 I:Heap}{w w1:World}{T:Nat->Nat}(b5:g0<=lo)(hr:Rel P g0 μ H.get H.n w)(r1:Rel P g0 A H1.get H1.n w1)(V:Post lo μ H.get H.n w A H1.get H1.n w1)(u:FixOk lo H H1 I T):∃an,Rel P g0 an I.get I.n w1/\Post lo μ H.get H.n w an I.get I.n w1/\∀b,b<I.n->an b=A (T b)\/an b=.dead:=by let m2:Mu:=λb=>if b<I.n then(if I.get b=some .dead/\A (T b)≠.no then .dead else A (T b)) else .no;have bn:∀b,I.n<=b->m2 b=.no:=λb h=>by{grind};have bd:∀b,b<I.n->I.get b=some .dead->A (T b)≠.no->m2 b=.dead:=λb E q h3=>by{grind};have a5:∀b,b<I.n->¬(I.get b=some .dead/\A (T b)≠.no)->m2 b=A (T b):=λb E q=>by{grind};have Z:∀b,b<I.n->m2 b=A (T b)\/m2 b=.dead:=λb h=>by{grind};have b3:∀b,b<I.n->A (T b)=.no->m2 b=.no:=λb E q=>by{grind};have ag:∀b c p ez z,m2 b=.at c p ez z->b<I.n/\A (T b)=.at c p ez z/\I.get b≠some .dead:=by{grind};have aS:∀b b',b<I.n->b'<I.n->T b=T b'->b=b':=by{intro b b' E q he;rcases dp b H.n with c1|c1<;>rcases dp b' H.n with c2|c2;{rw[u.s0 b c1,u.s0 b' c2] at he;exact he};{have:=u.s0 b c1;have:=u.s1 b' c2 q;omega};{have:=u.s0 b' c2;have:=u.s1 b c1 E;omega};{exact u.s2 b b' c1 E c2 q he}};have a7:Ao μ A m2:=λb F=>by{have O:=hr.lt b F;have:=Z b (cj O u.hn);rwa [u.s0 b O] at this};have a6:∀b,b<I.n->bj I.get b->bj H1.get (T b):=by{rintro b F ⟨o,E,q⟩;rcases dp b H.n with c|c;{rw[u.s0 b c];rcases u.old b c with⟨K,U⟩|⟨_,K⟩|⟨_,_,e,z,cs,K,U,_⟩;{exact⟨o,by rw[U,<-K];exact E,q⟩};{rw[K] at E;injection E with E;subst E;cases q};{exact⟨_,U,rfl⟩}};{obtain⟨e,z,cs,K,U,_⟩:=u.new b c F;exact⟨_,U,rfl⟩}};have bt:μ.le m2:=λb F=>by{have O:=hr.lt b F;rcases a7 b F with e|e;{rw[e];exact V.le b F};{exact .inr e}};refine⟨m2,⟨?_,?_,?_,?_,?_⟩,⟨bt,u.hn,?_,?_,?_,?_,?_,V.size,V.frame,V.os,V.tape,V.output,V.drawn⟩,Z⟩;{grind};{intro b b' c p ez z p' b4 z' F a8 ho;obtain⟨E,q,_⟩:=ag _ _ _ _ _ F;obtain⟨h3,h4,_⟩:=ag _ _ _ _ _ a8;exact aS b b' E h3 (r1.inj _ _ _ _ _ _ _ _ _ q h4 (a6 b E ho))};{intro b c p ez z F;obtain⟨E,q,h3⟩:=ag _ _ _ _ _ F;obtain⟨o1,g1,k1⟩:=r1.obj _ c p ez z q;rcases dp b H.n with cc|cc;{have e0:=u.s0 b cc;rw[e0] at g1 q;rcases u.old b cc with⟨K,U⟩|⟨_,K⟩|⟨_,_,e,z',cs,K,U,a3,a4⟩;{rw[U] at g1;refine⟨o1,by rw[K];exact g1,?_⟩;have bw:μ b≠.no:=λh=>by{rw[V.old b cc h] at q;cases q};obtain⟨c0,p0,ad,z0,a9⟩:∃c0 p0 ad z0,μ b=.at c0 p0 ad z0:=by{cases hm:μ b with|no=>exact absurd hm bw|dead=>have:=hr.ded b hm;rw[g1] at this;injection this with this;subst this;exact k1.elim|«at» c0 p0 ad z0=>exact⟨_,_,_,_,rfl⟩};obtain⟨o0,Q,k0⟩:=hr.obj b _ _ _ _ a9;rw[g1] at Q;injection Q with Q;subst Q;exact k0.swap a7 k1};{exact absurd K h3};{rw[U] at g1;injection g1 with g1;subst g1;obtain⟨q1,q2,ay,q3,q4,q5,q6⟩:=k1;rw[bi] at q5 q6;exact⟨_,K,q1,q2,ay,q3,q4,q5,lg Z a3 a4 q6⟩}};{obtain⟨e,z',cs,K,U,a3,a4⟩:=u.new b cc E;rw[U] at g1;injection g1 with g1;subst g1;obtain⟨q1,q2,ay,q3,q4,q5,q6⟩:=k1;rw[bi] at q5 q6;exact⟨_,K,q1,q2,ay,q3,q4,q5,lg Z a3 a4 q6⟩}};{intro i hi;have bo:=hr.glob i hi;have O:=hr.lt i (by grind);have E:=r1.glob i hi;have e0:=u.s0 i O;rcases Z i (cj O u.hn) with e|e;{rw[e,e0];exact E};{have hd:I.get i=some .dead:=by{grind};rw[u.low i Om O] at hd;obtain⟨o,g,k⟩:=hr.obj i _ _ _ _ bo;rw[hd] at g;injection g with g;subst g;exact k.elim}};{intro b F;have O:b<I.n:=Dq λh=>by{rw[bn b h] at F;cases F};by_cases q:I.get b=some .dead/\A (T b)≠.no;{exact q.1};{rw[a5 b O q] at F;have hd:=r1.ded _ F;rcases dp b H.n with cc|cc;{rw[u.s0 b cc] at hd;rcases u.old b cc with⟨K,U⟩|⟨_,K⟩|⟨_,_,e,z',cs,K,U,_⟩<;>grind};{obtain⟨e,z',cs,K,U,_⟩:=u.new b cc O;grind}}};{intro b F h;exact b3 b (cj F u.hn) (by rw[u.s0 b F];exact V.old b F h)};{intro b F Y;have hl:=V.low b F Y;have hg:=u.low b F Y;refine⟨?_,hg⟩;have aE:=cj Y u.hn;by_cases q:I.get b=some .dead/\A (T b)≠.no;{rw[bd b aE q.1 q.2];have h3:=q.2;rw[u.s0 b Y,hl.1] at h3;cases hm:μ b with|no=>exact absurd hm h3|dead=>rfl|«at» c0 p0 ad z0=>obtain⟨o0,Q,k0⟩:=hr.obj b _ _ _ _ hm;rw[<-hg,q.1] at Q;injection Q with Q;subst Q;exact k0.elim};{rw[a5 b aE q,u.s0 b Y];exact hl.1}};{rintro b F ⟨o,E,q⟩;rcases u.old b F with⟨K,_⟩|⟨_,K⟩|⟨_,a0,_⟩;{exact⟨o,by rw[<-K];exact E,q⟩};{rw[K] at E;injection E with E;subst E;cases q};{exact a0}};{intro b c p ez z F e;obtain⟨E,q,_⟩:=ag _ _ _ _ _ e;exact V.new _ c p ez z (u.s1 b F E).1 q};{intro b E q;have:=u.s1 b E q;have h3:=V.full _ this.1 this.2;grind}
def Rw{f:FuncId}{fn:IFn}(u:iX P f=some fn){args:List IV}{H Hs:Heap}{v:List IV}(ay:g0<=lo){NC:Prop}(a6:∀(μ:Mu)(w:World)(q:Array Value),Rel P g0 μ H.get H.n w->VRs μ args q.toList->NC)(K:NC->∀E c,P.funcs[f]? =some E->E.body=some c->aY P c=some fn.body->NItem P g0 lo (.code c) none ⟨args++dh (fn.ntmps - args.length),[]⟩ H λo H'=>∃e F,o=.ex e F/\(∀id,e≠.jmp (.exit id))/\F.marks=[]/\ ∃σ,aG H' F.tm fn.results=some [.agg (v.map (xS σ))]/\v.all P8=true/\(∀c∈v,nmC Hs.n c)/\FixOk lo H H' Hs σ):CallSim P g0 f args lo H (.agg v) Hs:=by unfold iX at u;cases U:P.funcs[f]? with|none=>rw[U] at u;cases u|some E=>rw[U] at u;simp only at u;split at u;{cases u};{cases hb:E.body with|none=>rw[hb] at u;cases u|some c=>rw[hb] at u;simp only at u;cases A:E.results.toList.mapM (vY P) with|none=>rw[A] at u;cases u|some bt=>cases O:aY P c with|none=>rw[A,O] at u;cases u|some ic=>rw[A,O] at u;injection u with u;subst u;intro μ w q hr ha cs;have hs:=K (a6 μ w q hr ha) E c U hb O;have ht:VRs μ (args++dh (E.ntmps - args.length)) (q++Array.replicate (E.ntmps - q.size) undef).toList:=by{have hl:args.length=q.size:=by{have:=ha.length;simpa using this};rw[hl,x9,Array.toList_replicate];exact ha.append (mT _)};obtain⟨e,bo,H1,bn,w1,t1,ad,⟨e',F,ag,he,a0,σ,hv,a8,a7,an⟩,a1,a2,a3,Z,a5⟩:=hs μ w _ none [] hr ht rfl rfl f [] cs;injection ag with q1 q2;subst q1 q2;rw[a0] at Z;have Z:ad=[]:=Z;subst Z;have I:Frame.enter P f q .normal=bN f none (q++Array.replicate (E.ntmps - q.size) undef) [] [.code c]:=by{simp[Frame.enter,bN,U,hb]};have aS:∃todo,Steps P (lone (Frame.enter P f q .normal) cs w) (lone (Oa f t1 [] todo) cs w1):=by{rw[I];cases e with|normal=>exact⟨[],Steps.trans a5 (.one (sk (.inl rfl)))⟩|jmp j=>cases j with|exit id=>exact absurd rfl (he id)|ret=>obtain⟨pre,b1,_⟩:=a5;exact⟨_,Steps.trans b1 (.one (sk (.inr ⟨_,rfl⟩)))⟩};obtain⟨todo,bd⟩:=aS;obtain⟨v',Y,T⟩:=qE a1 a3 A hv;have T:VR bn (.agg (v.map (xS σ))) v':=T;obtain⟨m2,V,Q,a9⟩:=Um ay hr a1 a2 an;refine⟨.returned v',w1,Oa f t1 [] todo,⟨v',m2,rfl,V,Q,?_⟩,bd,rfl,rfl,rfl,rfl,E,U,Y⟩;obtain⟨l',e',aE⟩:=T;exact⟨l',e',lg a9 a8 a7 aE⟩}
noncomputable def kq(P:Program)(g0:Nat)(f:FuncId)(C:List IV->Heap->Option (IV×Heap)):List IV->Nat->Heap->Option (IV×Heap):=λargs lo H=>match C args H with|some (v,H')=>if Keep lo H H'/\CallSim P g0 f args lo H v H' then some (v,H') else none|none=>none
def vQ{f:FuncId}{C:List IV->Heap->Option (IV×Heap)}{args:List IV}{H H':Heap}{v:IV}(q:C args H=some (v,H'))(u:Keep lo H H')(hs:CallSim P g0 f args lo H v H'):kq P g0 f C args lo H=some (v,H'):=by simp_all[kq,if_pos]
def D2{f:FuncId}{C:List IV->Heap->Option (IV×Heap)}{args:List IV}{H H':Heap}{v:IV}(h:kq P g0 f C args lo H=some (v,H')):Keep lo H H'/\∀q,q<=lo->kq P g0 f C args q H=some (v,H'):=by unfold kq at h;split at h;{rename_i K H0 I;split at h;{rename_i u;injection h with h;injection h with E F;subst E F;exact⟨u.1,λq A=>vQ I (u.1.lower A) (u.2.lower A)⟩};{cases h}};{cases h}
def Jx{f:FuncId}{C:List IV->Heap->Option (IV×Heap)}{args:List IV}{H H':Heap}{v:IV}(h:kq P g0 f C args lo H=some (v,H')):CallSim P g0 f args lo H v H':=by grind[kq]
end
end Go.Iso
