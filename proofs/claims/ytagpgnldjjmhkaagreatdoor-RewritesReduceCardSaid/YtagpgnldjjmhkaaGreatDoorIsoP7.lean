/-
  rules of runs over ranges, slices and lists.
-/
import Derived.Test.YtagpgnldjjmhkaaGreatDoorIsoP6
import Derived.IntWalk
import Derived.Shelf.SlSortCmp.NoneTotal
set_option linter.unusedSimpArgs false
set_option linter.unusedVariables false
set_option maxRecDepth 100000
set_option linter.defProp false
namespace Go.Iso
section
variable {E:Env}{lo:Nat}{rd:Option Nat}{fr:Fr}{H:Heap}{Q:Aj}
def RD:Option Jmp->Ex|none=>.normal|some j=>.jmp j
def aas:RD none=.normal:=rfl
def aar{j:Jmp}:RD (some j)=.jmp j:=rfl
def WJ(l lo:Nat)(marks:List Nat)(fr:Fr)(Q:Aj)(A:Heap)(ob:Option IObj):Prop:=match ob with|some (.loop st pend tm I q body F)=>st≠.busy/\lo<=l/\Q (.ex (RD pend) {fr with marks:=marks++fr.marks}) (A.put l (.loop .exhausted pend tm I q body F))|_=>False
def ado(l lo:Nat)(marks:List Nat)(fr:Fr)(Q:Aj):Aj:=λo q=>match o with|.val _=>WJ l lo marks fr Q q (q.get l)|_=>False
def aiT(E:Env)(lo:Nat)(A:List Nat)(q body:IC)(fr:Fr)(Q:Aj)(g:IV)(e:Nat×List Nat×Heap):Prop:=W E lo (.apply g [.yield e.2.2.n]) (e.2.2.new (.loop .ready none fr.tm A q body e.1)) (ado e.2.2.n lo e.2.1 fr Q)
def adn{l:Nat}{marks:List Nat}{v:IV}:ado l lo marks fr Q (.val v) H=WJ l lo marks fr Q H (H.get l):=rfl
def adm{l:Nat}{marks:List Nat}{st:LoopState}{pend:Option Jmp}{tm:List IV}{F:List Nat}{q body:IC}{A:Nat}:WJ l lo marks fr Q H (some (.loop st pend tm F q body A))=(st≠.busy/\lo<=l/\Q (.ex (RD pend) {fr with marks:=marks++fr.marks}) (H.put l (.loop .exhausted pend tm F q body A))):=rfl
def aew{f:IA}{ps:List Nat}{F body:IC}{g:IV}{e:Nat×List Nat×Heap}(hg:f.eval E.g0 fr.tm=some g)(he:ni rd H=some e):W E lo (.code (.rfn f ps F body) rd fr) H Q=aiT E lo ps F body fr Q g e:=by obtain⟨df,marks,H1⟩:=e;refine propext ⟨?_,?_⟩;{rintro⟨n,o,H',h,hq⟩;cases n with|zero=>cases h|succ n=>rw[run] at h;simp only[hg,he] at h;cases Z:run E n (.apply g [.yield H1.n]) lo (H1.new (.loop .ready none fr.tm ps F body df)) with|none=>rw[Z] at h;cases h|some p=>rw[Z] at h;obtain⟨o1,O⟩:=p;refine⟨n,o1,O,Z,?_⟩;cases o1 with|ex e fr=>cases h|val v=>simp only at h;show WJ _ _ _ _ _ _ _;cases U:O.get H1.n with|none=>rw[U] at h;cases h|some ob=>rw[U] at h;cases ob with|loop st pend tm V A q T=>(simp only at h;split at h;{cases h};{rename_i hn;refine⟨λe=>hn (.inl e),Ks λe=>hn (.inr e),?_⟩;cases pend with|none=>injection h with h;injection h with h3 h4;subst h3 h4;exact hq|some j=>injection h with h;injection h with h3 h4;subst h3 h4;exact hq})|_=>cases h};{intro h;refine ahy hg he (h.mono λo O h=>?_);cases o with|ex e fr=>exact h.elim|val v=>have I:WJ H1.n lo marks fr Q O (O.get H1.n):=h;cases U:O.get H1.n with|none=>rw[U] at I;exact I.elim|some ob=>rw[U] at I;cases ob with|loop st pend tm V A q T=>exact⟨v,st,pend,tm,V,A,q,T,rfl,rfl,I.1,I.2.1,by cases pend<;>exact I.2.2⟩|_=>exact I.elim}
def aex{f:IA}{F:List Nat}{q body:IC}:W E lo (.code (.rfn f F q body) none fr) H Q=mO (f.eval E.g0 fr.tm) λg=>W E lo (.apply g [.yield (H.n+1)]) ((H.new .deferred).new (.loop .ready none fr.tm F q body H.n)) (ado (H.n+1) lo [H.n] fr Q):=by cases A:f.eval E.g0 fr.tm with|none=>(refine propext ⟨?_,λh=>h.elim⟩;rintro⟨n,o,H',h,I⟩;cases n with|zero=>cases h|succ n=>rw[run] at h;simp only[A] at h;cases h)|some g=>exact aew A (e:=(H.n,[H.n],H.new .deferred)) rfl
def Hr(l:Nat)(Q:Aj)(e:Ex)(H:Heap)(ob:Option IObj):Prop:=match ob with|some (.loop _ _ tm F q body A)=>(match e with|.normal=>Q (.val (.bool true)) (H.put l (.loop .ready none tm F q body A))|.jmp j=>Q (.val (.bool false)) (H.put l (.loop .done (some j) tm F q body A)))|_=>False
def VN(l:Nat)(Q:Aj):Aj:=λo H=>match o with|.ex e _=>Hr l Q e H (H.get l)|_=>False
def EM(E:Env)(lo l:Nat)(body:IC)(Q:Aj)(fr:Fr)(H:Heap)(ob:Option IObj):Prop:=match ob with|some (.loop .ready pend tm I A q F)=>W E lo (.code body (some l) fr) (H.put l (.loop .busy pend tm I A q F)) (VN l Q)|_=>False
def PS(E:Env)(lo l:Nat)(body:IC)(Q:Aj):Aj:=λo H=>match o with|.ex .normal fr=>EM E lo l body Q fr H (H.get l)|_=>False
def UY(E:Env)(lo l:Nat)(args:List IV)(Q:Aj)(H:Heap)(ob:Option IObj):Prop:=match ob with|some (.loop _ _ tm A q body _)=>args.length=A.length/\lo<=l/\W E lo (.code q (some l) ⟨jf tm A args,[]⟩) H (PS E lo l body Q)|_=>False
def ZP{l:Nat}{e:Ex}:VN l Q (.ex e fr) H=Hr l Q e H (H.get l):=rfl
def ZN{l:Nat}{st:LoopState}{pend:Option Jmp}{tm:List IV}{F:List Nat}{q body:IC}{A:Nat}:Hr l Q .normal H (some (.loop st pend tm F q body A))=Q (.val (.bool true)) (H.put l (.loop .ready none tm F q body A)):=rfl
def ZO{l:Nat}{j:Jmp}{st:LoopState}{pend:Option Jmp}{tm:List IV}{F:List Nat}{q body:IC}{A:Nat}:Hr l Q (.jmp j) H (some (.loop st pend tm F q body A))=Q (.val (.bool false)) (H.put l (.loop .done (some j) tm F q body A)):=rfl
def WS{l:Nat}{body:IC}:PS E lo l body Q (.ex .normal fr) H=EM E lo l body Q fr H (H.get l):=rfl
def WR{l:Nat}{body q:IC}{pend:Option Jmp}{tm:List IV}{I:List Nat}{A:IC}{F:Nat}:EM E lo l body Q fr H (some (.loop .ready pend tm I A q F))=W E lo (.code body (some l) fr) (H.put l (.loop .busy pend tm I A q F)) (VN l Q):=rfl
def UX{l:Nat}{args:List IV}{st:LoopState}{pend:Option Jmp}{tm:List IV}{A:List Nat}{q body:IC}{F:Nat}:UY E lo l args Q H (some (.loop st pend tm A q body F))=(args.length=A.length/\lo<=l/\W E lo (.code q (some l) ⟨jf tm A args,[]⟩) H (PS E lo l body Q)):=rfl
def Ah{l:Nat}{args:List IV}:W E lo (.apply (.yield l) args) H Q=UY E lo l args Q H (H.get l):=by refine propext ⟨?_,?_⟩;{rintro⟨n,o,H',h,hq⟩;cases n with|zero=>cases h|succ n=>rw[run] at h;(try simp only at h);cases hg:H.get l with|none=>rw[hg] at h;cases h|some ob=>rw[hg] at h;cases ob with|loop st pend tm ps ag body df=>simp only at h;split at h;{rename_i hl;refine⟨hl.1,hl.2,?_⟩;cases h1:run E n (.code ag (some l) ⟨jf tm ps args,[]⟩) lo H with|none=>rw[h1] at h;cases h|some p=>rw[h1] at h;obtain⟨o1,H1⟩:=p;refine⟨n,o1,H1,h1,?_⟩;cases o1 with|val v=>cases h|ex e fr=>cases e with|jmp j=>cases h|normal=>simp only at h;show EM _ _ _ _ _ _ _ _;simp only[ov] at h;cases hb:H1.get l with|none=>rw[hb] at h;cases h|some U=>rw[hb] at h;cases U with|loop ad F aS aE I A ay=>(cases ad with|ready=>(simp only at h;cases h2:run E n (.code body (some l) fr) lo (H1.put l (.loop .busy F aS aE I A ay)) with|none=>rw[h2] at h;cases h|some p=>rw[h2] at h;obtain⟨o3,H3⟩:=p;refine⟨n,o3,H3,h2,?_⟩;cases o3 with|val v=>cases h|ex e fr3=>simp only[Hg] at h;show Hr _ _ _ _ _;cases T:H3.get l with|none=>rw[T] at h;cases h|some V=>rw[T] at h;cases V with|loop a2 Z Pq a1 an O a0=>(cases e with|normal=>injection h with h;injection h with h3 h4;subst h3 h4;exact hq|jmp j=>injection h with h;injection h with h3 h4;subst h3 h4;exact hq)|_=>cases h)|_=>cases h)|_=>cases h};{cases h}|_=>cases h};{intro h;cases hg:H.get l with|none=>rw[hg] at h;exact h.elim|some ob=>rw[hg] at h;cases ob with|loop st pend tm ps ag body df=>(obtain⟨h1,h2,h3⟩:=h;refine abz hg h1 h2 (h3.mono λo H1 h=>?_);cases o with|val v=>exact h.elim|ex e fr=>cases e with|jmp j=>exact h.elim|normal=>have h':EM E lo l body Q fr H1 (H1.get l):=h;cases hb:H1.get l with|none=>rw[hb] at h';exact h'.elim|some U=>rw[hb] at h';cases U with|loop ad F aS aE I A ay=>(cases ad with|ready=>(refine⟨fr,_,rfl,by simp only[ov,hb],W.mono h' λo H3 h=>?_⟩;cases o with|val v=>exact h.elim|ex e fr3=>have q:Hr l Q e H3 (H3.get l):=h;cases T:H3.get l with|none=>rw[T] at q;exact q.elim|some V=>rw[T] at q;cases V with|loop a2 Z Pq a1 an O a0=>(cases e with|normal=>exact⟨_,_,(_,_),rfl,by simp only[Hg,T];rfl,q⟩|jmp j=>exact⟨_,_,(_,_),rfl,by simp only[Hg,T];rfl,q⟩)|_=>exact q.elim)|_=>exact h'.elim)|_=>exact h'.elim)|_=>exact h.elim}
def agC(I:Nat->Fr->Heap->Prop)(k:Nat)(Q:Aj):Aj:=λo H=>match o with|.ex .normal fr=>∃q,q<k/\I q fr H|o=>Q o H
def aF{c:IC}(I:Nat->Fr->Heap->Prop)(h:∀k fr H,I k fr H->∀L:Aj,(∀q fr H,q<k->I q fr H->L (.ex .normal fr) H)->(∀j fr H,L (.ex (.jmp j) fr) H=Q (.ex (.jmp j) fr) H)->W E lo (.code c rd fr) H L):∀(k:Nat){fr:Fr}{H:Heap},I k fr H->W E lo (.code (.loop c) rd fr) H Q:=by intro k;induction k using Nat.strongRecOn with|ind k Z=>intro fr H hi;rw[tW];refine(h k fr H hi (agC I k Q) (λq fr H T U=>⟨q,T,U⟩) (λj fr H=>rfl)).mono λo H' A=>?_;cases o with|val v=>exact A|ex e O=>cases e with|jmp j=>exact A|normal=>obtain⟨q,V,F⟩:=A;exact Z q V F
end
def ajJ{a b:Nat}(h:b<a):(a=b)=False:=by simp;omega
def ajI{a b:Nat}(h:a<b):(a=b)=False:=by simp;omega
def cLe{a b:Nat}(h:a<=b):(a<=b)=True:=by simp[h]
def ajH{a b:Nat}(h:b<a):(a<=b)=False:=by simp;omega
def cLt{a b:Nat}(h:a<b):(a<b)=True:=by simp[h]
def ajG{a b:Nat}(h:b<=a):(a<b)=False:=by simp;omega
def iLe{a b:Int}(h:a<=b):(a<=b)=True:=by simp[h]
def ajd{a b:Int}(h:b<a):(a<=b)=False:=by simp;omega
def iLt{a b:Int}(h:a<b):(a<b)=True:=by simp[h]
def ajc{a b:Int}(h:b<=a):(a<b)=False:=by simp;omega
def iGe{a b:Int}(h:a>=b):(a>=b)=True:=by simp;omega
def ajf{a b:Int}(h:a<b):(a>=b)=False:=by simp;omega
def iGt{a b:Int}(h:a>b):(a>b)=True:=by simp;omega
def aje{a b:Int}(h:a<=b):(a>b)=False:=by simp;omega
def ajh{a b:Int}(h:a=b):(a==b)=true:=by simp[h]
def agS{a b:Int}(h:a<b\/b<a):(a==b)=false:=by simp;omega
def ajg{a b:Int}(h:a<b\/b<a):(a !=b)=true:=by simp;omega
def agR{a b:Int}(h:a=b):(a !=b)=false:=by simp[h]
def acU{a:Int}(h: -9223372036854775808<=a/\a<=9223372036854775807):IntKind.i64.wrap a=a:=IntWalk.i64_in a Om
def wU8{a:Int}(h:0<=a/\a<=255):IntKind.u8.wrap a=a:=IntWalk.u8_in a h
def Q4{l:List IV}:(IV.agg l).cells=l:=rfl
def Q3{k:IntKind}{n:Int}:(IV.int k n).cells=[.int k n]:=rfl
def OB{b:Bool}:(IV.bool b).cells=[.bool b]:=rfl
def Q0{s:List UInt8}:(IV.str s).cells=[.str s]:=rfl
def Q1{b o:Nat}:(IV.ptr b o).cells=[.ptr b o]:=rfl
def Hj:IV.nilPtr.cells=[.nilPtr]:=rfl
def Lz{b o n c:Nat}{ex:Bool}:(IV.slice b o n c ex).cells=[.slice b o n c ex]:=rfl
def Cx:IV.nilSlice.cells=[.nilSlice]:=rfl
def Q2{b:Nat}:(IV.map b).cells=[.map b]:=rfl
def Hk:IV.nilMap.cells=[.nilMap]:=rfl
def UC{f:FuncId}{a b:List IV}:(IV.fn f a b).cells=[.fn f a b]:=rfl
def Lx{b:Nat}:(IV.yield b).cells=[.yield b]:=rfl
def GG:IV.nilFunc.cells=[.nilFunc]:=rfl
def LA{t:TypeId}{v:IV}:(IV.iface t v).cells=[.iface t v]:=rfl
def Cy:IV.nilIface.cells=[.nilIface]:=rfl
def zm{k:IntKind}{n:Int}:(IV.int k n).one=true:=rfl
def wx{b:Bool}:(IV.bool b).one=true:=rfl
def Xb{s:List UInt8}:(IV.str s).one=true:=rfl
def Xc{b o:Nat}:(IV.ptr b o).one=true:=rfl
def MP:IV.nilPtr.one=true:=rfl
def Qd{b o n c:Nat}{ex:Bool}:(IV.slice b o n c ex).one=true:=rfl
def G4:IV.nilSlice.one=true:=rfl
def Xd{b:Nat}:(IV.map b).one=true:=rfl
def MR:IV.nilMap.one=true:=rfl
def aaw{f:FuncId}{a b:List IV}:(IV.fn f a b).one=true:=rfl
def Qc{b:Nat}:(IV.yield b).one=true:=rfl
def KG:IV.nilFunc.one=true:=rfl
def Qe{t:TypeId}{v:IV}:(IV.iface t v).one=true:=rfl
def G5:IV.nilIface.one=true:=rfl
def WV(ob:IObj)(o n:Nat):Option (List IV):=match ob with|.cells _ _ _ cs=>if o+n<=cs.length then some ((cs.drop o).take n) else none|_=>none
def aan{q:Bool}{e ez:Nat}{cs:List IV}{o n:Nat}:WV (.cells q e ez cs) o n=if o+n<=cs.length then some ((cs.drop o).take n) else none:=rfl
def WU{H:Heap}{ob:IObj}{b o n:Nat}:(H.new ob).read b o n=if H.n=b then WV ob o n else H.read b o n:=by unfold Heap.read;rw[ak];by_cases h:H.n=b;{simp only[h,if_true];cases ob<;>rfl};{simp[h]}
def WT{H:Heap}{ob:IObj}{b' b o n:Nat}:(H.put b' ob).read b o n=if b'=b then WV ob o n else H.read b o n:=by unfold Heap.read;rw[aa];by_cases h:b'=b;{simp only[h,if_true];cases ob<;>rfl};{simp[h]}
def ae{H:Heap}{q:Bool}{e ez:Nat}{cs:List IV}{b:Nat}(h:H.get b=some (.cells q e ez cs))(o n:Nat):H.read b o n=if o+n<=cs.length then some ((cs.drop o).take n) else none:=by unfold Heap.read;rw[h]
def Kk{H H':Heap}{b:Nat}(h:H'.get b=H.get b)(o n:Nat):H'.read b o n=H.read b o n:=by unfold Heap.read;rw[h]
def Keep.read{lo:Nat}{H H':Heap}(k:Keep lo H H')(b o n:Nat)(q:b<lo)(A:b<H.n):H'.read b o n=H.read b o n:=Kk (k.2 b q A) o n
inductive SV where
 | nil
 | sl (b o n c:Nat) (ex:Bool)
 deriving Inhabited
def SV.iv:SV->IV|.nil=>.nilSlice|.sl b o n c ex=>.slice b o n c ex
def SV.blk:SV->Nat|.nil=>0|.sl b _ _ _ _=>b
def SV.off:SV->Nat|.nil=>0|.sl _ o _ _ _=>o
def SV.tight:SV->Prop|.nil=>True|.sl _ _ n c ex=>c=n/\ex=true
def np(v:SV):v.iv.one=true:=by cases v<;>rfl
def OS(v:SV):v.iv.cells=[v.iv]:=by cases v<;>rfl
def Ja:SV.nil.iv=.nilSlice:=rfl
def mM{b o n c:Nat}{ex:Bool}:(SV.sl b o n c ex).iv=.slice b o n c ex:=rfl
class Cell (α:Type) where
 z:Nat
 cs:α→List IV
 len:∀a,(cs a).length=z
 one:∀a,(cs a).all IV.one=true
 pos:0 < z
instance:Cell SV where
 z:=1
 cs v:=[v.iv]
 len _:=rfl
 one v:=by simp[np]
 pos:=by omega
theorem jt(v:SV):Cell.cs v=[v.iv]:=rfl
def eL:Cell.z SV=1:=rfl
def i5{b o n c:Nat}{ex:Bool}:(SV.sl b o n c ex).blk=b:=rfl
def pc{b o n c:Nat}{ex:Bool}:(SV.sl b o n c ex).off=o:=rfl
section
variable {α:Type}[Cell α]
def aA(l:List α):List IV:=l.flatMap Cell.cs
theorem bP(a:α)(l:List α):aA (a::l)=Cell.cs a++aA l:=rfl
theorem eJ(a b:List α):aA (a++b)=aA a++aA b:=by simp[aA]
def NO(a:α):aA [a]=Cell.cs a:=by simp[aA]
def ax(l:List α):(aA l).length=l.length*Cell.z α:=by induction l with|nil=>simp[aA]|cons p l q=>rw[bP,bA,q,Cell.len,dg,fP];omega
def jr(l:List α):(aA l).all IV.one=true:=by induction l with|nil=>rfl|cons p l q=>rw[bP,List.all_append,q,Cell.one];rfl
theorem wC(l:List α)(k:Nat):(aA l).drop (k*Cell.z α)=aA (l.drop k):=by induction l generalizing k with|nil=>simp[aA]|cons p l q=>cases k with|zero=>simp|succ k=>rw[bP,List.drop_succ_cons,fP,Nat.add_comm,<-Cell.len p,List.drop_length_add_append,Cell.len,q]
theorem IL(l:List α)(k:Nat):(aA l).take (k*Cell.z α)=aA (l.take k):=by induction l generalizing k with|nil=>simp[aA]|cons p l q=>cases k with|zero=>simp[aA]|succ k=>rw[bP,List.take_succ_cons,bP,fP,Nat.add_comm,<-Cell.len p,List.take_length_add_append,Cell.len,q]
def aa6(l:List α)(i:Nat)(h:i<l.length):((aA l).drop (i*Cell.z α)).take (Cell.z α)=Cell.cs l[i]:=by grind[wC,List.drop_eq_getElem_cons,bP,Cell.len,List.take_left]
def fK{H:Heap}{b o n a m:Nat}{cs:List IV}(h:H.read b o n=some cs)(E:a+m<=n):H.read b (o+a) m=some ((cs.drop a).take m):=by unfold Heap.read at h⊢;cases q:H.get b with|none=>rw[q] at h;cases h|some ob=>rw[q] at h;cases ob with|cells F e ez A=>simp only at h⊢;split at h;{injection h with h;rw[iP,<-h,List.drop_take,Km,ug,show min m (n - a)=m from by omega]};{cases h}|_=>cases h
def Sl(H:Heap)(v:SV)(l:List α):Prop:=match v with|.nil=>l=[]|.sl b o n c _=>n=l.length/\n<=c/\(l≠[]->b<H.n/\H.read b o (l.length*Cell.z α)=some (aA l))
def Sl.keep{H H':Heap}{v:SV}{l:List α}(h:Sl H v l)(k:Keep H.n H H'):Sl H' v l:=by cases v with|nil=>exact h|sl b o n c ex=>exact⟨h.1,h.2.1,λq=>⟨cu (h.2.2 q).1 k.1,(k.read b o _ (h.2.2 q).1 (h.2.2 q).1).trans (h.2.2 q).2⟩⟩
def Sl.same{H H':Heap}{v:SV}{l:List α}(h:Sl H v l)(hn:H.n<=H'.n)(A:l≠[]->H'.get v.blk=H.get v.blk):Sl H' v l:=by cases v with|nil=>exact h|sl b o n c ex=>exact⟨h.1,h.2.1,λq=>⟨cu (h.2.2 q).1 hn,(Kk (A q) o _).trans (h.2.2 q).2⟩⟩
def Sl.blk_lt{H:Heap}{v:SV}{l:List α}(h:Sl H v l)(q:l≠[]):v.blk<H.n:=by cases v with|nil=>exact absurd h q|sl b o n c ex=>exact(h.2.2 q).1
def Sl.blk_lt'{H:Heap}{v:SV}{l:List α}(h:Sl H v l){i:Nat}(q:i<l.length):v.blk<H.n:=h.blk_lt (by grind)
def eD{H:Heap}:Sl H .nil ([]:List α):=rfl
def Sl.ln{H:Heap}{v:SV}{l:List α}(h:Sl H v l)(lo:Nat)(H':Heap):ev1 .lenSl [v.iv] lo H'=some (.int .i64 l.length,H'):=by cases v with|nil=>have h:l=[]:=h;subst h;rfl|sl b o n c ex=>rw[<-h.1];rfl
def Sl.lenI{H:Heap}{v:SV}{l:List α}(h:Sl H v l):rz v.iv=some l.length:=by cases v with|nil=>have h:l=[]:=h;subst h;rfl|sl b o n c ex=>rw[<-h.1];rfl
def Sl.srcI{H:Heap}{v:SV}{l:List α}(h:Sl H v l){z:Nat}(A:Cell.z α=z):ki H z l.length v.iv=some (aA l):=by subst A;cases v with|nil=>have h:l=[]:=h;subst h;rfl|sl b o n c ex=>show(if l.length=0 then some [] else H.read b o (l.length*Cell.z α))=_;by_cases q:l=[];{subst q;rfl};{rw[if_neg (by grind)];exact(h.2.2 q).2}
def Sl.idx{H:Heap}{v:SV}{l:List α}(h:Sl H v l)(z:Nat)(x:Int)(lo:Nat)(H':Heap)(h0:0<=x)(q:x<l.length):ev1 (.idxSl z) [v.iv,.int .i64 x] lo H'=some (.ptr v.blk (v.off+x.toNat*z),H'):=by cases v with|nil=>have h:l=[]:=h;subst h;simp at q;omega|sl b o n c ex=>have hn:=h.1;simp only[ev1,SV.iv,SV.blk,SV.off];rw[if_pos ⟨h0,Om⟩]
def Sl.read{H:Heap}{v:SV}{l:List α}(h:Sl H v l){z:Nat}(A:Cell.z α=z)(i:Nat)(hi:i<l.length):H.read v.blk (v.off+i*z) z=some (Cell.cs l[i]):=by subst A;have q:l≠[]:=by{grind};cases v with|nil=>exact absurd h q|sl b o n c ex=>have:=fK (a:=i*Cell.z α) (m:=Cell.z α) (h.2.2 q).2 (by rw[<-fP];exact pT _ hi);rw[aa6 l i hi] at this;exact this
def Sl.part{H:Heap}{b o n c:Nat}{ex:Bool}{l:List α}(h:Sl H (.sl b o n c ex) l){z:Nat}(I:Cell.z α=z){a m c':Nat}{ex':Bool}(hm:a+m<=l.length)(F:m<=c'):Sl H (.sl b (o+a*z) m c' ex') ((l.drop a).take m):=by subst I;have A:((l.drop a).take m).length=m:=by{rw[bJ,d0];omega};refine⟨A.symm,F,λE=>?_⟩;have q:l≠[]:=by{intro e;rw[e] at E;simp at E};refine⟨(h.2.2 q).1,?_⟩;have:=fK (a:=a*Cell.z α) (m:=m*Cell.z α) (h.2.2 q).2 (by rw[<-tn];exact pT _ hm);grind[wC,IL]
def EJ(n:Nat)(a:α):oC n (Cell.cs a)=aA (List.replicate n a):=by induction n with|zero=>rfl|succ n q=>rw[oC,q,Kz,bP]
def NN(l:List α)(i:Nat)(a:α)(h:i<l.length):aD (aA l) (i*Cell.z α) (Cell.cs a)=aA (l.set i a):=by have q:i*Cell.z α+Cell.z α<=(aA l).length:=by{rw[ax,<-fP];exact pT _ h};rw[dF _ _ _ (by rw[Cell.len];exact q),IL,Cell.len,<-fP,wC,List.set_eq_take_append_cons_drop,if_pos h];rw[eJ,bP,cO]
def ci(tm:List IV)(n:Nat)(h:tm.length=n):tm=(List.range n).map λi=>tm.getD i UN:=by subst h;apply i8<;>grind
def Own(H:Heap)(b e cap:Nat)(l:List α):Prop:=l.length<=cap/\b<H.n/\∃r,H.get b=some (.cells false e (Cell.z α) (aA l++r))/\r.length=(cap - l.length)*Cell.z α
def Own.sl{H:Heap}{b e cap:Nat}{l:List α}(h:Own H b e cap l)(ex:Bool):Sl H (.sl b 0 l.length cap ex) l:=by obtain⟨q,A,r,E,F⟩:=h;refine⟨rfl,q,λ_=>⟨A,?_⟩⟩;rw[ae E,aQ,if_pos (by rw[bA,ax];omega),xu,<-ax,List.take_left]
def Own.same{H H':Heap}{b e cap:Nat}{l:List α}(h:Own H b e cap l)(hn:H.n<=H'.n)(I:H'.get b=H.get b):Own H' b e cap l:=by obtain⟨q,A,r,E,F⟩:=h;exact⟨q,cu A hn,r,I.trans E,F⟩
def Own.keep{H H':Heap}{b e cap:Nat}{l:List α}(h:Own H b e cap l)(k:Keep H.n H H'):Own H' b e cap l:=h.same k.1 (k.2 b h.2.1 h.2.1)
def Own.full{H:Heap}{b e:Nat}{l:List α}(h:Own H b e l.length l):H.get b=some (.cells false e (Cell.z α) (aA l)):=by obtain⟨q,A,r,E,F⟩:=h;grind
def bG{H:Heap}{b e:Nat}{l:List α}(q:b<H.n){z:Nat}(F:Cell.z α=z){cs:List IV}(E:H.get b=some (.cells false e z cs))(A:cs=aA l):Own H b e l.length l:=by subst F A;exact⟨ao _,q,[],by rw[E,i6],by simp⟩
def Own.mksl{H:Heap}{e n:Nat}{z:Nat}(q:Cell.z α=z)(a:α):Own (H.new (.cells false e z (oC n (Cell.cs a)))) H.n e n (List.replicate n a):=by subst q;refine⟨by simp,by rw[ac];omega,[],by rw[ak,if_pos rfl,i6,EJ],by simp⟩
def wO{H:Heap}{e n:Nat}{z:Nat}(A:Cell.z α=z){cs:List IV}(q:cs.length=n*z):Own (H.new (.cells false e z cs)) H.n e n ([]:List α):=by subst A;exact⟨by simp,by rw[ac];omega,cs,by rw[ak,if_pos rfl];rfl,by simp[q]⟩
def Own.set{H:Heap}{b e cap:Nat}{l:List α}(h:Own H b e cap l){z:Nat}(Q:Cell.z α=z)(i:Nat)(hi:i<l.length)(a:α)(lo:Nat)(q:lo<=b):∃cs,H.write lo b (i*z) (Cell.cs a)=some (H.put b (.cells false e z cs))/\Own (H.put b (.cells false e z cs)) b e cap (l.set i a):=by subst Q;obtain⟨A,E,r,F,I⟩:=h;have O:=ax l;have T:i*Cell.z α+Cell.z α<=l.length*Cell.z α:=by{rw[<-fP];exact pT _ hi};refine⟨aD (aA l++r) (i*Cell.z α) (Cell.cs a),?_,?_⟩;{unfold Heap.write;rw[F];simp only;rw[if_pos ⟨q,by rw[Cell.len,bA];omega,Cell.one a⟩]};{refine⟨by simp[A],E,r,?_,by simp[I]⟩;rw[aa,if_pos rfl,<-NN l i a hi,dF _ _ _ (by rw[Cell.len,bA];omega),dF _ _ _ (by rw[Cell.len];omega),Cell.len];grind}
def Own.push{H:Heap}{b e cap:Nat}{l m:List α}(h:Own H b e cap l){z:Nat}(O:Cell.z α=z)(U:l.length+m.length<=cap)(lo:Nat)(I:lo<=b):∃cs,H.write lo b (l.length*z) (aA m)=some (H.put b (.cells false e z cs))/\Own (H.put b (.cells false e z cs)) b e cap (l++m):=by subst O;obtain⟨Q,F,r,T,E⟩:=h;have A:=ax l;have q:=ax m;have V:(aA m).length<=r.length:=by{rw[q,E];exact pT _ Om};refine⟨aD (aA l++r) (l.length*Cell.z α) (aA m),?_,?_⟩;{simp_all[Heap.write,if_pos,bA,jr]};{refine⟨by simp;omega,F,r.drop (aA m).length,?_,?_⟩;{rw[aa,if_pos rfl,dF _ _ _ (by grind),eJ,<-A,List.take_left,List.drop_length_add_append]};{rw[d0,E,q,bA,<-Nat.sub_mul];congr 1;omega}}
end
section
variable {α:Type}[Cell α]
def Sl.cap{H:Heap}{v:SV}{l:List α}(h:Sl H v l)(q:v.tight)(lo:Nat)(H':Heap):ev1 .cap [v.iv] lo H'=some (.int .i64 l.length,H'):=by cases v with|nil=>have h:l=[]:=h;subst h;rfl|sl b o n c ex=>obtain⟨rfl,rfl⟩:=q;rw[<-h.1];rfl
theorem Keep.newPut{H:Heap}{o o':IObj}:Keep H.n H ((H.new o).put H.n o'):=(Keep.new _ _).trans (.put _ _ (ao _))
def fU{H:Heap}{v:SV}{l:List α}(E:Sl H v l){z:Nat}(T:Cell.z α=z)(e lo:Nat)(zs:List IV)(I:zs.length=z)(A:lo<=H.n):∃q,ev1 (.copy z) [.slice H.n 0 l.length l.length true,v.iv] lo (H.new (.cells false e z (oC l.length zs)))=some (.int .i64 l.length,q)/\q.n=H.n+1/\Keep H.n H q/\Own q H.n e l.length l:=by subst T;have F:=E.keep (H':=H.new (.cells false e (Cell.z α) (oC l.length zs))) (Keep.new _ _);have O:tI (.slice H.n 0 l.length l.length true)=some l.length:=rfl;by_cases h0:l=[];{subst h0;refine⟨H.new (.cells false e (Cell.z α) []),?_,ac _ _,Keep.new _ _,bG (l:=[]) (cs:=[]) (by rw[ac];omega) rfl (by rw[ak,if_pos rfl]) rfl⟩;simp only[ev1,O,E.lenI];rfl};{have Q:0<l.length:=List.length_pos_iff.2 h0;refine⟨(H.new (.cells false e (Cell.z α) (oC l.length zs))).put H.n (.cells false e (Cell.z α) (aA l)),?_,by rw[af,ac],Keep.newPut,bG (by rw[af,ac];omega) rfl (by rw[aa,if_pos rfl]) rfl⟩;simp only[ev1,O,E.lenI];rw[Nat.min_self,iN,F.srcI rfl];simp only[bK,Heap.write];rw[ak,if_pos rfl];simp only;have U:(oC l.length zs).length=(aA l).length:=by{rw[eM,I,ax]};rw[if_pos ⟨A,Om,jr l⟩,dF _ _ _ Om];grind}
def Own.put{H:Heap}{b e:Nat}{l:List α}(h:Own H b e l.length l){z:Nat}(q:Cell.z α=z)(i:Nat)(hi:i<l.length)(a:α):Own (H.put b (.cells false e z (aD (aA l) (i*z) (Cell.cs a)))) b e l.length (l.set i a):=by subst q;rw[NN l i a hi];have:=bG (H:=H.put b (.cells false e (Cell.z α) (aA (l.set i a)))) (l:=l.set i a) (b:=b) (e:=e) h.2.1 rfl (by rw[aa,if_pos rfl]) rfl;grind
def YC{H:Heap}{b e n:Nat}{ex:Bool}{d l:List α}{v:SV}(A:Own H b e n d)(hd:d.length=n)(E:Sl H v l){z:Nat}(hz:Cell.z α=z)(lo:Nat)(V:l.length<=n)(ad:lo<=b):∃q,ev1 (.copy z) [.slice b 0 n n ex,v.iv] lo H=some (.int .i64 l.length,q)/\q.n=H.n/\(∀x,x≠b->q.get x=H.get x)/\Own q b e n (l++d.drop l.length):=by subst hz hd;have F:tI (.slice b 0 d.length d.length ex)=some d.length:=rfl;have Q:=A.full;by_cases h0:l=[];{subst h0;refine⟨H,?_,rfl,λ_ _=>rfl,by simpa using A⟩;simp only[ev1,F,E.lenI];rw[if_pos (by simp)];rfl};{have O:0<l.length:=List.length_pos_iff.2 h0;have U:=ax l;have T:=ax d;have Z:(aA l).length<=(aA d).length:=by{simp_all[pT]};refine⟨H.put b (.cells false e (Cell.z α) (aA (l++d.drop l.length))),?_,af _ _ _,λx hx=>by rw[aa,if_neg (Ne.symm hx)],?_⟩;{simp only[ev1,F,E.lenI];rw[uR V,iN,E.srcI rfl];simp only[bK,Heap.write,Q];simp_all[if_pos,jr,dF,uU,kE,aQ,wC,eJ]};{have I:(l++d.drop l.length).length=d.length:=by{rw[bA,d0];omega};have:=bG (H:=H.put b (.cells false e (Cell.z α) (aA (l++d.drop l.length)))) (l:=l++d.drop l.length) (b:=b) (e:=e) A.2.1 rfl (by rw[aa,if_pos rfl]) rfl;grind}}
def dP{H:Heap}{b e cap:Nat}{ex:Bool}{l m:List α}{v:SV}(O:Own H b e cap l)(F:Sl H v m){z:Nat}(I:Cell.z α=z)(bytes lo:Nat)(T:l.length+m.length<=cap)(A:lo<=b):∃q,ev1 (.append e z bytes) [.slice b 0 l.length cap ex,v.iv] lo H=some (.slice b 0 (l.length+m.length) cap ex,q)/\q.n=H.n/\(∀b',b'≠b->q.get b'=H.get b')/\Own q b e cap (l++m):=by simp only[ev1,F.lenI,F.srcI I,bK,dA];rw[if_neg (by rw[jr];decide)];by_cases h0:m=[];{grind};{have E:0<m.length:=List.length_pos_iff.2 h0;obtain⟨cs,U,Q⟩:=O.push I T lo A;simp_all[af,aa,if_neg,Ne.symm,if_pos,aQ]}
def nV{H:Heap}{b e n:Nat}{l m:List α}{v:SV}(U:Own H b e n l)(hn:n=l.length)(I:Sl H v m){z:Nat}(V:Cell.z α=z)(bytes lo:Nat)(hm:m≠[])(Q:(l.length+m.length)*(bytes+1)<=2^40)(E:lo<=b):∃q,ev1 (.append e z bytes) [.slice b 0 l.length n false,v.iv] lo H=some (.slice H.n 0 (l.length+m.length) (l.length+m.length) false,q)/\q.n=H.n+1/\(∀b',b'≠b->b'<H.n->q.get b'=H.get b')/\Own q H.n e (l.length+m.length) (l++m):=by subst hn V;have F:0<m.length:=List.length_pos_iff.2 hm;have T:=U.full;simp only[ev1,I.lenI,I.srcI rfl,bK,dA];rw[if_neg (by rw[jr];decide)];rw[iN,iN,if_pos Q,T];simp only[mR,if_false];have A:=ax l;rw[if_pos ⟨trivial,trivial,Cell.pos,trivial,E,Om⟩];refine⟨_,rfl,by rw[ac,af],λb' O Z=>by rw[ak,if_neg (by rw[af];omega),aa,if_neg (Ne.symm O)],?_⟩;rw[<-A,uV,<-eJ,<-bA];exact bG (by rw[ac,af];omega) rfl (by rw[ak,if_pos (af _ _ _)]) rfl
def tU{H:Heap}{e:Nat}{m:List α}{v:SV}(E:Sl H v m){z:Nat}(I:Cell.z α=z)(bytes lo:Nat)(hm:m≠[])(F:m.length*(bytes+1)<=2^40):∃q,ev1 (.append e z bytes) [.nilSlice,v.iv] lo H=some (.slice H.n 0 m.length m.length false,q)/\q.n=H.n+1/\Keep H.n H q/\Own q H.n e m.length m:=by subst I;have A:0<m.length:=List.length_pos_iff.2 hm;simp only[ev1,E.lenI,E.srcI rfl,bK,dA];rw[if_neg (by rw[jr];decide)];rw[iN,if_pos F];exact⟨_,rfl,ac _ _,Keep.new _ _,bG (by rw[ac];omega) rfl (by rw[ak,if_pos rfl]) rfl⟩
def nW{H:Heap}{b o n e:Nat}{l m:List α}{v:SV}(hs:Sl H (.sl b o l.length n true) l)(F:Sl H v m){z:Nat}(O:Cell.z α=z)(bytes lo:Nat)(hm:m≠[])(hn:n<l.length+m.length)(I:(l.length+m.length)*(bytes+1)<=2^40):∃A,ev1 (.append e z bytes) [.slice b o l.length n true,v.iv] lo H=some (.slice H.n 0 (l.length+m.length) (l.length+m.length) false,A)/\A.n=H.n+1/\Keep H.n H A/\Own A H.n e (l.length+m.length) (l++m):=by subst O;have E:0<m.length:=List.length_pos_iff.2 hm;have q:=hs.srcI rfl;simp only[SV.iv] at q;simp only[ev1,F.lenI,F.srcI rfl,bK,dA];rw[if_neg (by rw[jr];decide)];rw[iN,iN,if_pos I,if_pos trivial,q];refine⟨_,rfl,ac _ _,Keep.new _ _,?_⟩;rw[<-eJ,<-bA];exact bG (by rw[ac];omega) rfl (by rw[ak,if_pos rfl]) rfl
end
section
variable {α:Type}[Cell α]
def Sl2(H:Heap)(v:SV)(ls:List (List α)):Prop:=∃vs:List SV,Sl H v vs/\vs.length=ls.length/\∀(i:Nat)(h:i<ls.length)(q:i<vs.length),Sl H vs[i] ls[i]
def Sl2.keep{H H':Heap}{v:SV}{ls:List (List α)}(h:Sl2 H v ls)(k:Keep H.n H H'):Sl2 H' v ls:=by obtain⟨vs,q,A,E⟩:=h;exact⟨vs,q.keep k,A,λi a b=>(E i a b).keep k⟩
def Sl2.ln{H:Heap}{v:SV}{ls:List (List α)}(h:Sl2 H v ls)(lo:Nat)(H':Heap):ev1 .lenSl [v.iv] lo H'=some (.int .i64 ls.length,H'):=by obtain⟨vs,q,A,E⟩:=h;rw[q.ln,A]
def Sl2.idx{H:Heap}{v:SV}{ls:List (List α)}(h:Sl2 H v ls)(z:Nat)(x:Int)(lo:Nat)(H':Heap)(h0:0<=x)(A:x<ls.length):ev1 (.idxSl z) [v.iv,.int .i64 x] lo H'=some (.ptr v.blk (v.off+x.toNat*z),H'):=by obtain⟨vs,g1,g2,q⟩:=h;exact g1.idx z x lo H' h0 Om
def Sl2.elem{H:Heap}{v:SV}{ls:List (List α)}(h:Sl2 H v ls)(i:Nat)(hi:i<ls.length):∃w:SV,H.read v.blk (v.off+i*1) 1=some [w.iv]/\Sl H w ls[i]/\v.blk<H.n:=by obtain⟨vs,g1,g2,q⟩:=h;exact⟨vs[i]'Om,g1.read (α:=SV) rfl i Om,q i hi Om,g1.blk_lt' (i:=i) Om⟩
def Sl2.nil{H:Heap}:Sl2 H .nil ([]:List (List α)):=⟨[],rfl,rfl,λi h=>by simp at h⟩
def Fresh(n0:Nat)(H:Heap)(e:Nat)(v:SV)(l:List α):Prop:=(v=.nil/\l=[])\/∃b,v=.sl b 0 l.length l.length true/\n0<=b/\Own H b e l.length l
def Fresh.sl{n0:Nat}{H:Heap}{e:Nat}{v:SV}{l:List α}(h:Fresh n0 H e v l):Sl H v l:=by rcases h with⟨rfl,rfl⟩|⟨b,rfl,A,q⟩;{exact eD};{exact q.sl true}
def Fresh.keep{n0:Nat}{H H':Heap}{e:Nat}{v:SV}{l:List α}(h:Fresh n0 H e v l)(k:Keep H.n H H'):Fresh n0 H' e v l:=by rcases h with⟨rfl,rfl⟩|⟨b,rfl,q,A⟩;{exact .inl ⟨rfl,rfl⟩};{exact .inr ⟨b,rfl,q,A.keep k⟩}
end
def Sl.cellsAt{α:Type}[Cell α]{H:Heap}{v:SV}{l:List α}(h:Sl H v l)(F:l≠[]):∃A e ez cs,H.get v.blk=some (.cells A e ez cs):=by cases v with|nil=>exact absurd h F|sl b o n c ex=>have q:=(h.2.2 F).2;unfold Heap.read at q;show ∃A e ez cs,H.get b=_;cases E:H.get b with|none=>rw[E] at q;cases q|some ob=>rw[E] at q;cases ob with|cells A e ez cs=>exact⟨_,_,_,_,rfl⟩|_=>cases q
def Sl.off{α:Type}[Cell α]{H:Heap}{v:SV}{l:List α}(h:Sl H v l)(A:l≠[]){x:Nat}{ob:IObj}(hx:H.get x=some ob)(E:∀q e ez cs,ob≠.cells q e ez cs):v.blk≠x:=by intro e;obtain⟨q,a,b,c,F⟩:=h.cellsAt A;grind
def bC{α:Type}:List (List α)->Nat|[]=>0|a::l=>if bC l=0/\a=[] then 0 else bC l+1
theorem ku{α:Type}:∀l:List (List α),bC l<=l.length|[]=>ao _|a::l=>by have:=ku l;grind[bC,List.length_cons]
def jj{α:Type}:∀(l:List (List α))(i:Nat)(h:i<l.length),bC l<=i->l[i]=[]|[],_,h,_=>by simp at h|a::l,0,h,k=>by grind[bC]|a::l,i+1,h,k=>by have:bC l<=i:=by{grind[bC]};exact jj l i (by simpa using h) this
theorem qH{α:Type}:∀(l:List (List α))(n:Nat)(h:n<l.length),bC l=n+1->l[n]≠[]|[],_,h,_=>by simp at h|a::l,n,h,k=>by unfold bC at k;split at k;{omega};{rename_i hn;cases n with|zero=>simp only[List.getElem_cons_zero];exactλe=>hn ⟨Om,e⟩|succ n=>exact qH l n (by simpa using h) Om}
def uK{α:Type}{l:List (List α)}{n:Nat}(hn:n<=l.length)(q:∀i (h:i<l.length),n<=i->l[i]=[])(A:∀m (h:m<l.length),n=m+1->l[m]≠[]):n=bC l:=by rcases AQ n (bC l) with h|h|h;{exfalso;have E:=ku l;exact qH l (bC l - 1) Om Om (q _ Om Om)};{exact h};{exfalso;exact A (n - 1) Om Om (jj l _ Om Om)}
section
variable {α:Type}
def mm(f:Nat->α)(a b n x:Nat):α:=if a<=x/\x<a+n then f (x+b - a) else if b<=x/\x<b+n then f (x+a - b) else f x
def tg(f:Nat->α)(a m b x:Nat):α:=if a<=x/\x<a+(b - m) then f (x+(m - a)) else if a+(b - m)<=x/\x<b then f (x - (b - m)) else f x
def Py(f:Nat->α)(a b x:Nat):mm f a b 0 x=f x:=by simp_all[mm,if_neg]
def Pz{f g:Nat->α}{a b n:Nat}(q:a+n<b)(A:∀x,g x=if x=b+n then mm f a b n (a+n) else if x=a+n then mm f a b n (b+n) else mm f a b n x)(x:Nat):g x=mm f a b (n+1) x:=by rw[A];unfold mm;grind
theorem WH{f g:Nat->α}{m i j:Nat}(hi:i<=m)(I:0<j)(F:j<i)(A:∀x,g x=mm f (m - i) m j x)(x:Nat):tg g (m - (i - j)) m (m+j) x=tg f (m - i) m (m+j) x:=by unfold tg;by_cases E:m - (i - j)<=x/\x<m - (i - j)+(m+j - m);{rw[if_pos E,A];unfold mm;by_cases q:m<=x+(m - (m - (i - j)))<;>grind};{rw[if_neg E];by_cases q:m - (i - j)+(m+j - m)<=x/\x<m+j;{rw[if_pos q,A];unfold mm;grind};{rw[if_neg q,A];unfold mm;grind}}
theorem Te{f g:Nat->α}{m i j:Nat}(hi:i<=m)(F:0<i)(I:i<j)(q:∀x,g x=mm f (m - i) (m+j - i) i x)(x:Nat):tg g (m - i) m (m+(j - i)) x=tg f (m - i) m (m+j) x:=by unfold tg;by_cases A:m - i<=x/\x<m - i+(m+(j - i) - m);{rw[if_pos A,q,iP];unfold mm;grind};{rw[if_neg A];by_cases E:m - i+(m+(j - i) - m)<=x/\x<m+(j - i);{rw[if_pos E,q];unfold mm;grind};{rw[if_neg E,q];unfold mm;grind}}
def WG{f g:Nat->α}{m i:Nat}(hi:i<=m)(q:∀x,g x=mm f (m - i) m i x)(x:Nat):g x=tg f (m - i) m (m+i) x:=by rw[q];unfold mm tg;grind
def Mt(f:Nat->α){a m b:Nat}(q:a<=m)(A:m<=b)(h:a=m\/m=b)(x:Nat):tg f a m b x=f x:=by unfold tg;grind
end
section
variable {α:Type}[Inhabited α]
def aX(l:List α)(x:Nat):α:=l.getD x default
theorem oe{l:List α}{x:Nat}(h:x<l.length):aX l x=l[x]:=by unfold aX;grind
def mj(l:List α)(i j:Nat):List α:=(l.set i (aX l j)).set j (aX l i)
def oM(l:List α)(i j:Nat):(mj l i j).length=l.length:=by simp[mj]
def Px{l:List α}{i j:Nat}(hi:i<l.length)(q:j<l.length):(mj l i j).Perm l:=by grind[mj,oe,List.set_set_perm]
theorem mv{l:List α}{i j:Nat}(hi:i<l.length)(E:j<l.length)(x:Nat):aX (mj l i j) x=if x=j then aX l i else if x=i then aX l j else aX l x:=by unfold mj;by_cases q:x=j;{subst q;rw[if_pos rfl,oe (by simpa using E)];simp};{rw[if_neg q];by_cases A:x=i;{subst A;rw[if_pos rfl,oe (by simpa using hi)];rw[kI (Ne.symm q),mS]};simp_all[if_neg,aX,cz,List.getElem?_set_ne,Ne.symm]}
structure Mix(a b:Nat)(l l':List α):Prop where
 len:l'.length=l.length
 perm:l'.Perm l
 out:∀x,(x < a∨b≤x)→aX l' x=aX l x
 img:∀x,a≤x→x < b→∃y,a≤y∧y < b∧aX l' x=aX l y
theorem Mix.refl(a b:Nat)(l:List α):Mix a b l l:=⟨rfl,.refl _,λ_ _=>rfl,λx q A=>⟨x,q,A,rfl⟩⟩
def Mix.trans{a b:Nat}{l m n:List α}(h:Mix a b l m)(k:Mix a b m n):Mix a b l n:=by refine⟨k.len.trans h.len,k.perm.trans h.perm,λx hx=>(k.out x hx).trans (h.out x hx),λx q A=>?_⟩;obtain⟨y,E,F,I⟩:=k.img x q A;obtain⟨z,O,Q,T⟩:=h.img y E F;grind
def Mix.wide{a b c d:Nat}{l m:List α}(h:Mix a b l m)(E:c<=a)(hd:b<=d):Mix c d l m:=by refine⟨h.len,h.perm,λx hx=>h.out x Om,λx q A=>?_⟩;by_cases hx:a<=x/\x<b;{obtain⟨y,F,I,O⟩:=h.img x hx.1 hx.2;grind};{exact⟨x,q,A,h.out x Om⟩}
def Mix.swap{a b i j:Nat}{l:List α}(E:b<=l.length)(hi:a<=i/\i<b)(F:a<=j/\j<b):Mix a b l (mj l i j):=by have q:i<l.length:=Om;have A:j<l.length:=Om;refine⟨oM _ _ _,Px q A,λx hx=>?_,λx I O=>?_⟩;{rw[mv q A,iN,iN]};{rw[mv q A];grind}
variable (lt:α->α->Prop)
def Srt(l:List α)(a b:Nat):Prop:=∀i j,a<=i->i<j->j<b->lt (aX l i) (aX l j)
def Srt.part{lt:α->α->Prop}{l:List α}{a b c d:Nat}(h:Srt lt l a b)(F:a<=c)(hd:d<=b):Srt lt l c d:=λi j A q E=>h i j Om q Om
def Srt.out{lt:α->α->Prop}{l q:List α}{a b c d:Nat}(h:Srt lt l a b)(k:Mix c d l q)(hd:b<=c\/d<=a):Srt lt q a b:=λi j A E F=>by rw[k.out i Om,k.out j Om];exact h i j A E F
def Y9{lt:α->α->Prop}{l l1 l2:List α}{a m b:Nat}(F:Mix a m l l1)(A:Mix m b l1 l2)(I:Srt lt l1 a m)(O:Srt lt l2 m b)(Q:∀x y,a<=x->x<m->m<=y->y<b->lt (aX l x) (aX l y)):Srt lt l2 a b:=by intro i j hi q E;by_cases c1:j<m;{rw[A.out i Om,A.out j Om];exact I i j hi q c1};{by_cases c2:m<=i;{exact O i j c2 q E};{rw[A.out i Om];obtain⟨x,T,U,V⟩:=F.img i hi Om;obtain⟨y,Z,y2,y3⟩:=A.img j Om E;rw[V,y3,F.out y Om];exact Q x y T U Z y2}}
def ZU{lt ord:α->α->Prop}{l l1:List α}{a m b mid start q:Nat}(h1:a<=start)(h2:start<=mid)(h3:start<=m)(h4:mid<=q)(h5:m<=q)(h6:q<=b)(he:start+q=mid+m)(sL:Srt lt l a m)(sR:Srt lt l m b)(F:∀i j,a<=i->i<m->m<=j->j<b->ord (aX l i) (aX l j))(pA:∀i j,a<=i->i<start->q<=j->j<b->lt (aX l i) (aX l j))(pB:∀i j,m<=i->i<q->start<=j->j<m->lt (aX l i) (aX l j))(V:∀x,aX l1 x=tg (aX l) start m q x):(Srt lt l1 a start/\Srt lt l1 start mid/\Srt lt l1 mid q/\Srt lt l1 q b)/\(∀i j,a<=i->i<start->start<=j->j<mid->ord (aX l1 i) (aX l1 j))/\(∀i j,mid<=i->i<q->q<=j->j<b->ord (aX l1 i) (aX l1 j))/\ ∀x y,a<=x->x<mid->mid<=y->y<b->lt (aX l1 x) (aX l1 y):=by have Q:∀x,x<start->aX l1 x=aX l x:=λx hx=>by{rw[V];unfold tg;grind};have T:∀x,start<=x->x<mid->aX l1 x=aX l (x+(m - start)):=λx hx Z=>by{rw[V];unfold tg;rw[iP]};have I:∀x,mid<=x->x<q->aX l1 x=aX l (x - (q - m)):=λx hx Z=>by{rw[V];unfold tg;grind};have U:∀x,q<=x->aX l1 x=aX l x:=λx hx=>by{rw[V];unfold tg;grind};refine⟨⟨λi j q1 E A=>?_,λi j q1 E A=>?_,λi j q1 E A=>?_,λi j q1 E A=>?_⟩,λi j q1 E A O=>?_,λi j q1 E A O=>?_,λx y q1 E A O=>?_⟩;{rw[Q i Om,Q j A];exact sL i j q1 E Om};{rw[T i q1 Om,T j Om A];exact sR _ _ Om Om Om};{rw[I i q1 Om,I j Om A];exact sL _ _ Om Om Om};{rw[U i q1,U j Om];exact sR _ _ Om E A};{rw[Q i E,T j A O];exact F _ _ q1 Om Om Om};{rw[I i q1 E,U j A];exact F _ _ Om Om Om O};{by_cases c1:x<start;{rw[Q x c1];by_cases c2:y<q;{rw[I y A c2];exact sL _ _ q1 Om Om};grind};{rw[T x Om E];by_cases c2:y<q;{rw[I y A c2];exact pB _ _ Om Om Om Om};{rw[U y Om];exact sR _ _ Om Om O}}}
def LF{lt:α->α->Prop}{l:List α}(h:Srt lt l 0 l.length):l.Pairwise lt:=by rw[HZ];intro i j hi A q;have:=h i j (dJ _) q A;grind[oe]
def oz{lt:α->α->Prop}{l:List α}(h:l.Pairwise lt)(a b:Nat)(F:b<=l.length):Srt lt l a b:=by rw[HZ] at h;intro i j q A E;grind[oe]
end
theorem BE{α:Type}{lt:α->α->Prop}(q:∀a,¬lt a a)(I:∀a b c,lt a b->lt b c->lt a c):∀{l m:List α},l.Pairwise lt->m.Pairwise lt->(∀x,x∈l↔x∈m)->l=m|[],[],_,_,_=>rfl|[],b::m,_,_,h=>absurd ((h b).2 (by simp)) (by simp)|a::l,[],_,_,h=>absurd ((h a).1 (by simp)) (by simp)|a::l,b::m,F,hm,h=>by rw[List.pairwise_cons] at F hm;have E:a=b:=by{rcases List.mem_cons.1 ((h a).1 (by simp)) with e|e;{exact e};{rcases List.mem_cons.1 ((h b).2 (by simp)) with A|A;{exact A.symm};{exact absurd (I _ _ _ (F.1 b A) (hm.1 a e)) (q a)}}};subst E;congr 1;refine BE q I F.2 hm.2 λx=>⟨λhx=>?_,λhx=>?_⟩<;>grind
def Ij{f:Fp}:bi .none f=true:=by cases f<;>rfl
def Ii{f:Fp}:bi f .none=true:=by cases f<;>rfl
def Tw{b o n b' o' q:Nat}:bi (.rd b o n) (.rd b' o' q)=true:=rfl
def Tv{b o n b' o' q:Nat}:bi (.rd b o n) (.wr b' o' q)=nm b o n b' o' q:=rfl
def Tu{b o n b' o' q:Nat}:bi (.wr b o n) (.rd b' o' q)=nm b o n b' o' q:=rfl
def Tt{b o n b' o' q:Nat}:bi (.wr b o n) (.wr b' o' q)=nm b o n b' o' q:=rfl
def Tz{b o n b':Nat}:bi (.rd b o n) (.wb b')=decide (b'≠b):=rfl
def TB{b o n b':Nat}:bi (.wb b') (.rd b o n)=decide (b'≠b):=rfl
def P8{b o n b':Nat}:bi (.wr b o n) (.wb b')=decide (b'≠b):=rfl
def TA{b o n b':Nat}:bi (.wb b') (.wr b o n)=decide (b'≠b):=rfl
def TD{b b':Nat}:bi (.wb b) (.wb b')=decide (b≠b'):=rfl
def bh{q:dV}{o:IOp}{xs:List IV}(h:iZ o xs=some .none):bO (some q) o xs=some (some ((o.idx,.none)::q)):=by simp_all[bO,ss,if_pos,xx,Ii]
section
variable {fc:dV}{dst:Option Nat}{args:List IA}{g:Option (Nat×Bool)}{amb:Bool}{idx mask:Nat}{xs:List IV}
def Qi{o:IOp}:bO none o xs=some none:=rfl
def MX:bO (some fc) ⟨dst,.move,args,g,amb,idx,mask⟩ xs=some (some ((idx,.none)::fc)):=bh rfl
def Qj{op:BinOp}:bO (some fc) ⟨dst,.bin op,args,g,amb,idx,mask⟩ xs=some (some ((idx,.none)::fc)):=bh rfl
def TK{op:UnOp}:bO (some fc) ⟨dst,.un op,args,g,amb,idx,mask⟩ xs=some (some ((idx,.none)::fc)):=bh rfl
def MZ{k:IntKind}:bO (some fc) ⟨dst,.conv k,args,g,amb,idx,mask⟩ xs=some (some ((idx,.none)::fc)):=bh rfl
def KK{z:Nat}:bO (some fc) ⟨dst,.idxSl z,args,g,amb,idx,mask⟩ xs=some (some ((idx,.none)::fc)):=bh rfl
def A7{z:Nat}:bO (some fc) ⟨dst,.fieldAddr z,args,g,amb,idx,mask⟩ xs=some (some ((idx,.none)::fc)):=bh rfl
def KL{z:Nat}{n:Option Nat}:bO (some fc) ⟨dst,.field z n,args,g,amb,idx,mask⟩ xs=some (some ((idx,.none)::fc)):=bh rfl
def KJ:bO (some fc) ⟨dst,.lenSl,args,g,amb,idx,mask⟩ xs=some (some ((idx,.none)::fc)):=bh rfl
def MW:bO (some fc) ⟨dst,.pick,args,g,amb,idx,mask⟩ xs=some (some ((idx,.none)::fc)):=bh rfl
def zo{l z:Nat}:bO (some fc) ⟨dst,.idxArrAddr l z,args,g,amb,idx,mask⟩ xs=some (some ((idx,.none)::fc)):=bh rfl
end
def aiJ(m k:Nat):Nat.testBit m k=decide (m / 2^k%2=1):=Nat.testBit_eq_decide_div_mod_eq
section
variable {α:Type}[Cell α]
def Gr(n0:Nat)(H:Heap)(e:Nat)(v:SV)(l:List α):Prop:=(v=.nil/\l=[])\/∃b,v=.sl b 0 l.length l.length false/\n0<=b/\l≠[]/\Own H b e l.length l
def Gr.nil{n0:Nat}{H:Heap}{e:Nat}:Gr n0 H e .nil ([]:List α):=.inl ⟨rfl,rfl⟩
def Gr.sl{n0:Nat}{H:Heap}{e:Nat}{v:SV}{l:List α}(h:Gr n0 H e v l):Sl H v l:=by rcases h with⟨rfl,rfl⟩|⟨b,rfl,_,_,q⟩;{exact eD};{exact q.sl false}
def Gr.blk{n0:Nat}{H:Heap}{e:Nat}{v:SV}{l:List α}(h:Gr n0 H e v l)(A:l≠[]):H.get v.blk=some (.cells false e (Cell.z α) (aA l)):=by rcases h with⟨_,rfl⟩|⟨b,rfl,_,_,q⟩;{exact absurd rfl A};{exact q.full}
def Gr.lower{n0 n1:Nat}{H:Heap}{e:Nat}{v:SV}{l:List α}(h:Gr n0 H e v l)(hn:n1<=n0):Gr n1 H e v l:=by rcases h with h|⟨b,q,F,A,E⟩;{exact .inl h};{exact .inr ⟨b,q,Om,A,E⟩}
def Gr.keep{n0:Nat}{H H':Heap}{e:Nat}{v:SV}{l:List α}(h:Gr n0 H e v l)(k:Keep H.n H H'):Gr n0 H' e v l:=by rcases h with h|⟨b,q,A,E,F⟩;{exact .inl h};{exact .inr ⟨b,q,A,E,F.keep k⟩}
def KeepG(n0 e z:Nat)(H H':Heap):Prop:=H.n<=H'.n/\∀x,x<H.n->(x<n0\/∀cs,H.get x≠some (.cells false e z cs))->H'.get x=H.get x
def KeepG.refl(n0 e z:Nat)(H:Heap):KeepG n0 e z H H:=⟨ao _,λ_ _ _=>rfl⟩
def KeepG.trans{n0 e z:Nat}{a b c:Heap}(h:KeepG n0 e z a b)(k:KeepG n0 e z b c):KeepG n0 e z a c:=by refine⟨de h.1 k.1,λx A E=>?_⟩;have q:=h.2 x A E;rw[<-q];exact k.2 x (cu A h.1) (by rw[q];exact E)
def KeepG.of{n0 e z:Nat}{H H':Heap}(k:Keep H.n H H'):KeepG n0 e z H H':=⟨k.1,λx h _=>k.2 x h h⟩
def KeepG.low{n0 e z:Nat}{H H':Heap}(k:KeepG n0 e z H H')(hn:n0<=H.n):Keep n0 H H':=⟨k.1,λx q A=>k.2 x A (.inl q)⟩
def KeepG.get{n0 e z x:Nat}{H H':Heap}{ob:IObj}(k:KeepG n0 e z H H')(hx:x<H.n)(A:H.get x=some ob)(q:∀cs,ob≠.cells false e z cs):H'.get x=some ob:=by rw[k.2 x hx (.inr λcs h=>q cs (by grind))];exact A
def Own.keepG{n0 e q z b cap:Nat}{H H':Heap}{l:List α}(h:Own H b e cap l)(k:KeepG n0 q z H H')(O:e≠q):Own H' b e cap l:=by obtain⟨E,A,r,F,I⟩:=h;refine Own.same ⟨E,A,r,F,I⟩ k.1 (k.2 b A (.inr λcs Q=>?_));grind
def OwnS(n0:Nat)(H:Heap)(e:Nat)(v:SV)(l:List α):Prop:=(v=.nil/\l=[])\/∃b cap ex,v=.sl b 0 l.length cap ex/\n0<=b/\Own H b e cap l
def OwnS.sl{n0:Nat}{H:Heap}{e:Nat}{v:SV}{l:List α}(h:OwnS n0 H e v l):Sl H v l:=by rcases h with⟨rfl,rfl⟩|⟨b,cap,ex,rfl,_,h⟩;{exact eD};{exact h.sl ex}
def OwnS.keep{n0:Nat}{H H':Heap}{e:Nat}{v:SV}{l:List α}(h:OwnS n0 H e v l)(k:Keep H.n H H'):OwnS n0 H' e v l:=by rcases h with h|⟨b,cap,ex,q,A,E⟩;{exact .inl h};{exact .inr ⟨b,cap,ex,q,A,E.keep k⟩}
def OwnS.keepG{n0 n1 e A z:Nat}{H H':Heap}{v:SV}{l:List α}(h:OwnS n0 H e v l)(k:KeepG n1 A z H H')(q:e≠A):OwnS n0 H' e v l:=by rcases h with h|⟨b,cap,ex,E,F,I⟩;{exact .inl h};{exact .inr ⟨b,cap,ex,E,F,I.keepG k q⟩}
def Fresh.own{n0:Nat}{H:Heap}{e:Nat}{v:SV}{l:List α}(h:Fresh n0 H e v l):OwnS n0 H e v l:=by rcases h with h|⟨b,q,A,E⟩;{exact .inl h};{exact .inr ⟨b,l.length,true,q,A,E⟩}
def Gr.own{n0:Nat}{H:Heap}{e:Nat}{v:SV}{l:List α}(h:Gr n0 H e v l):OwnS n0 H e v l:=by rcases h with h|⟨b,q,A,_,E⟩;{exact .inl h};{exact .inr ⟨b,l.length,false,q,A,E⟩}
def Gr.push{n0:Nat}{H:Heap}{e:Nat}{v:SV}{l:List α}(h:Gr n0 H e v l){a:α}{u:SV}(U:Sl H u [a]){z:Nat}(I:Cell.z α=z)(bytes lo:Nat)(ad:lo<=n0)(hn:n0<=H.n)(T:(l.length+1)*(bytes+1)<=2^40):∃q w,ev1 (.append e z bytes) [v.iv,u.iv] lo H=some (SV.iv w,q)/\KeepG n0 e z H q/\Gr n0 q e w (l++[a]):=by rcases h with⟨rfl,rfl⟩|⟨b,rfl,h2,h3,Q⟩;{obtain⟨q,E,V,F,O⟩:=tU (e:=e) U I bytes lo (by simp) (by simpa using T);exact⟨q,.sl H.n 0 1 1 false,E,KeepG.of F,.inr ⟨H.n,rfl,hn,by simp,O⟩⟩};{obtain⟨q,E,V,F,O⟩:=nV (n:=l.length) Q rfl U I bytes lo (by simp) (by simpa using T) Om;refine⟨q,.sl H.n 0 (l.length+1) (l.length+1) false,E,⟨Om,λx Z A=>F x ?_ Z⟩,.inr ⟨H.n,by simp,hn,by simp,by grind⟩⟩;rintro rfl;rcases A with A|A;{omega};{exact A _ (by rw[Q.full,I])}}
def qN{H:Heap}{e z:Nat}(q:Cell.z α=z)(a:α):Own (H.new (.cells false e z (Cell.cs a))) H.n e 1 [a]:=by have:=bG (H:=H.new (.cells false e z (Cell.cs a))) (b:=H.n) (e:=e) (l:=[a]) (by rw[ac];omega) q (by rw[ak,if_pos rfl]) (NO a).symm;exact this
def Gr.pushNew{n0:Nat}{H:Heap}{e:Nat}{v:SV}{l:List α}(h:Gr n0 H e v l)(a:α){z:Nat}(E:Cell.z α=z)(bytes lo:Nat)(A:lo<=n0)(hn:n0<=H.n)(I:(l.length+1)*(bytes+1)<=2^40):∃q w,ev1 (.append e z bytes) [v.iv,.slice H.n 0 1 1 true] lo (H.new (.cells false e z (Cell.cs a)))=some (SV.iv w,q)/\KeepG n0 e z H q/\Gr n0 q e w (l++[a]):=by obtain⟨q,w,F,O,g1⟩:=(h.keep (.new _ (.cells false e z (Cell.cs a)))).push (a:=a) ((qN E a).sl true) E bytes lo A (by rw[ac];omega) I;exact⟨q,w,F,(KeepG.of (.new _ _)).trans O,g1⟩
end
def He{α:Type}(f:Nat->List α)(n:Nat):(List.range (n+1)).flatMap f=(List.range n).flatMap f++f n:=by rw[List.range_succ,Ky];simp
end Go.Iso
section
namespace Go.Iso
def VQ:kh []=.tuple []:=rfl
def VP{v:IV}:kh [v]=v:=rfl
def VO{v w:IV}{l:List IV}:kh (v::w::l)=.tuple (v::w::l):=rfl
def BAS:=aq @aev (aq @ahz (aq @aey (aq @mV (aq @abA (aq @acu (aq @aez (aq @OO (aq @Q9 (aq @aa3 (aq @aa4 (aq @ahA (aq @akC (aq @XX (aq @XY (aq @ahq (aq @ahr (aq @ahp (aq @ahs (aq @aer (aq @agU (aq @ac8 (aq @aau (aq @eq_self.{1} (aq @Nat.left_eq_add (aq @Nat.add_eq_left (aq @Nat.add_left_cancel_iff (aq @Nat.add_assoc (aq @UK (aq @SD (aq @SC (aq @ZK (aq @ZJ (aq @adw (aq @adx (aq @ags (aq @List.getD_cons_zero.{0} (aq @List.getD_cons_succ.{0} (aq @ZS (aq @ZT (aq @ac9 (aq @aen (aq @aem (aq @aeo (aq @abo (aq @abp (aq @acV (aq @abB (aq @if_true.{1} (aq @if_false.{1} (aq @Option.map_some.{0,0} (aq @Option.map_none.{0,0} (aq @Option.bind_some.{0,0} (aq @Option.bind_none.{0,0} (aq @List.nil_append.{0} (aq @List.append_nil.{0} (aq @List.cons_append.{0} (aq @List.length_cons.{0} (aq @List.length_nil.{0} (aq @Nat.zero_add (aq @adq (aq @adr (aq @Xz (aq @ZL (aq @beq_self_eq_true.{0} (aq @Bool.false_eq_true (aq @Bool.not_true (aq @Bool.not_false (aq @Option.getD_some.{0} (aq @Option.getD_none.{0} (aq @Q4 (aq @Q3 (aq @OB (aq @Q0 (aq @Q1 (aq @Hj (aq @Lz (aq @Cx (aq @Q2 (aq @Hk (aq @UC (aq @Lx (aq @GG (aq @LA (aq @Cy (aq @ak (aq @ac (aq @aa (aq @af (aq @List.drop_succ_cons.{0} (aq @List.drop_zero.{0} (aq @List.take_succ_cons.{0} (aq @List.take_zero.{0} (aq @Nat.add_zero (aq @Nat.le_refl (aq @Option.some.injEq.{0} (aq @and_true (aq @true_and (aq @and_false (aq @false_and (aq @BEq.rfl.{0} (aq @zm (aq @wx (aq @Xb (aq @Xc (aq @MP (aq @Qd (aq @G4 (aq @Xd (aq @MR (aq @aaw (aq @Qc (aq @KG (aq @Qe (aq @G5 (aq @List.all_cons.{0} (aq @List.all_nil.{0} (aq @Bool.and_self (aq @Bool.and_true (aq @Bool.true_and (aq @Nat.le_add_right (aq @Nat.add_sub_cancel (aq @bne_self_eq_false.{0} (aq @Bool.false_bne (aq @Bool.bne_false (aq @Bool.or_true (aq @Bool.true_or (aq @Int.toNat_natCast (aq @Option.isSome_some.{0} (aq @aex (aq @adn (aq @adm (aq @Ah (aq @UX (aq @WS (aq @WR (aq @ZP (aq @ZN (aq @ZO (aq @aas (aq @aar (aq @ne_eq.{1} (aq @not_false_eq_true (aq @ajJ (aq @ajI (aq @cLe (aq @ajH (aq @cLt (aq @ajG (aq @iLe (aq @ajd (aq @iLt (aq @ajc (aq @iGe (aq @ajf (aq @iGt (aq @aje (aq @ajh (aq @agS (aq @ajg (aq @agR (aq @acU (aq @wU8 (aq @decide_true (aq @decide_false (aq @WU (aq @WT (aq @aan (aq @OS (aq @np (aq @Ja (aq @mM (aq @jt (aq @i5 (aq @pc (aq @Nat.zero_mul (aq @Bool.true_eq_false (aq @Bool.false_or (aq @Bool.or_false (aq @Bool.false_and (aq @Bool.and_false (aq @not_true_eq_false (aq @Nat.sub_zero (aq @List.getElem?_cons_zero.{0} (aq @List.getElem?_cons_succ.{0} (aq @cJ.eq_1 (aq @cJ.eq_2 (aq @IA.eval.eq_1 (aq @IA.eval.eq_2 (aq @IA.eval.eq_3 (aq @Fr.put.eq_1 (aq @Fr.put.eq_2 (aq @dZ.eq_1 (aq @dZ.eq_2 (aq @dc.eq_1 (aq @dc.eq_2 (aq @aY.eq_1 (aq @aY.eq_2 (aq @rX.eq_1 (aq @rX.eq_2 (aq @ah.eq_1 (aq @ah.eq_2 (aq @List.set.eq_1.{0} (aq @List.set.eq_2.{0} (aq @List.set.eq_3.{0} (aq @List.drop.eq_1.{0} (aq @List.drop.eq_2.{0} (aq @List.drop.eq_3.{0} (aq @List.take.eq_1.{0} (aq @List.take.eq_2.{0} (aq @List.take.eq_3.{0} (aq @List.append.eq_1.{0} (aq @List.append.eq_2.{0} (aq @aD.eq_1 (aq @aD.eq_2 (aq @aD.eq_3 (aq @aD.eq_4 (aq @jc.eq_1 (aq @jc.eq_2 (aq @bO.eq_1 (aq @bO.eq_2 (aq @VQ (aq @VP (aq @VO (aq @Ij (aq @Ii (aq @Tw (aq @Tv (aq @Tu (aq @Tt (aq @Tz (aq @TB (aq @P8 (aq @TA (aq @TD (@aiJ)))))))))))))))))))))))))))))))))))))))))))))))))))))))))))))))))))))))))))))))))))))))))))))))))))))))))))))))))))))))))))))))))))))))))))))))))))))))))))))))))))))))))))))))))))))))))))))))))))))))))))))))))))))))))))))))))))))))))))
def ai:=aq @Qi (aq @MX (aq @Qj (aq @TK (aq @MZ (aq @KK (aq @A7 (aq @KL (aq @KJ (aq @MW (@zo))))))))))
end Go.Iso
end
namespace Go.Iso
def ahu{b o n b' o' q:Nat}(h:b<b'):nm b o n b' o' q=true:=by grind[nm]
def ahv{b o n b' o' q:Nat}(h:b'<b):nm b o n b' o' q=true:=by grind[nm]
def ai4:Fp->Bool|.none|.rd _ _ _=>true|_=>false
def vc:dV->Bool|[]=>true|p::q=>ai4 p.2&&vc q
def TI:vc []=true:=rfl
def Qf{i:Nat}{q:dV}:vc ((i,.none)::q)=vc q:=rfl
def Xk{i b o n:Nat}{q:dV}:vc ((i,.rd b o n)::q)=vc q:=rfl
def Xj{i b o n:Nat}{q:dV}:vc ((i,.wr b o n)::q)=false:=rfl
def Is{b o n mask:Nat}:∀{q:dV},vc q=true->(q.all λp=>mask.testBit p.1||bi p.2 (.rd b o n))=true|[],_=>rfl|(i,f)::q,h=>by simp only[vc,bV] at h;rw[rZ,Is h.2,xt];cases f with|none=>simp[bi]|rd=>simp[bi]|_=>cases h.1
section
variable {fc:dV}{dst:Option Nat}{args:List IA}{g:Option (Nat×Bool)}{amb:Bool}{idx mask:Nat}{xs:List IV}
def M7:bO (some fc) ⟨dst,.call,args,g,amb,idx,mask⟩ xs=some (some ((idx,.none)::fc)):=bh rfl
def KN{e z:Nat}{zs:List IV}:bO (some fc) ⟨dst,.alloc e z zs,args,g,amb,idx,mask⟩ xs=some (some ((idx,.none)::fc)):=bh rfl
def KM{zs:List IV}{os:List (Nat×Nat)}:bO (some fc) ⟨dst,.build zs os,args,g,amb,idx,mask⟩ xs=some (some ((idx,.none)::fc)):=bh rfl
def Fv{e z n:Nat}{zs:List IV}{os:List (Nat×Nat)}:bO (some fc) ⟨dst,.buildSl e z n zs os,args,g,amb,idx,mask⟩ xs=some (some ((idx,.none)::fc)):=bh rfl
def MY{n:Option Nat}{b a:Nat}:bO (some fc) ⟨dst,.load n,args,g,amb,idx,mask⟩ [.ptr b a]=if vc fc=true then some (some ((idx,.rd b a (n.getD 1))::fc)) else(ss fc ⟨dst,.load n,args,g,amb,idx,mask⟩ [.ptr b a]).map some:=by simp_all[bO,ss,iZ,if_pos,Is]
end
def FR:=aq @M7 (aq @KN (aq @KM (aq @Fv @MY)))
def FW:=aq @TI (aq @Qf (aq @Xk (aq @Xj (aq @ahu @ahv))))
end Go.Iso
section
namespace Go.Iso
def J1{a b:Prop}(h:a)(k:b):a/\b:=⟨h,k⟩
def GV:=J1 @BAS (J1 @iZ.eq_def (J1 @ss.eq_def (J1 @opW.eq_def (J1 @vK.eq_def (J1 @ev1.eq_def (J1 @jf.eq_def (J1 @unI.eq_def (J1 @mP.eq_def (J1 @QH.eq_def @cU.eq_def)))))))))
def aj:=J1 GV @Heap.write.eq_def
def gY:=J1 aj FW
def jn:=J1 ai FR
def au{H0 H1:Heap}(q:H0=H1)(x:Nat){v:Option IObj}(h:H0.get x=v:=by simp(disch:=omega)only[aj,↓ai,seval];rfl):H1.get x=v:=q▸h
def aI{n:Nat}{H H0 H1:Heap}(q:H0=H1)(a:H.n<=H1.n:=by omega)(h:∀x,x<n->x<H.n->H0.get x=H.get x:=by intros;simp(disch:=omega)only[aj,↓ai,seval]):Keep n H H1:=⟨a,q▸h⟩
end Go.Iso
end
namespace Go.Iso
def pM:∀(c:List IV)(o:Nat)(x:IV),o<c.length->aD c o [x]=c.set o x|[],_,_,h=>by simp at h|a::c,0,x,_=>by show x::aD c 0 []=_;cases c<;>rfl|a::c,o+1,x,h=>by show a::aD c o [x]=_;rw[pM c o x (by simpa using h)];rfl
section
variable {α:Type}[Cell α]
def iU(l:List α)(i:Nat)(h:i<l.length):aA l=aA (l.take i)++(Cell.cs l[i]++aA (l.drop (i+1))):=by grind[bP,eJ,List.drop_eq_getElem_cons,List.take_append_drop]
def Ug(l:List α)(i f:Nat)(h:i<l.length)(E:f<Cell.z α)(x:IV)(a:α)(A:Cell.cs a=(Cell.cs l[i]).set f x):(aA l).set (i*Cell.z α+f) x=aA (l.set i a):=by have F:(aA (l.take i)).length=i*Cell.z α:=by{rw[ax,bJ,uR Om]};have q:=iU (l.set i a) i (by rw[bp];exact h);rw[iU l i h,PZ _ _ Om,F,BQ,List.set_append_left _ _ (by rw[Cell.len];exact E),<-A,q,mS,List.take_set,List.drop_set];rw[iP,List.set_eq_of_length_le (by rw[bJ];omega)]
def Own.cell{H:Heap}{b e cap:Nat}{l:List α}(h:Own H b e cap l){z:Nat}(T:Cell.z α=z)(i f:Nat)(hi:i<l.length)(I:f<z)(x:IV)(hx:IV.one x=true)(a:α)(F:Cell.cs a=(Cell.cs l[i]).set f x)(lo:Nat)(Q:lo<=b):∃o,H.write lo b (i*z+f) [x]=some (H.put b o)/\Own (H.put b o) b e cap (l.set i a):=by subst T;obtain⟨q,A,r,U,E⟩:=h;have O:=ax l;have V:i*Cell.z α+Cell.z α<=l.length*Cell.z α:=by{rw[<-fP];exact pT _ hi};refine⟨.cells false e (Cell.z α) (aD (aA l++r) (i*Cell.z α+f) [x]),?_,?_⟩;{unfold Heap.write;grind};{refine⟨by simp[q],A,r,?_,by simp[E]⟩;rw[aa,if_pos rfl,pM _ _ _ (by grind),List.set_append_left _ _ Om,Ug l i f hi I x a F]}
end
section
variable {α:Type}[Cell α]
end
def slO(z:Nat)(H:Heap)(v:SV):Prop:=∀b o n c ex,v=.sl b o n c ex->(ex||qr H b z)=true
def SV.cut(z:Nat)(v:SV)(a n:Nat):SV:=match v with|.nil=>.nil|.sl b o _ c ex=>.sl b (o+a*z) n (c - a) ex
def SV.clip(z:Nat)(v:SV)(n:Nat):SV:=match v with|.nil=>.nil|.sl b o _ _ _=>.sl b (o+0*z) (n - 0) (n - 0) true
def YT{k n:Nat}(h:k<=n):bU n (.int .i64 (k:Int))=some k:=by show(if 0<=(k:Int)/\(k:Int)<=(n:Int) then some (k:Int).toNat else none)=_;rw[iP];simp
section
variable {α:Type}[Cell α]
def Sl.clipS{H:Heap}{v:SV}{l:List α}(h:Sl H v l){z:Nat}(q:Cell.z α=z):Sl H (v.clip z l.length) l:=by cases v with|nil=>exact h|sl b o m c ex=>have hn:=h.1;have:=h.2.1;have e:=h.part q (a:=0) (m:=l.length) (c':=l.length) (ex':=true) Om Om;rw[xu,uV] at e;exact e
def Sl.slcClip{H:Heap}{v:SV}{l:List α}(h:Sl H v l){z:Nat}{H':Heap}(hs:slO z H' v)(lo:Nat):ev1 (.slc z false true true) [v.iv,.int .i64 (l.length:Int),.int .i64 (l.length:Int)] lo H'=some ((v.clip z l.length).iv,H'):=by cases v with|nil=>have h:l=[]:=h;subst h;rfl|sl b o m c ex=>have hn:=h.1;have q:=h.2.1;have e:=hs _ _ _ _ _ rfl;simp only[ev1,SV.clip,SV.iv,e,if_true,a8,YT (show l.length<=c by omega),YT (ao l.length),dK,bK]
def aa9{H:Heap}{b e cap:Nat}{l:List α}(h:Own H b e cap l){z:Nat}(A:Cell.z α=z):qr H b z=true:=by subst A;obtain⟨E,F,r,q,I⟩:=h;unfold qr;rw[q];simp
def Gr.slO{n0:Nat}{H:Heap}{e:Nat}{v:SV}{l:List α}(h:Gr n0 H e v l){z:Nat}(I:Cell.z α=z):slO z H v:=by intro b o n c ex q;rcases h with⟨A,_⟩|⟨b',A,_,_,F⟩;{rw[A] at q;cases q};{rw[A] at q;injection q with E O Q T U;subst E;rw[aa9 F I,uO]}
end
open Classical
section
variable {P:Program}{g0 lo:Nat}{μ:Mu}{H H':Heap}{w:World}{ρ:Operand->Value}{xs:List IV}{v:IV}
variable {dst:Option Tmp}{type:TypeId}{pos:String}{after:Array Edge}{guard:Option (Tmp×Bool)}
def Ak:∀{q:List (IV×IV×Nat)}{l:List MapEntry}{e:MapEntry},EsR μ q l->e∈l->∃k v,(k,v,e.born)∈q/\VR μ k e.key/\VR μ v e.val|[],_,_,h,I=>by cases h;cases I|(k,v,s)::q,_,x,O,h=>by obtain⟨e,U,rfl,E,F,T,A⟩:=O;cases h with|head=>exact⟨k,v,by grind,E,F⟩|tail _ h=>obtain⟨Q,v',a,b,c⟩:=Ak A h;exact⟨Q,v',iR _ a,b,c⟩
def Ka(h:Rel P g0 μ H.get H.n w){x:Operand}{r b q last A:Nat}{seen:List Nat}{es:List (IV×IV×Nat)}(hg:H.get r=some (.iter (some b) q seen last))(hm:aM H b=some (es,A))(b6:lo<=r)(a3:∀e∈es,e.2.2<last)(aS:∀e∈es,e.2.2<q)(bd:∃e∈es,e.2.2∉seen)(hx:VRs μ [.ptr r 0] [ρ x]):∃k v s,(k,v,s)∈es/\s∉seen/\Gives P g0 lo μ H w (execOp ρ ⟨dst,.next x false,type,pos,after,guard⟩) (.tuple [.bool true,k,v]) (H.put r (.iter (some b) q (seen++[s]) A)):=by obtain⟨y,hy,hv⟩:=wN hx;injection hy with hy _;subst hy;obtain⟨a,a1,hl⟩:=hv;have bm:∀o,H.get r=some o->o≠.dead->∃c p ez z,μ r=.at c p ez z/\ObjR P μ o p ez z w.heap[c]?/\a=⟨c,p+0,none⟩:=by{intro o ho hd;unfold LocR at hl;cases hb:μ r with|no=>rw[hb] at hl;exact hl.elim|dead=>have:=h.ded r hb;rw[ho] at this;injection this with this;exact absurd this hd|«at» c p ez z=>rw[hb] at hl;obtain⟨ob,ay,cc⟩:=h.obj r c p ez z hb;rw[ho] at ay;injection ay with ay;subst ay;exact⟨c,p,ez,z,rfl,cc,hl⟩};obtain⟨c,p,ez,z,hb,⟨rfl,m',O,bo⟩,ha⟩:=bm _ hg (by simp);subst ha;obtain⟨rm,ce,z2,F,an,cf,T,Z⟩:=rq h hm bo;injection an with an;subst an;have a5:=GR (f:=λs=>decide (last<=s)) Z;have bl:es≠[]:=by{obtain⟨e,he,_⟩:=bd;exact List.ne_nil_of_mem he};have a6:(!seen.toArray.isEmpty&&!F.isEmpty&&F.all λe=>decide (e.born>=last))=false:=by{have:(F.all λe=>decide (e.born>=last))=false:=by{rw[<-Array.all_toList,<-a5,Kw];intro hh;cases es with|nil=>exact bl rfl|cons e es=>simp only[rZ,bV,decide_eq_true_eq] at hh;have:=a3 e (wY ..);omega};rw[this,Bool.and_false]};have g1:(getObj c).run P w=.ok (.mapIter (some rm) q seen.toArray last) w:=by{simp[getObj,Sem.run,O]};have ag:(F.filter λe=>!seen.toArray.contains e.born).toList=F.toList.filter λe=>!seen.contains e.born:=by{rw[Array.toList_filter];simp};have a9:=GQ (f:=λs=>!seen.contains s) Z;have f1:((F.filter λe=>!seen.toArray.contains e.born).filter λe=>decide (e.born<q))=F.filter λe=>!seen.toArray.contains e.born:=by{rw[Array.filter_eq_self];intro e he;obtain⟨k,v,I,_,_⟩:=Ak Z (Array.mem_toList_iff.2 (Array.mem_filter.1 he).1);simpa using aS _ I};have f2:((F.filter λe=>!seen.toArray.contains e.born).filter λe=>decide (e.born>=q))=#[]:=by{rw[Array.filter_eq_empty_iff];intro e he;obtain⟨k,v,I,_,_⟩:=Ak Z (Array.mem_toList_iff.2 (Array.mem_filter.1 he).1);have:=aS _ I;simp only at this;simp;omega};have a0:(F.filter λe=>!seen.toArray.contains e.born)≠#[]:=by{intro E;rw[E] at ag;obtain⟨e,he,hs⟩:=bd;rw[<-ag] at a9;have bc:=EsR.length a9;simp only[cX] at bc;have:e∈es.filter λe=>!seen.contains e.2.2:=List.mem_filter.2 ⟨he,by simpa using hs⟩;rw[List.length_eq_zero_iff.1 bc] at this;cases this};generalize hL:(F.filter λe=>!seen.toArray.contains e.born)=L at *;have bw:c<w.heap.size:=(Array.getElem?_eq_some_iff.1 O).1;have a4:∀(i:Nat)(V:World),V.heap=w.heap->V.os=w.os->V.tape=w.tape->V.output=w.output->w.drawn<=V.drawn->i<L.size->∃E k0 v0,L[i]? =some E/\(k0,v0,E.born)∈es/\E.born∉seen/\ (∃Q,Rel P g0 Q (H.put r (.iter (some b) q (seen++[E.born]) A)).get (H.put r (.iter (some b) q (seen++[E.born]) A)).n {V with heap:=V.heap.setIfInBounds c (.mapIter (some rm) q (seen.toArray.push E.born) A)}/\ Post lo μ H.get H.n w Q (H.put r (.iter (some b) q (seen++[E.born]) A)).get (H.put r (.iter (some b) q (seen++[E.born]) A)).n {V with heap:=V.heap.setIfInBounds c (.mapIter (some rm) q (seen.toArray.push E.born) A)}/\ VR Q (.tuple [.bool true,k0,v0]) (.tuple #[.bool true,E.key,E.val])):=by{intro i V q1 q2 q3 q4 q5 hi;obtain⟨E,U⟩:∃E,L[i]? =some E:=⟨L[i],by simp[hi]⟩;have I:E∈L:=Array.mem_of_getElem? U;rw[<-hL] at I;obtain⟨b8,b9⟩:=Array.mem_filter.1 I;obtain⟨k0,v0,ad,b5,cd⟩:=Ak Z (Array.mem_toList_iff.2 b8);obtain⟨hr,hp⟩:=h.update (lo:=lo) (w':={V with heap:=V.heap.setIfInBounds c (.mapIter (some rm) q (seen.toArray.push E.born) A)}) (o:=.iter (some b) q (seen++[E.born]) A) hb b6 ⟨_,hg,rfl⟩ (by simp[q1]) (λc' bt=>by simp only[q1];rw[P4 (Ne.symm bt)]) (by simp only[q1];rw[RB bw];exact⟨rfl,some rm,by simp,bo⟩) q2 q3 q4 q5;exact⟨E,k0,v0,U,ad,by simpa using b9,μ,hr,hp,⟨_,rfl,_,_,rfl,rfl,_,_,rfl,b5,_,_,rfl,cd,rfl⟩⟩};have aE:L.isEmpty=false:=by{simpa [Array.isEmpty_iff] using a0};have bn:0<L.size:=Array.size_pos_iff.2 a0;by_cases b3:L.size<=1;{obtain⟨E,k0,v0,U,ad,a2,Q,h1,h2,h3⟩:=a4 0 w rfl rfl rfl rfl (ao _) bn;refine⟨k0,v0,E.born,ad,a2,.value (.tuple #[.bool true,E.key,E.val]),.tuple #[.bool true,E.key,E.val],_,Q,?_,.inl rfl,h1,h2,h3⟩;simp only[execOp,Instr.next,a1,Sem.run_bind,g1,Result.andThen_ok,cg T,a6,mR,if_false,hL,f1,f2,aE];simp[choose,Sem.run,Question.forced,setObj,O,b3,U]};{have b4:(Question.mapNext L.size).forced=false:=by{simp[Question.forced];omega};have b7:(Question.mapNext L.size).cut (w.tape w.drawn (.mapNext L.size))<L.size:=Nat.mod_lt _ bn;obtain⟨E,k0,v0,U,ad,a2,Q,h1,h2,h3⟩:=a4 _ {w with drawn:=w.drawn+1} rfl rfl rfl rfl (pU _) b7;refine⟨k0,v0,E.born,ad,a2,.value (.tuple #[.bool true,E.key,E.val]),.tuple #[.bool true,E.key,E.val],_,Q,?_,.inl rfl,h1,h2,h3⟩;simp only[execOp,Instr.next,a1,Sem.run_bind,g1,Result.andThen_ok,cg T,a6,mR,if_false,hL,f1,f2,aE];have hd:w.drew.heap=w.heap:=rfl;simp[choose,Sem.run,b4,setObj,hd,O,U];exact⟨rfl,rfl⟩}
end
open Classical
def CallSim.lower{P:Program}{g0:Nat}{f:FuncId}{args:List IV}{lo A:Nat}{H H':Heap}{v:IV}(U:A<=lo)(h:CallSim P g0 f args lo H v H'):CallSim P g0 f args A H v H':=by intro μ w q V T;exact(h μ w q V T).mono λe w' ⟨v',E,F,I,O,Q⟩=>⟨v',E,F,I,O.lower U,Q⟩
def NItem(P:Program)(g0 lo:Nat)(I:Item)(rd:Option Nat)(fr:Fr)(H:Heap)(Q:Aj):Prop:=∀(μ:Mu)(w:World)(t:Array Value)(r:Option Nat)(ds:List Deferred),Rel P g0 μ H.get H.n w->VRs μ fr.tm t.toList->RdR μ rd r->DsR μ fr.marks ds->∀(f:FuncId)(k:List Item)(cs:List Frame),∃e A H' q w' F E,Q (.ex e A) H'/\Rel P g0 q H'.get H'.n w'/\Post lo μ H.get H.n w q H'.get H'.n w'/\VRs q A.tm F.toList/\DsR q A.marks E/\ Arr P f r F E cs w' (lone (cj f r t ds (I::k)) cs w) k e
section
variable {P:Program}{E:Env}{g0 lo:Nat}{rd:Option Nat}{fr:Fr}{H:Heap}{Q Q':Aj}
def NItem.mono{I:Item}(h:NItem P g0 lo I rd fr H Q)(hq:∀e q H',Q (.ex e q) H'->Q' (.ex e q) H'):NItem P g0 lo I rd fr H Q':=by intro μ w t r ds T U F A f k cs;obtain⟨e,q,H',V,w1,t1,O,Z,a1,a2,a3,a4,a5⟩:=h μ w t r ds T U F A f k cs;grind
def OU{I:Item}{e:Ex}{q:Fr}{H':Heap}(h:ItemSim P g0 lo I rd fr H e q H')(hq:Q (.ex e q) H'):NItem P g0 lo I rd fr H Q:=by intro μ w t r ds T U F A f k cs;obtain⟨V,w1,t1,O,Z,a2,a3,a4,a5⟩:=h μ w t r ds T U F A f k cs;grind
def nq(I:EnvOk P E){c:Code}{A:IC}(O:bg P c=some A)(h:W E lo (.code A rd fr) H Q):NItem P E.g0 lo (.code c) rd fr H Q:=by obtain⟨n,o,H',q,T⟩:=h;obtain⟨e,F,rfl,hs⟩:=GE (Dq I n) n (ao _) c A rd fr lo H o H' O q;exact OU hs T
def NItem.seq{O T q:Item}(hs:∀f r t ds k cs w,step P (lone (cj f r t ds (O::k)) cs w)=.next (lone (cj f r t ds (T::q::k)) cs w))(an:∀id k,exitTo id (q::k)=exitTo id k)(h1:NItem P g0 lo T rd fr H λo H1=>match o with|.ex .normal A=>NItem P g0 lo q rd A H1 Q|o=>Q o H1):NItem P g0 lo O rd fr H Q:=by intro μ w t r ds hr ht I ag f k cs;obtain⟨e,A,H1,U,w1,t1,F,a0,a1,V,a3,a4,a5⟩:=h1 μ w t r ds hr ht I ag f (q::k) cs;cases e with|normal=>obtain⟨e2,ad,H2,ay,w2,t2,Z,b0,b1,b2,b3,b4,b5⟩:=a0 U w1 t1 r F a1 a3 (I.mono V.le) a4 f k cs;exact⟨e2,ad,H2,ay,w2,t2,Z,b0,b1,V.trans b2,b3,b4,b5.head (Steps.head (hs f r t ds k cs w) a5)⟩|jmp j=>exact⟨.jmp j,A,H1,U,w1,t1,F,a0,a1,V,a3,a4,(a5.skipItem an).head (.one (hs f r t ds k cs w))⟩
def NItem.seqC{a b:Code}(A:NItem P g0 lo (.code a) rd fr H λo H1=>match o with|.ex .normal q=>NItem P g0 lo (.code b) rd q H1 Q|o=>Q o H1):NItem P g0 lo (.code (.seq a b)) rd fr H Q:=NItem.seq (λf r t ds k cs w=>PF) (Ca b) A
def LG{id:Nat}{c:Code}(h:NItem P g0 lo (.code c) rd fr H λo H'=>match o with|.ex (.jmp (.exit q)) ad=>Q (.ex (if q=id then .normal else .jmp (.exit q)) ad) H'|o=>Q o H'):NItem P g0 lo (.code (.block id c)) rd fr H Q:=by intro μ w t r ds hr ht an ag f k cs;obtain⟨e1,F,H1,I,w1,t1,A,O,T,U,V,Z,a5⟩:=h μ w t r ds hr ht an ag f (.inBlock id::k) cs;have st:step P (lone (cj f r t ds (.code (.block id c)::k)) cs w)=.next (lone (cj f r t ds (.code c::.inBlock id::k)) cs w):=L9;cases e1 with|normal=>exact⟨.normal,F,H1,I,w1,t1,A,O,T,U,V,Z,Steps.head st (Steps.trans a5 (.one Ew))⟩|jmp j=>obtain⟨pre,b1,b2⟩:=a5;cases j with|ret=>exact⟨.jmp .ret,F,H1,I,w1,t1,A,O,T,U,V,Z,pre++[.inBlock id],Steps.head st (by simpa using b1),λq e=>by cases e⟩|exit q=>refine⟨_,F,H1,I,w1,t1,A,O,T,U,V,Z,?_⟩;have hx:=b2 q rfl;rw[vy] at hx;by_cases he:q=id;{subst he;simp only[if_true] at hx⊢;exact Steps.head st (b1.trans (.one (Rw hx)))};{rw[if_neg (Ne.symm he)] at hx;rw[if_neg he];refine⟨pre++[.inBlock id],Steps.head st (by simpa using b1),λay e=>?_⟩;grind}
def NItem.inLoop{c:Code}(Inv:Nat->Fr->Heap->Prop)(O:∀n fr H,Inv n fr H->NItem P g0 lo (.code c) rd fr H λo H'=>match o with|.ex .normal q=>∃m,m<n/\Inv m q H'|o=>Q o H'):∀n fr H,Inv n fr H->NItem P g0 lo (.inLoop c) rd fr H Q:=by intro n;induction n using Nat.strongRecOn with|_ n T=>intro fr H I;refine NItem.seq (λf r t ds k cs w=>AA) (nC c) ((O n fr H I).mono λe q H' F=>?_);cases e with|normal=>obtain⟨m,hm,A⟩:=F;exact T m hm q H' A|jmp j=>exact F
def NItem.loopC{c:Code}(Inv:Nat->Fr->Heap->Prop)(n:Nat)(h0:Inv n fr H)(F:∀n fr H,Inv n fr H->NItem P g0 lo (.code c) rd fr H λo H'=>match o with|.ex .normal q=>∃m,m<n/\Inv m q H'|o=>Q o H'):NItem P g0 lo (.code (.loop c)) rd fr H Q:=by refine NItem.seq (λf r t ds k cs w=>J6) (nC c) ((F n fr H h0).mono λe q H' I=>?_);cases e with|normal=>obtain⟨m,hm,A⟩:=I;exact NItem.inLoop Inv F m q H' A|jmp j=>exact I
def NOp(P:Program)(g0:Nat)(o:Oper)(lo:Nat)(xs:List IV)(H:Heap)(R:IV->Heap->Prop):Prop:=∀(μ:Mu)(w:World)(t:Array Value),Rel P g0 μ H.get H.n w->VRs μ xs (o.op.operands.toList.map (eo t))->∀(f:FuncId)(rd:Option Nat)(ds:List Deferred)(k:List Item)(cs:List Frame)(ops:Array Oper)(i:Nat)(q:List Nat),∃(v:IV) (H':Heap) (v':Value) (w':World) (A:Mu),R v H'/\Rel P g0 A H'.get H'.n w'/\Post lo μ H.get H.n w A H'.get H'.n w'/\VR A v v'/\ (ops[i]? =some o->Region.wanted o (yielded ops t)=true->Steps P (lone (cj f rd t ds (.inRegion ops (i::q)::k)) cs w) (lone (cj f rd (uq t o.dst v') ds (.inRegion ops q::k)) cs w'))
def NItem.region(hE:EnvOk P E){id:Nat}{ops:Array Oper}{pre post:List IOp}{io:IOp}(T:dm P ops false=some [(.seq,pre++io::post)])(hg:io.guard=none){R:IV->Heap->Prop}(ay:W E lo (.ops none pre rd fr) H λo H1=>∃q xs,o=.ex .normal q/\cJ E.g0 q.tm io.args=some xs/\ (∀o,cY P o.op=some io.kd->NOp P E.g0 o lo xs H1 R)/\ ∀v H2,R v H2->W E lo (.ops none post rd (q.put io.dst v)) H2 λo H'=>∃ad,o=.ex .normal ad/\Q (.ex .normal ad) H'):NItem P E.g0 lo (.code (.region id ops false)) rd fr H Q:=by simp only[dm] at T;cases h1:ops.toList.mapM (mI P ops) with|none=>rw[h1] at T;cases T|some l=>rw[h1] at T;simp only[zc,bK,mR,if_false] at T;have T:l=pre++io::post:=by{grind};subst T;obtain⟨hl,au⟩:=vi h1;obtain⟨n,o,H1,aE,q,xs,rfl,a6,a5,U⟩:=ay;obtain⟨bl,S1,e1,I⟩:=ww (N:=n) pre n (ao _) _ _ _ _ _ aE;injection e1 with _ e1;subst e1;have an:∀(j:Nat)(A:IOp),(pre++io::post)[j]? =some A->∃o,ops[j]? =some o/\OpOk P ops o A:=λj A hj=>by{obtain⟨o,q1,q2⟩:=au j A hj;obtain⟨e3,e4,e5,e6⟩:=rC q2;exact⟨o,by simpa using q1,e3,e4,e5,e6⟩};have ag:ops.size=pre.length+(post.length+1):=by{grind};intro μ w t r ds hr ht bo a0 f k cs;have di:List.range ops.size=List.range' 0 pre.length++(pre.length::List.range' (pre.length+1) post.length):=by{rw[PX,ag,<-List.range'_append_1,aQ,Kt]};obtain⟨a9,t1,w1,a1,a2,a3,a4⟩:=C9 (a:=0) (ops:=ops) (Dq hE n) (λj A hj=>by have bn:j<pre.length:=(List.getElem?_eq_some_iff.1 hj).1;simp_all[Ia,aQ]) I hr ht f r ds k cs (pre.length::List.range' (pre.length+1) post.length);obtain⟨o,ho,F⟩:=an pre.length io (by simp);have Z:Region.wanted o (yielded ops t1)=true:=by{rw[sJ F.guard (by simpa using a3.length) (λd w' _=>mB a3 d),hg];rfl};have aS:=fZ a1 F.args a6 (λi _=>mB a3 i);obtain⟨v,H2,v',w2,bc,b0,b1,b2,b3,b4⟩:=a5 o F.kd a9 w1 t1 a1 aS f r ds k cs ops pre.length (List.range' (pre.length+1) post.length);have b4:=b4 ho Z;have b5:VRs bc (q.put io.dst v).tm (uq t1 o.dst v').toList:=by{rw[F.dst];cases o.dst with|none=>exact VRs.mono b2.le _ _ a3|some d=>simp only[Fr.put,uq,BT];exact(VRs.mono b2.le _ _ a3).set d b3};obtain⟨n3,o3,H3,V,fr3,rfl,hq⟩:=U v H2 b0;obtain⟨bm,S3,e3,O⟩:=ww (N:=n3) post n3 (ao _) _ _ _ _ _ V;injection e3 with _ e3;subst e3;obtain⟨bd,t3,w3,c1,c2,c3,c4⟩:=C9 (a:=pre.length+1) (ops:=ops) (Dq hE n3) (λj A hj=>by obtain⟨o,q1,q2⟩:=an (pre.length+1+j) A (by grind);exact⟨o,q1,q2⟩) O b1 b5 f r ds k cs [];rw[i6] at c4;refine⟨.normal,fr3,H3,bd,w3,t3,ds,hq,c1,(a2.trans b2).trans c2,c3,?_,?_⟩;{have hm:fr3.marks=fr.marks:=by{rw[O.marks];have:(q.put io.dst v).marks=q.marks:=by{cases io.dst<;>rfl};rw[this,I.marks]};rw[hm];exact a0.mono ((a2.trans b2).trans c2).le};{refine Steps.head HG ?_;rw[di];exact a4.trans (b4.trans (c4.trans (.one qZ)))}
def NOp.next{o:Oper}(I:cY P o.op=some .nextM){r b q last A:Nat}{seen:List Nat}{O:List (IV×IV×Nat)}(hg:H.get r=some (.iter (some b) q seen last))(hm:aM H b=some (O,A))(Z:lo<=r)(F:∀e∈O,e.2.2<last)(T:∀e∈O,e.2.2<q)(ad:∃e∈O,e.2.2∉seen):NOp P g0 o lo [.ptr r 0] H λv H'=>∃k x s,(k,x,s)∈O/\s∉seen/\v=.tuple [.bool true,k,x]/\H'=H.put r (.iter (some b) q (seen++[s]) A):=by intro μ w t hr hx f rd ds k cs ops i aE;obtain⟨y,U⟩:∃y,o.op=.next y false:=by{cases ho:o.op<;>rw[ho] at I<;>simp only[cY,Nu,a7,i9,ja] at I;(all_goals (repeat' split at I));(all_goals (try simp only[ja,i9,reduceCtorEq,and_false,exists_false] at I));all_goals first|(cases I;done)|exact⟨_,rfl⟩|grind};obtain⟨dst,op,type,pos,after,guard⟩:=o;simp only at U;subst U;have hx:VRs μ [.ptr r 0] [eo t y]:=by{simpa [Op.operands] using hx};obtain⟨k0,v0,s0,h1,h2,nx,v',w',ay,V,ag,an,hp,hv⟩:=Ka (dst:=dst) (type:=type) (pos:=pos) (after:=after) (guard:=guard) (ρ:=eo t) hr hg hm Z F T ad hx;exact⟨_,_,v',w',ay,⟨k0,v0,s0,h1,h2,Rr⟩,an,hp,hv,λho hw=>.one (L8 ho hw (FK I) V ag)⟩
def Sr(P:Program)(g0:Nat)(f:FuncId)(args:List IV)(lo:Nat)(H:Heap)(R:IV->Heap->Prop):Prop:=∀(μ:Mu)(w:World)(q:Array Value),Rel P g0 μ H.get H.n w->VRs μ args q.toList->Calls P f q w λe w'=>∃(v:IV) (H':Heap) (v':Value) (A:Mu),R v H'/\e=.returned v'/\Rel P g0 A H'.get H'.n w'/\Post lo μ H.get H.n w A H'.get H'.n w'/\VR A v v'
def NOp.call{o:Oper}(hk:cY P o.op=some .call){g:FuncId}{q cap args:List IV}{fn:Func}{body:Code}(hf:P.funcs[g]? =some fn)(hb:fn.body=some body)(hn:(fn.name=="runtime.NumGoroutine")=false){R:IV->Heap->Prop}(h:Sr P g0 g (q++args++cap) lo H R):NOp P g0 o lo (.fn g q cap::args) H R:=by obtain⟨fo,A,ts,ho⟩:=RR hk;intro μ w t hr hx f rd ds k cs ops i Z;have U:o.op.operands.toList.map (eo t)=eo t fo::A.toList.map (eo t):=by{rw[ho];simp[Op.operands,Call.operands]};rw[U] at hx;obtain⟨y,yl,hy,aE,O⟩:=hx;simp only[kG] at hy;obtain⟨rfl,rfl⟩:=hy;obtain⟨l',r',ad,hl,ay⟩:=aE;have O:VRs μ args (A.map (eo t)).toList:=by{simpa using O};have aS:VRs μ (q++args++cap) ((l'++A.map (eo t))++r').toList:=by{rw[ER,ER];exact(hl.append O).append ay};obtain⟨e,w',fr,⟨v,H',v',a0,hR,rfl,an,hp,hv⟩,I,a1,F⟩:=h μ w _ hr aS (cj f rd t ds (.inRegion ops (i::Z)::k)::cs);refine⟨v,H',v',w',a0,hR,an,hp,hv,λT hw=>?_⟩;rw[<-tC T];have V:(execOp (eo t) o).run P w=.ok (.enter g ((l'++A.map (eo t))++r')) w:=by{have ag:¬fn.name="runtime.NumGoroutine":=by{simpa using hn};simp only[execOp,ho,resolve,ad];simp[Deferred.ofValue,invoke,callFunc,hf,ag,hb]};refine Steps.head (step_lone_go ?_) (Steps.trans I (.one (step_leave_returned F)));rw[uF T hw (λc e=>by rw[ho] at e;cases e),vq];simp only[stepG.apply,Sem.runT_eq,V,if_true,GStep.bare_after];simp_all[cj]
end
open Go.Sort Go.Proofs Go.Shelf
section
variable {P:Program}{g0 lo:Nat}{μ:Mu}{H:Heap}{w:World}
def Tl{n n':Nat}{g g':Gt}{Q:Mu}{w':World}(A:Post n μ g n w Q g' n' w'):∃q os,w'=grow (w.drewN q) os:=by have U:w'.heap=w.heap++w'.heap.extract w.heap.size w'.heap.size:=by{apply Array.ext_getElem?;intro i;by_cases hi:i<w.heap.size;{rw[Array.getElem?_append_left hi];exact A.frame i hi λb p ez z I O=>Om};grind};refine⟨w'.drawn - w.drawn,w'.heap.extract w.heap.size w'.heap.size,?_⟩;have I:=A.os;have O:=A.tape;have T:=A.output;have h4:=A.drawn;obtain⟨h,t,d,o,u⟩:=w;obtain⟨F,V,E,o',Z⟩:=w';simp only at I O T h4 U⊢;subst I O T;show World.mk F V E o' Z=World.mk (h++F.extract h.size F.size) V (d+(E - d)) o' Z;rw[<-U,show d+(E - d)=E by omega]
def NI(os:Array Obj){c:Nat}(q:c<w.heap.size):(grow w os).heap[c]? =w.heap[c]?:=Array.getElem?_append_left q
def Rel.grown{g:Gt}{n:Nat}(h:Rel P g0 μ g n w)(os:Array Obj):Rel P g0 μ g n (grow w os):=⟨h.lt,h.inj,λb c p ez z q=>by rw[NI os (h.clt q)];exact h.obj b c p ez z q,h.glob,h.ded⟩
def Post.grown{g:Gt}{n:Nat}(h:Rel P g0 μ g n w)(os:Array Obj):Post lo μ g n w μ g n (grow w os) where le:=μ.le_refl;hn:=ao _;old:=λ_ _ h=>h;low:=λ_ _ _=>⟨rfl,rfl⟩;own:=λ_ _ h=>h;new:=λb c p ez z F e=>absurd (h.lt b (by grind)) Om;full:=λb A E=>Om;size:=by{simp_all};frame:=λc q _=>NI os q;os:=rfl;tape:=rfl;output:=rfl;drawn:=ao _
def toV:IV->Value|.int k n=>.int k n|_=>undef
def RT:IV->Bool|.int _ _=>true|_=>false
def Ai:∀{L:List IV}{vs:List Value},L.all RT=true->(VRs μ L vs↔vs=L.map toV)|[],vs,_=>by constructor<;>exactλh=>h|x::L,vs,h=>by simp only[rZ,bV] at h;have E:=λvs=>Ai (L:=L) (vs:=vs) h.2;obtain⟨k,n,rfl⟩:∃k n,x=.int k n:=by{cases x with|int k n=>exact⟨k,n,rfl⟩|_=>exact absurd h.1 (by simp[RT])};constructor;{rintro⟨y,ys,rfl,q,A⟩;have q:y=.int k n:=q;rw[q,(E ys).1 A];rfl};{rintro rfl;exact⟨_,_,rfl,rfl,(E _).2 rfl⟩}
theorem G3(F:Array Value)(cs:Array Value)(h:F.size<=cs.size):(putCells id 0 F cs).toList.take F.size=F.toList:=by apply AR;intro i;rw[List.getElem?_take];by_cases hi:i<F.size;{rw[if_pos hi,AY,AY];unfold putCells;rw[Array.getElem?_mapIdx,EU (by omega:i<cs.size)];simp only[dK];rw[iP,uP,getElem!_pos F i hi,EU hi];rfl};grind
def aal(h:Rel P g0 μ H.get H.n w){b c e ez z:Nat}{cs q:List IV}(T:μ b=.at c 0 ez z)(O:lo<=b)(U:H.get b=some (.cells false e ez cs)){F:Array Value}(V:VRs μ q F.toList)(hl:q.length=cs.length)(m:Nat):Rel P g0 μ (H.put b (.cells false e ez q)).get (H.put b (.cells false e ez q)).n (putRow id (Sort.ahead w m) c 0 F)/\Post lo μ H.get H.n w μ (H.put b (.cells false e ez q)).get (H.put b (.cells false e ez q)).n (putRow id (Sort.ahead w m) c 0 F):=by obtain⟨o,A,Q⟩:=h.obj b c 0 ez z T;rw[U] at A;injection A with A;subst A;obtain⟨_,_,E,Z,hz,ad,hv⟩:=Q;have ag:F.size=q.length:=by{rw[<-wZ,V.length]};refine h.update T O ⟨_,U,rfl⟩ (by show(w.heap.modify c _).size=_;rw[Array.size_modify]) (λc' I=>by show(w.heap.modify c _)[c']? =_;rw[Array.getElem?_modify,if_neg (Ne.symm I)]) ?_ rfl rfl rfl (Nat.le_add_right _ _);refine⟨rfl,rfl,putCells id 0 F E,?_,?_,Om,?_⟩;{show(w.heap.modify c _)[c]? =_;rw[Array.getElem?_modify,if_pos rfl,Z];rfl};{unfold putCells;rw[Array.size_mapIdx];exact hz};grind[G3]
section
variable {α:Type}[Inhabited α]
def EO:∀(l:List Value),(List.range l.length).map (λt=>l[t]!)=l:=by intro l;apply i8 (by simp);grind
def KW(enc:α->List Value)(k:Nat)(E:∀x,(enc x).length=k)(A:0<k):∀(l:List α),(flatK enc k l.toArray).toList=l.flatMap enc:=by have key:∀(l:List α),(List.range (l.length*k)).map (λt=>(enc l[t / k]!)[t%k]!)=l.flatMap enc:=by{intro l;induction l with|nil=>simp|cons a l F=>rw[dg,fP,Nat.add_comm,List.range_add,jm,List.flatMap_cons,<-F];congr 1;{(conv=>rhs;rw[<-EO (enc a),E]);apply AW;intro t q;have q:=List.mem_range.1 q;rw[Nat.div_eq_of_lt q,Nat.mod_eq_of_lt q];rfl};{rw[pV];apply AW;intro t _;show(enc (a::l)[(k+t) / k]!)[(k+t)%k]! =_;rw[Nat.add_div_left _ A,Nat.add_mod_left];rfl}};simp_all[flatK,Array.toList_map,Array.toList_range]
end
section
variable {α:Type}[Inhabited α][Cell α]
def xL(x:α):List Value:=(Cell.cs x).map toV
omit [Inhabited α] in theorem NX(x:α):(xL x).length=Cell.z α:=by unfold xL;rw[bS,Cell.len]
omit [Inhabited α] in theorem Ur(l:List α):l.flatMap xL=(aA l).map toV:=by unfold aA xL;rw[List.map_flatMap]
def OQ(A:α->α->Int)(b e ez:Nat)(l:List α)(H:Heap)(v:IV)(H':Heap):Prop:=v=.tuple []/\∃q:List α,q.Perm l/\q.Pairwise (λx y=>ltOf A y x=false)/\H'.n=H.n/\(∀x,x≠b->H'.get x=H.get x)/\H'.get b=some (.cells false e ez (aA q))
def EA{ρ:Ren}(L:SlLaysF0.n6 P ρ)(E:∀x:α,(Cell.cs x).all RT=true)(aE:∀w,(isAgg (ρ.t 24)).run P w=.ok true w)(zE:∀w,(Go.sizeOf (ρ.t 24)).run P w=.ok (Cell.z α) w)(cf:α->α->Int)(hO:SWO (ltOf cf)){g b e ez lb:Nat}{ex:Bool}{l:List α}(bo:lo<=b)(hg:H.get b=some (.cells false e ez (aA l)))(bt:l.length<4611686018427387904)(eg:∀args w,(callFunc g args).run P w=.ok (.enter g args) w)(a4:∀(x y:α)(H':Heap),∃a2,CallSim P g0 g [.agg (Cell.cs x),.agg (Cell.cs y)] H'.n H' (.int .i64 (cf x y)) a2):Sr P g0 (ρ.f 6) [.slice b 0 l.length lb ex,.fn g [] []] lo H (OQ cf b e ez l H):=by intro μ w ay hr ha;obtain⟨v1,b7,e1,bw,v2,b8,rfl,b3,rfl⟩:=ha;obtain⟨a,cap,rfl,ag,O⟩:=bw;obtain⟨l1,U,rfl,F,I⟩:=b3;have F:l1.toList=[]:=F;have I:U.toList=[]:=I;have F:l1=#[]:=Array.toList_eq_nil_iff.1 F;have I:U=#[]:=Array.toList_eq_nil_iff.1 I;subst F I;have aS:ay=#[.slice (some a) l.length cap,.func (.func g) #[] #[]]:=by{apply xp;rw[e1]};subst aS;have a9:∃c q z,μ b=.at c 0 q z/\q=ez/\(cap=0\/a=⟨c,0,none⟩):=by{unfold SlR at O;cases hb:μ b with|no=>rw[hb] at O;exact O.elim|dead=>have:=hr.ded b hb;rw[hg] at this;injection this with this;cases this|«at» c p q z=>rw[hb] at O;obtain⟨o,T,a1⟩:=hr.obj b c p q z hb;rw[hg] at T;injection T with T;subst T;obtain⟨rfl,rfl,_⟩:=a1;exact⟨c,_,z,rfl,rfl,by simpa using O.1⟩};obtain⟨c,q,z,hb,rfl,a0⟩:=a9;by_cases an:l=[];{subst an;exact(AnyF.slices_SortFunc_none L (some a) cap _ w).mono λe' w' ⟨Z,h2⟩=>by subst Z h2;exact⟨.tuple [],H,.tuple #[],μ,⟨rfl,[],.refl _,.nil,rfl,λ_ _=>rfl,hg⟩,rfl,hr,Post.refl hr,⟨#[],Rr⟩⟩};have b4:0<l.length:=List.length_pos_iff.2 an;have ha:a=⟨c,0,none⟩:=by{rcases a0 with h|h;{have Z:=ag.1;have h2:=ag.2.1;omega};{exact h}};subst ha;have ad:∀l:List α,(aA l).all RT=true:=λl=>by{unfold aA;rw[List.all_flatMap,xx];exactλx _=>E x};have hF:∀d:Array α,(flatK xL (Cell.z α) d).toList=(aA d.toList).map toV:=λd=>by{rw[<-Ur,<-KW xL (Cell.z α) NX Cell.pos]};have a6:∀d:Array α,VRs μ (aA d.toList) (flatK xL (Cell.z α) d).toList:=λd=>(Ai (ad _)).2 (hF d);obtain⟨o,T,a1⟩:=hr.obj b c 0 q z hb;rw[hg] at T;injection T with T;subst T;obtain⟨_,_,Q,hc,hz,b6,hv⟩:=a1;have bd:Q.toList.take (aA l).length=(flatK xL (Cell.z α) l.toArray).toList:=by{rw[hF];exact(Ai (ad _)).1 hv};have a3:c<w.heap.size:=(Array.getElem?_eq_some_iff.1 hc).1;have hH:HoldsK xL (Cell.z α) w c 0 l.toArray:=by{intro j hj;have bn:j<(aA l).length:=by{rw[ax];simpa using hj};have b5:j<Q.size:=Om;refine⟨?_,?_⟩;{unfold World.cell?;simp only[hc,AT,mR,if_false,aQ];have Z:(Q.toList.take (aA l).length)[j]? =Q[j]?:=by{rw[List.getElem?_take,if_pos bn,AY]};rw[<-Z,bd,AY,EU hj,getElem!_pos _ j hj];rfl};{unfold World.frozen?;simp only[hc];simp}};have hW:∀(d:Array α)(m:Nat)(os:Array Obj),d.size=l.length->Rel P g0 μ (H.put b (.cells false e q (aA d.toList))).get (H.put b (.cells false e q (aA d.toList))).n (sortWorldK xL (Cell.z α) w c 0 m d os)/\ Post lo μ H.get H.n w μ (H.put b (.cells false e q (aA d.toList))).get (H.put b (.cells false e q (aA d.toList))).n (sortWorldK xL (Cell.z α) w c 0 m d os):=by{intro d m os hd;obtain⟨U,p1⟩:=aal (lo:=lo) hr hb bo hg (a6 d) (by rw[ax,ax,wZ,hd]) m;exact⟨U.grown os,p1.trans (Post.grown U os)⟩};have bc:CmpLays P g #[] xL (Cell.z α) cf c 0 l.toArray.size w:=by{intro m os dk bl x y;obtain⟨U,_⟩:=hW dk m os (by simpa using bl);obtain⟨a2,hs⟩:=a4 x y (H.put b (.cells false e q (aA dk.toList)));have hx:∀x:α,VR μ (.agg (Cell.cs x)) (.agg (xL x).toArray):=λx=>⟨_,rfl,(Ai (E x)).2 rfl⟩;refine(hs μ _ _ U ⟨_,_,rfl,hx x,_,_,rfl,hx y,rfl⟩).mono λe' w' ⟨v',b9,Z,_,h3,h4⟩=>?_;have h4:v'=.int .i64 (cf x y):=h4;subst Z h4;exact⟨rfl,Tl h3⟩};have a5:∀x:α,∀v∈xL x,v.oneCell'=true:=by{intro x v hv;obtain⟨y,hy,rfl⟩:=List.mem_map.1 hv;have:=List.all_eq_true.1 (E x) y hy;cases y<;>first|(cases this;done)|rfl};have A:=AnyQ.slices_SortFunc L (Cell.z α) aE zE xL NX a5 cf hO g #[] c 0 cap l.toArray w eg bc hH a3 (by simpa using bt);rw[E3] at A;refine A.mono λe' w' ⟨Z,V,m,os,hp,hs,hw⟩=>?_;subst Z hw;have hd:V.size=l.length:=by{simpa using hp.1};obtain⟨U,p1⟩:=hW V m os hd;refine⟨.tuple [],H.put b (.cells false e q (aA V.toList)),.tuple #[],μ,⟨rfl,V.toList,?_,?_,rfl,λx hx=>by rw[aa,if_neg (Ne.symm hx)],by rw[aa,if_pos rfl]⟩,rfl,U,p1,⟨#[],Rr⟩⟩;{have:=hp.2.2;have e1:V.extract 0 l.length=V:=by{rw[<-hd];exact Array.extract_size};have e2:l.toArray.extract 0 l.length=l.toArray:=by{rw[<-E3];exact Array.extract_size};rw[e1,e2] at this;simpa using this};{rw[HZ];intro i j hi hj bm;have:=hs i j (dJ _) bm (by rw[<-hd,<-wZ];exact hj);rw[getElem!_pos V i (by simpa using hi),getElem!_pos V j (by simpa using hj)] at this;simpa using this}
end
end
open Classical
def Xf:IV->Bool|.int _ _=>true|.bool _=>true|.nilSlice=>true|.slice _ _ _ _ _=>true|_=>false
section
variable {P:Program}{g0 lo:Nat}
def kT{c:Code}{x y:IC}(h:bg P c=some (.seq x y)):∃a b,c=.seq a b/\bg P a=some x/\bg P b=some y:=by cases c<;>simp only[bg,i9,zc,ja,AM,qK,reduceCtorEq,and_false,exists_false] at h;grind
def Bs{c:Code}{l:List (Sg×List IOp)}(h:bg P c=some (.ops l)):∃id ops q,c=.region id ops q/\dm P ops q=some l:=by cases c<;>simp only[bg,i9,zc,ja,AM,qK,reduceCtorEq,and_false,exists_false] at h;grind
def Oq{c:Code}{x:IC}{n:Nat}(h:bg P c=some (.block n x)):∃a,c=.block n a/\bg P a=some x:=by cases c<;>simp only[bg,i9,zc,ja,AM,qK,reduceCtorEq,and_false,exists_false] at h;grind
def QW{c:Code}{x:IC}(h:bg P c=some (.loop x)):∃a,c=.loop a/\bg P a=some x:=by cases c<;>simp only[bg,i9,zc,ja,AM,qK,reduceCtorEq,and_false,exists_false] at h;grind
end
open Classical
def EL(q:Nat->Nat):IV->IV|.slice b o n lb ex=>.slice (q b) o n lb ex|v=>v
def nmC(n:Nat):IV->Prop|.slice b _ _ _ _=>b<n|_=>True
def PQ{μ q:Mu}{A:Nat->Nat}{n:Nat}(hm:∀b,b<n->q b=μ (A b)\/q b=.dead):∀{v:IV}{v':Value},Xf v=true->nmC n v->VR μ (EL A v) v'->VR q v v'|.int _ _,_,_,_,h=>h|.bool _,_,_,_,h=>h|.nilSlice,_,_,_,h=>h|.slice b o n lb ex,_,_,I,h=>by obtain⟨a,cap,e,E,F⟩:=h;refine⟨a,cap,e,E,?_⟩;unfold SlR at F⊢;rcases hm b I with e|e<;>grind
def qJ{μ q:Mu}{F:Nat->Nat}{n:Nat}(hm:∀b,b<n->q b=μ (F b)\/q b=.dead):∀{cs:List IV}{l:List Value},cs.all Xf=true->(∀c∈cs,nmC n c)->VRs μ (cs.map (EL F)) l->VRs q cs l|[],_,_,_,h=>h|c::cs,_,A,E,h=>by simp only[rZ,bV] at A;obtain⟨y,ys,e,I,O⟩:=h;exact⟨y,ys,e,PQ hm A.1 (E c wY) I,qJ hm A.2 (λc Q=>E c (iR _ Q)) O⟩
section
variable {μ μ1 μ':Mu}
def GP(μ μ1 μ':Mu):Prop:=∀b,μ b≠.no->μ' b=μ1 b\/μ' b=.dead
def LocR.swap(hs:GP μ μ1 μ'){b o:Nat}{q a:Addr}(h0:LocR μ b o q)(h:LocR μ1 b o a):LocR μ' b o a:=by have hn:μ b≠.no:=by{intro e;unfold LocR at h0;rw[e] at h0;exact h0};unfold LocR at h⊢;rcases hs b hn with e|e<;>grind
def SlR.swap(hs:GP μ μ1 μ'){b o c0 cap:Nat}{ex:Bool}{q a:Addr}(h0:SlR μ b o ex c0 q)(h:SlR μ1 b o ex cap a):SlR μ' b o ex cap a:=by have hn:μ b≠.no:=by{intro e;unfold SlR at h0;rw[e] at h0;exact h0};unfold SlR at h⊢;rcases hs b hn with e|e<;>grind
mutual
def VR.swap(hs:GP μ μ1 μ'):∀(x:IV)(T v:Value),VR μ x T->VR μ1 x v->VR μ' x v|.bool _,_,_,_,h=>h|.int _ _,_,_,_,h=>h|.str _,_,_,_,h=>h|.ptr _ _,_,_,h0,h=>by obtain⟨a,e,k⟩:=h;obtain⟨_,_,k0⟩:=h0;exact⟨a,e,k0.swap hs k⟩|.nilPtr,_,_,_,h=>h|.slice _ _ _ _ _,_,_,h0,h=>by obtain⟨a,c,e,k,l⟩:=h;obtain⟨_,_,_,_,O⟩:=h0;exact⟨a,c,e,k,O.swap hs l⟩|.nilSlice,_,_,_,h=>h|.map _,_,_,h0,h=>by obtain⟨a,e,k⟩:=h;obtain⟨_,_,k0⟩:=h0;exact⟨a,e,k0.swap hs k⟩|.nilMap,_,_,_,h=>h|.fn _ l r,_,_,h0,h=>by obtain⟨q,Q,e,A,F⟩:=h;obtain⟨_,_,_,E,I⟩:=h0;exact⟨q,Q,e,VRs.swap hs l _ _ E A,VRs.swap hs r _ _ I F⟩|.yield _,_,_,h0,h=>by obtain⟨a,e,k⟩:=h;obtain⟨_,_,k0⟩:=h0;exact⟨a,e,k0.swap hs k⟩|.nilFunc,_,_,_,h=>h|.iface _ x,_,_,h0,h=>by obtain⟨U,e,k⟩:=h;obtain⟨_,_,k0⟩:=h0;exact⟨U,e,VR.swap hs x _ _ k0 k⟩|.nilIface,_,_,_,h=>h|.agg l,_,_,h0,h=>by obtain⟨q,e,k⟩:=h;obtain⟨_,_,k0⟩:=h0;exact⟨q,e,VRs.swap hs l _ _ k0 k⟩|.tuple l,_,_,h0,h=>by obtain⟨q,e,k⟩:=h;obtain⟨_,_,k0⟩:=h0;exact⟨q,e,VRs.swap hs l _ _ k0 k⟩
def VRs.swap(hs:GP μ μ1 μ'):∀(x:List IV)(A v:List Value),VRs μ x A->VRs μ1 x v->VRs μ' x v|[],_,_,_,h=>h|x::xs,_,_,h0,h=>by obtain⟨y,ys,e,k,ks⟩:=h;obtain⟨_,_,_,k0,q⟩:=h0;exact⟨y,ys,e,VR.swap hs x _ _ k0 k,VRs.swap hs xs _ _ q ks⟩
end
def EsR.swap(hs:GP μ μ1 μ'):∀{q:List (IV×IV×Nat)}{E l:List MapEntry},EsR μ q E->EsR μ1 q l->EsR μ' q l|[],_,_,_,h=>h|(k,v,_)::_,_,_,h0,h=>by obtain⟨e,A,a,b,c,d,f⟩:=h;obtain⟨_,_,_,b0,c0,_,f0⟩:=h0;exact⟨e,A,a,VR.swap hs k _ _ b0 b,VR.swap hs v _ _ c0 c,d,EsR.swap hs f0 f⟩
def ObjR.swap{P:Program}(hs:GP μ μ1 μ'){o:IObj}{p p0 ez I z z0:Nat}{h h0:Option Obj}(k0:ObjR P μ o p0 I z0 h0)(k:ObjR P μ1 o p ez z h):ObjR P μ' o p ez z h:=by cases o with|cells ro e U cs=>cases ro;{obtain⟨a,b,q,c,d,E,f⟩:=k;obtain⟨_,_,_,_,_,_,f0⟩:=k0;exact⟨a,b,q,c,d,E,VRs.swap hs _ _ _ f0 f⟩};{obtain⟨a,q,E,V,b,c,f⟩:=k;obtain⟨_,_,_,_,_,_,f0⟩:=k0;exact⟨a,q,E,V,b,c,VRs.swap hs _ _ _ f0 f⟩}|map es A=>obtain⟨a,F,b,c⟩:=k;obtain⟨_,_,_,c0⟩:=k0;exact⟨a,F,b,EsR.swap hs c0 c⟩|loop st pend tm ps Q body df=>obtain⟨a,L,b,c,d,e,f,g,i,j⟩:=k;obtain⟨_,_,_,_,_,T,_,_,_,Z⟩:=k0;exact⟨a,L,b,c,d,VRs.swap hs _ _ _ T e,f,g,i,Z.swap hs j⟩|deferred=>exact k|taken=>exact k|iter m O seen last=>obtain⟨a,m',b,c⟩:=k;obtain⟨_,_,_,c0⟩:=k0;exact⟨a,m',b,VR.swap hs _ _ _ c0 c⟩|dead=>exact k
end
structure FixOk(lo:Nat)(H H1 Hs:Heap)(σ:Nat→Nat):Prop where
 hn:H.n≤Hs.n
 s0:∀b,b < H.n→σ b=b
 s1:∀b,H.n≤b→b < Hs.n→H.n≤σ b∧σ b < H1.n
 s2:∀b b',H.n≤b→b < Hs.n→H.n≤b'→b' < Hs.n→σ b=σ b'→b=b'
 low:∀b,b < lo→b < H.n→Hs.get b=H.get b
 old:∀b,b < H.n→(Hs.get b=H.get b∧H1.get b=H.get b)∨(lo≤b∧Hs.get b=some .dead)∨
  (lo≤b∧bF H.get b∧∃e z cs,Hs.get b=some (.cells false e z cs)∧H1.get b=some (.cells false e z (cs.map (EL σ)))∧cs.all Xf=true∧∀c∈cs,nmC Hs.n c)
 new:∀b,H.n≤b→b < Hs.n→∃e z cs,Hs.get b=some (.cells false e z cs)∧H1.get (σ b)=some (.cells false e z (cs.map (EL σ)))∧cs.all Xf=true∧∀c∈cs,nmC Hs.n c
section
variable {P:Program}{g0 lo:Nat}
def aa7{μ E:Mu}{H H1 O:Heap}{w w1:World}{V:Nat->Nat}(b6:g0<=lo)(hr:Rel P g0 μ H.get H.n w)(r1:Rel P g0 E H1.get H1.n w1)(p1:Post lo μ H.get H.n w E H1.get H1.n w1)(A:FixOk lo H H1 O V):∃aE,Rel P g0 aE O.get O.n w1/\Post lo μ H.get H.n w aE O.get O.n w1/\∀b,b<O.n->aE b=E (V b)\/aE b=.dead:=by let m2:Mu:=λb=>if b<O.n then(if O.get b=some .dead/\E (V b)≠.no then .dead else E (V b)) else .no;have bo:∀b,O.n<=b->m2 b=.no:=λb h=>by{grind};have bn:∀b,b<O.n->O.get b=some .dead->E (V b)≠.no->m2 b=.dead:=λb F q h3=>by{grind};have a9:∀b,b<O.n->¬(O.get b=some .dead/\E (V b)≠.no)->m2 b=E (V b):=λb F q=>by{grind};have ag:∀b,b<O.n->m2 b=E (V b)\/m2 b=.dead:=λb h=>by{grind};have b4:∀b,b<O.n->E (V b)=.no->m2 b=.no:=λb F q=>by{grind};have ay:∀b c p ez z,m2 b=.at c p ez z->b<O.n/\E (V b)=.at c p ez z/\O.get b≠some .dead:=by{grind};have a6:∀b b',b<O.n->b'<O.n->V b=V b'->b=b':=by{intro b b' F q he;rcases cW b H.n with c1|c1<;>rcases cW b' H.n with c2|c2;{rw[A.s0 b c1,A.s0 b' c2] at he;exact he};{have:=A.s0 b c1;have:=A.s1 b' c2 q;omega};{have:=A.s0 b' c2;have:=A.s1 b c1 F;omega};{exact A.s2 b b' c1 F c2 q he}};have bd:GP μ E m2:=λb I=>by{have T:=hr.lt b I;have:=ag b (cu T A.hn);rwa [A.s0 b T] at this};have bc:∀b,b<O.n->bF O.get b->bF H1.get (V b):=by{rintro b I ⟨o,F,q⟩;rcases cW b H.n with c|c;{rw[A.s0 b c];rcases A.old b c with⟨Q,Z⟩|⟨_,Q⟩|⟨_,_,e,z,cs,Q,Z,_⟩;{exact⟨o,by rw[Z,<-Q];exact F,q⟩};{rw[Q] at F;injection F with F;subst F;cases q};{exact⟨_,Z,rfl⟩}};{obtain⟨e,z,cs,Q,Z,_⟩:=A.new b c I;exact⟨_,Z,rfl⟩}};have bw:μ.le m2:=λb I=>by{have T:=hr.lt b I;rcases bd b I with e|e;{rw[e];exact p1.le b I};{exact .inr e}};refine⟨m2,⟨?_,?_,?_,?_,?_⟩,⟨bw,A.hn,?_,?_,?_,?_,?_,p1.size,p1.frame,p1.os,p1.tape,p1.output,p1.drawn⟩,ag⟩;{grind};{intro b b' c p ez z p' b5 z' I bl ho;obtain⟨F,q,_⟩:=ay _ _ _ _ _ I;obtain⟨h3,h4,_⟩:=ay _ _ _ _ _ bl;exact a6 b b' F h3 (r1.inj _ _ _ _ _ _ _ _ _ q h4 (bc b F ho))};{intro b c p ez z I;obtain⟨F,q,h3⟩:=ay _ _ _ _ _ I;obtain⟨o1,g1,k1⟩:=r1.obj _ c p ez z q;rcases cW b H.n with cc|cc;{have e0:=A.s0 b cc;rw[e0] at g1 q;rcases A.old b cc with⟨Q,Z⟩|⟨_,Q⟩|⟨_,_,e,z',cs,Q,Z,a3,a4⟩;{rw[Z] at g1;refine⟨o1,by rw[Q];exact g1,?_⟩;have b3:μ b≠.no:=λh=>by{rw[p1.old b cc h] at q;cases q};obtain⟨c0,p0,an,z0,bm⟩:∃c0 p0 an z0,μ b=.at c0 p0 an z0:=by{cases hm:μ b with|no=>exact absurd hm b3|dead=>have:=hr.ded b hm;rw[g1] at this;injection this with this;subst this;exact k1.elim|«at» c0 p0 an z0=>exact⟨_,_,_,_,rfl⟩};obtain⟨o0,U,k0⟩:=hr.obj b _ _ _ _ bm;rw[g1] at U;injection U with U;subst U;exact k0.swap bd k1};{exact absurd Q h3};{rw[Z] at g1;injection g1 with g1;subst g1;obtain⟨q1,q2,aS,q3,q4,q5,q6⟩:=k1;rw[bS] at q5 q6;exact⟨_,Q,q1,q2,aS,q3,q4,q5,qJ ag a3 a4 q6⟩}};{obtain⟨e,z',cs,Q,Z,a3,a4⟩:=A.new b cc F;rw[Z] at g1;injection g1 with g1;subst g1;obtain⟨q1,q2,aS,q3,q4,q5,q6⟩:=k1;rw[bS] at q5 q6;exact⟨_,Q,q1,q2,aS,q3,q4,q5,qJ ag a3 a4 q6⟩}};{intro i hi;have bt:=hr.glob i hi;have T:=hr.lt i (by grind);have F:=r1.glob i hi;have e0:=A.s0 i T;rcases ag i (cu T A.hn) with e|e;{rw[e,e0];exact F};{have hd:O.get i=some .dead:=by{grind};rw[A.low i Om T] at hd;obtain⟨o,g,k⟩:=hr.obj i _ _ _ _ bt;rw[hd] at g;injection g with g;subst g;exact k.elim}};{intro b I;have T:b<O.n:=Kq λh=>by{rw[bo b h] at I;cases I};by_cases q:O.get b=some .dead/\E (V b)≠.no;{exact q.1};{rw[a9 b T q] at I;have hd:=r1.ded _ I;rcases cW b H.n with cc|cc;{rw[A.s0 b cc] at hd;rcases A.old b cc with⟨Q,Z⟩|⟨_,Q⟩|⟨_,_,e,z',cs,Q,Z,_⟩<;>grind};{obtain⟨e,z',cs,Q,Z,_⟩:=A.new b cc T;grind}}};{intro b I h;exact b4 b (cu I A.hn) (by rw[A.s0 b I];exact p1.old b I h)};{intro b I ad;have hl:=p1.low b I ad;have hg:=A.low b I ad;refine⟨?_,hg⟩;have a5:=cu ad A.hn;by_cases q:O.get b=some .dead/\E (V b)≠.no;{rw[bn b a5 q.1 q.2];have h3:=q.2;rw[A.s0 b ad,hl.1] at h3;cases hm:μ b with|no=>exact absurd hm h3|dead=>rfl|«at» c0 p0 an z0=>obtain⟨o0,U,k0⟩:=hr.obj b _ _ _ _ hm;rw[<-hg,q.1] at U;injection U with U;subst U;exact k0.elim};{rw[a9 b a5 q,A.s0 b ad];exact hl.1}};{rintro b I ⟨o,F,q⟩;rcases A.old b I with⟨Q,_⟩|⟨_,Q⟩|⟨_,a0,_⟩;{exact⟨o,by rw[<-Q];exact F,q⟩};{rw[Q] at F;injection F with F;subst F;cases q};{exact a0}};{intro b c p ez z I e;obtain⟨F,q,_⟩:=ay _ _ _ _ _ e;exact p1.new _ c p ez z (A.s1 b I F).1 q};{intro b F q;have:=A.s1 b F q;have h3:=p1.full _ this.1 this.2;grind}
def YM{f:FuncId}{fn:IFn}(A:ju P f=some fn){args:List IV}{H Hs:Heap}{v:List IV}(aS:g0<=lo){NC:Prop}(bc:∀(μ:Mu)(w:World)(q:Array Value),Rel P g0 μ H.get H.n w->VRs μ args q.toList->NC)(Q:NC->∀F c,P.funcs[f]? =some F->F.body=some c->bg P c=some fn.body->NItem P g0 lo (.code c) none ⟨args++dZ (fn.ntmps - args.length),[]⟩ H λo H'=>∃e I,o=.ex e I/\(∀id,e≠.jmp (.exit id))/\I.marks=[]/\ ∃σ,aY H' I.tm fn.results=some [.agg (v.map (EL σ))]/\v.all Xf=true/\(∀c∈v,nmC Hs.n c)/\FixOk lo H H' Hs σ):CallSim P g0 f args lo H (.agg v) Hs:=by unfold ju at A;cases Z:P.funcs[f]? with|none=>rw[Z] at A;cases A|some F=>rw[Z] at A;simp only at A;split at A;{cases A};{cases hb:F.body with|none=>rw[hb] at A;cases A|some c=>rw[hb] at A;simp only at A;cases E:F.results.toList.mapM (Cf P) with|none=>rw[E] at A;cases A|some bw=>cases T:bg P c with|none=>rw[E,T] at A;cases A|some ic=>rw[E,T] at A;injection A with A;subst A;intro μ w q hr ha cs;have hs:=Q (bc μ w q hr ha) F c Z hb T;have ht:VRs μ (args++dZ (F.ntmps - args.length)) (q++Array.replicate (F.ntmps - q.size) undef).toList:=by{have hl:args.length=q.size:=by{have:=ha.length;simpa using this};rw[hl,ER,Array.toList_replicate];exact ha.append (sX _)};obtain⟨e,bt,H1,bo,w1,t1,an,⟨e',I,ay,he,a9,σ,hv,bl,bd,aE⟩,a1,a2,a3,a4,a5⟩:=hs μ w _ none [] hr ht rfl rfl f [] cs;injection ay with q1 q2;subst q1 q2;rw[a9] at a4;have a4:an=[]:=a4;subst a4;have O:Frame.enter P f q .normal=cj f none (q++Array.replicate (F.ntmps - q.size) undef) [] [.code c]:=by{simp[Frame.enter,cj,Z,hb]};have a6:∃todo,Steps P (lone (Frame.enter P f q .normal) cs w) (lone (UV f t1 [] todo) cs w1):=by{rw[O];cases e with|normal=>exact⟨[],Steps.trans a5 (.one (yR (.inl rfl)))⟩|jmp j=>cases j with|exit id=>exact absurd rfl (he id)|ret=>obtain⟨pre,b1,_⟩:=a5;exact⟨_,Steps.trans b1 (.one (yR (.inr ⟨_,rfl⟩)))⟩};obtain⟨todo,bn⟩:=a6;obtain⟨v',ag,V⟩:=wX a1 a3 E hv;have V:VR bo (.agg (v.map (EL σ))) v':=V;obtain⟨m2,ad,U,bm⟩:=aa7 aS hr a1 a2 aE;refine⟨.returned v',w1,UV f t1 [] todo,⟨v',m2,rfl,ad,U,?_⟩,bn,rfl,rfl,rfl,rfl,F,Z,ag⟩;obtain⟨l',e',a0⟩:=V;exact⟨l',e',qJ bm bl bd a0⟩}
noncomputable def qi(P:Program)(g0:Nat)(f:FuncId)(C:List IV->Heap->Option (IV×Heap)):List IV->Nat->Heap->Option (IV×Heap):=λargs lo H=>match C args H with|some (v,H')=>if Keep lo H H'/\CallSim P g0 f args lo H v H' then some (v,H') else none|none=>none
def B1{f:FuncId}{C:List IV->Heap->Option (IV×Heap)}{args:List IV}{H H':Heap}{v:IV}(q:C args H=some (v,H'))(A:Keep lo H H')(hs:CallSim P g0 f args lo H v H'):qi P g0 f C args lo H=some (v,H'):=by simp_all[qi,if_pos]
def KX{f:FuncId}{C:List IV->Heap->Option (IV×Heap)}{args:List IV}{H H':Heap}{v:IV}(h:qi P g0 f C args lo H=some (v,H')):Keep lo H H'/\∀q,q<=lo->qi P g0 f C args q H=some (v,H'):=by unfold qi at h;split at h;{rename_i Q H0 O;split at h;{rename_i A;injection h with h;injection h with F I;subst F I;exact⟨A.1,λq E=>B1 O (A.1.lower E) (A.2.lower E)⟩};{cases h}};{cases h}
def Qz{f:FuncId}{C:List IV->Heap->Option (IV×Heap)}{args:List IV}{H H':Heap}{v:IV}(h:qi P g0 f C args lo H=some (v,H')):CallSim P g0 f args lo H v H':=by grind[qi]
end
end Go.Iso
