/-
  rules of runs over ranges, slices and lists.
-/
import Derived.Test.YtadopgcoggpcdabGreatDoorIsoP6
import Derived.IntWalk
import Derived.Shelf.SlSortCmp.NoneTotal
set_option linter.unusedSimpArgs false
set_option linter.unusedVariables false
set_option maxRecDepth 100000
set_option linter.defProp false
namespace Go.Iso
section
variable {E:Env}{lo:Nat}{rd:Option Nat}{fr:Fr}{H:Heap}{Q:CJ}
def QJ:Option Jmp->Ex|none=>.normal|some j=>.jmp j
def Zc:QJ none=.normal:=rfl
def Zb{j:Jmp}:QJ (some j)=.jmp j:=rfl
def VA(l lo:Nat)(marks:List Nat)(fr:Fr)(Q:CJ)(A:Heap)(ob:Option IObj):Prop:=match ob with|some (.loop st pend tm I q body F)=>st≠.busy/\lo<=l/\Q (.ex (QJ pend) {fr with marks:=marks++fr.marks}) (A.put l (.loop .exhausted pend tm I q body F))|_=>False
def abH(l lo:Nat)(marks:List Nat)(fr:Fr)(Q:CJ):CJ:=λo q=>match o with|.val _=>VA l lo marks fr Q q (q.get l)|_=>False
def agx(E:Env)(lo:Nat)(A:List Nat)(q body:IC)(fr:Fr)(Q:CJ)(g:IV)(e:Nat×List Nat×Heap):Prop:=W E lo (.apply g [.yield e.2.2.n]) (e.2.2.new (.loop .ready none fr.tm A q body e.1)) (abH e.2.2.n lo e.2.1 fr Q)
def abG{l:Nat}{marks:List Nat}{v:IV}:abH l lo marks fr Q (.val v) H=VA l lo marks fr Q H (H.get l):=rfl
def abF{l:Nat}{marks:List Nat}{st:LoopState}{pend:Option Jmp}{tm:List IV}{F:List Nat}{q body:IC}{A:Nat}:VA l lo marks fr Q H (some (.loop st pend tm F q body A))=(st≠.busy/\lo<=l/\Q (.ex (QJ pend) {fr with marks:=marks++fr.marks}) (H.put l (.loop .exhausted pend tm F q body A))):=rfl
def acG{f:IA}{Z:List Nat}{F body:IC}{g:IV}{e:Nat×List Nat×Heap}(hg:f.eval E.g0 fr.tm=some g)(he:lY rd H=some e):W E lo (.code (.rfn f Z F body) rd fr) H Q=agx E lo Z F body fr Q g e:=by obtain⟨df,marks,H1⟩:=e;refine propext ⟨?_,?_⟩;{rintro⟨n,o,H',h,hq⟩;cases n with|zero=>cases h|succ n=>rw[run] at h;simp only[hg,he] at h;cases U:run E n (.apply g [.yield H1.n]) lo (H1.new (.loop .ready none fr.tm Z F body df)) with|none=>rw[U] at h;cases h|some p=>rw[U] at h;obtain⟨o1,J⟩:=p;refine⟨n,o1,J,U,?_⟩;cases o1 with|ex e fr=>cases h|val v=>simp only at h;show VA _ _ _ _ _ _ _;cases O:J.get H1.n with|none=>rw[O] at h;cases h|some ob=>rw[O] at h;cases ob with|loop st pend tm T A q K=>(simp only at h;split at h;{cases h};{rename_i hn;refine⟨λe=>hn (.inl e),Nat.le_of_not_lt λe=>hn (.inr e),?_⟩;cases pend with|none=>injection h with h;injection h with V Y;subst V Y;exact hq|some j=>injection h with h;injection h with V Y;subst V Y;exact hq})|_=>cases h};{intro h;refine afk hg he (h.mono λo J h=>?_);cases o with|ex e fr=>exact h.elim|val v=>have I:VA H1.n lo marks fr Q J (J.get H1.n):=h;cases O:J.get H1.n with|none=>rw[O] at I;exact I.elim|some ob=>rw[O] at I;cases ob with|loop st pend tm T A q K=>exact⟨v,st,pend,tm,T,A,q,K,rfl,rfl,I.1,I.2.1,by cases pend<;>exact I.2.2⟩|_=>exact I.elim}
def acH{f:IA}{F:List Nat}{q body:IC}:W E lo (.code (.rfn f F q body) none fr) H Q=qp (f.eval E.g0 fr.tm) λg=>W E lo (.apply g [.yield (H.n+1)]) ((H.new .deferred).new (.loop .ready none fr.tm F q body H.n)) (abH (H.n+1) lo [H.n] fr Q):=by cases A:f.eval E.g0 fr.tm with|none=>(refine propext ⟨?_,λh=>h.elim⟩;rintro⟨n,o,H',h,I⟩;cases n with|zero=>cases h|succ n=>rw[run] at h;simp only[A] at h;cases h)|some g=>exact acG A (e:=(H.n,[H.n],H.new .deferred)) rfl
def GW(l:Nat)(Q:CJ)(e:Ex)(H:Heap)(ob:Option IObj):Prop:=match ob with|some (.loop _ _ tm F q body A)=>(match e with|.normal=>Q (.val (.bool true)) (H.put l (.loop .ready none tm F q body A))|.jmp j=>Q (.val (.bool false)) (H.put l (.loop .done (some j) tm F q body A)))|_=>False
def UI(l:Nat)(Q:CJ):CJ:=λo H=>match o with|.ex e _=>GW l Q e H (H.get l)|_=>False
def D5(E:Env)(lo l:Nat)(body:IC)(Q:CJ)(fr:Fr)(H:Heap)(ob:Option IObj):Prop:=match ob with|some (.loop .ready pend tm I A q F)=>W E lo (.code body (some l) fr) (H.put l (.loop .busy pend tm I A q F)) (UI l Q)|_=>False
def OR(E:Env)(lo l:Nat)(body:IC)(Q:CJ):CJ:=λo H=>match o with|.ex .normal fr=>D5 E lo l body Q fr H (H.get l)|_=>False
def TX(E:Env)(lo l:Nat)(args:List IV)(Q:CJ)(H:Heap)(ob:Option IObj):Prop:=match ob with|some (.loop _ _ tm A q body _)=>args.length=A.length/\lo<=l/\W E lo (.code q (some l) ⟨i2 tm A args,[]⟩) H (OR E lo l body Q)|_=>False
def Yw{l:Nat}{e:Ex}:UI l Q (.ex e fr) H=GW l Q e H (H.get l):=rfl
def Yt{l:Nat}{st:LoopState}{pend:Option Jmp}{tm:List IV}{F:List Nat}{q body:IC}{A:Nat}:GW l Q .normal H (some (.loop st pend tm F q body A))=Q (.val (.bool true)) (H.put l (.loop .ready none tm F q body A)):=rfl
def Yu{l:Nat}{j:Jmp}{st:LoopState}{pend:Option Jmp}{tm:List IV}{F:List Nat}{q body:IC}{A:Nat}:GW l Q (.jmp j) H (some (.loop st pend tm F q body A))=Q (.val (.bool false)) (H.put l (.loop .done (some j) tm F q body A)):=rfl
def VG{l:Nat}{body:IC}:OR E lo l body Q (.ex .normal fr) H=D5 E lo l body Q fr H (H.get l):=rfl
def VF{l:Nat}{body q:IC}{pend:Option Jmp}{tm:List IV}{I:List Nat}{A:IC}{F:Nat}:D5 E lo l body Q fr H (some (.loop .ready pend tm I A q F))=W E lo (.code body (some l) fr) (H.put l (.loop .busy pend tm I A q F)) (UI l Q):=rfl
def TW{l:Nat}{args:List IV}{st:LoopState}{pend:Option Jmp}{tm:List IV}{A:List Nat}{q body:IC}{F:Nat}:TX E lo l args Q H (some (.loop st pend tm A q body F))=(args.length=A.length/\lo<=l/\W E lo (.code q (some l) ⟨i2 tm A args,[]⟩) H (OR E lo l body Q)):=rfl
def Gc{l:Nat}{args:List IV}:W E lo (.apply (.yield l) args) H Q=TX E lo l args Q H (H.get l):=by refine propext ⟨?_,?_⟩;{rintro⟨n,o,H',h,hq⟩;cases n with|zero=>cases h|succ n=>rw[run] at h;(try simp only at h);cases hg:H.get l with|none=>rw[hg] at h;cases h|some ob=>rw[hg] at h;cases ob with|loop st pend tm ps ad body df=>simp only at h;split at h;{rename_i hl;refine⟨hl.1,hl.2,?_⟩;cases h1:run E n (.code ad (some l) ⟨i2 tm ps args,[]⟩) lo H with|none=>rw[h1] at h;cases h|some p=>rw[h1] at h;obtain⟨o1,H1⟩:=p;refine⟨n,o1,H1,h1,?_⟩;cases o1 with|val v=>cases h|ex e fr=>cases e with|jmp j=>cases h|normal=>simp only at h;show D5 _ _ _ _ _ _ _ _;simp only[mT] at h;cases hb:H1.get l with|none=>rw[hb] at h;cases h|some O=>rw[hb] at h;cases O with|loop V F a1 a0 I A aE=>(cases V with|ready=>(simp only at h;cases h2:run E n (.code body (some l) fr) lo (H1.put l (.loop .busy F a1 a0 I A aE)) with|none=>rw[h2] at h;cases h|some p=>rw[h2] at h;obtain⟨o3,Y⟩:=p;refine⟨n,o3,Y,h2,?_⟩;cases o3 with|val v=>cases h|ex e fr3=>simp only[GC] at h;show GW _ _ _ _ _;cases K:Y.get l with|none=>rw[K] at h;cases h|some T=>rw[K] at h;cases T with|loop a4 U Oe a3 ap J a2=>(cases e with|normal=>injection h with h;injection h with h3 h4;subst h3 h4;exact hq|jmp j=>injection h with h;injection h with h3 h4;subst h3 h4;exact hq)|_=>cases h)|_=>cases h)|_=>cases h};{cases h}|_=>cases h};{intro h;cases hg:H.get l with|none=>rw[hg] at h;exact h.elim|some ob=>rw[hg] at h;cases ob with|loop st pend tm ps ad body df=>(obtain⟨h1,h2,h3⟩:=h;refine Z8 hg h1 h2 (h3.mono λo H1 h=>?_);cases o with|val v=>exact h.elim|ex e fr=>cases e with|jmp j=>exact h.elim|normal=>have Z:D5 E lo l body Q fr H1 (H1.get l):=h;cases hb:H1.get l with|none=>rw[hb] at Z;exact Z.elim|some O=>rw[hb] at Z;cases O with|loop V F a1 a0 I A aE=>(cases V with|ready=>(refine⟨fr,_,rfl,by simp only[mT,hb],W.mono Z λo Y h=>?_⟩;cases o with|val v=>exact h.elim|ex e fr3=>have q:GW l Q e Y (Y.get l):=h;cases K:Y.get l with|none=>rw[K] at q;exact q.elim|some T=>rw[K] at q;cases T with|loop a4 U Oe a3 ap J a2=>(cases e with|normal=>exact⟨_,_,(_,_),rfl,by simp only[GC,K];rfl,q⟩|jmp j=>exact⟨_,_,(_,_),rfl,by simp only[GC,K];rfl,q⟩)|_=>exact q.elim)|_=>exact Z.elim)|_=>exact Z.elim)|_=>exact h.elim}
def aey(I:Nat->Fr->Heap->Prop)(k:Nat)(Q:CJ):CJ:=λo H=>match o with|.ex .normal fr=>∃q,q<k/\I q fr H|o=>Q o H
def aC{c:IC}(I:Nat->Fr->Heap->Prop)(h:∀k fr H,I k fr H->∀L:CJ,(∀q fr H,q<k->I q fr H->L (.ex .normal fr) H)->(∀j fr H,L (.ex (.jmp j) fr) H=Q (.ex (.jmp j) fr) H)->W E lo (.code c rd fr) H L):∀(k:Nat){fr:Fr}{H:Heap},I k fr H->W E lo (.code (.loop c) rd fr) H Q:=by intro k;induction k using Nat.strongRecOn with|ind k V=>intro fr H T;rw[sI];refine(h k fr H T (aey I k Q) (λq fr H K O=>⟨q,K,O⟩) (λj fr H=>rfl)).mono λo H' A=>?_;cases o with|val v=>exact A|ex e J=>cases e with|jmp j=>exact A|normal=>obtain⟨q,U,F⟩:=A;exact V q U F
end
def ahe{a b:Nat}(h:b<a):(a=b)=False:=by simp;omega
def ahd{a b:Nat}(h:a<b):(a=b)=False:=by simp;omega
def cLe{a b:Nat}(h:a<=b):(a<=b)=True:=by simp[h]
def ahc{a b:Nat}(h:b<a):(a<=b)=False:=by simp;omega
def cLt{a b:Nat}(h:a<b):(a<b)=True:=by simp[h]
def ahb{a b:Nat}(h:b<=a):(a<b)=False:=by simp;omega
def iLe{a b:Int}(h:a<=b):(a<=b)=True:=by simp[h]
def agM{a b:Int}(h:b<a):(a<=b)=False:=by simp;omega
def iLt{a b:Int}(h:a<b):(a<b)=True:=by simp[h]
def agL{a b:Int}(h:b<=a):(a<b)=False:=by simp;omega
def iGe{a b:Int}(h:a>=b):(a>=b)=True:=by simp;omega
def agO{a b:Int}(h:a<b):(a>=b)=False:=by simp;omega
def iGt{a b:Int}(h:a>b):(a>b)=True:=by simp;omega
def agN{a b:Int}(h:a<=b):(a>b)=False:=by simp;omega
def agQ{a b:Int}(h:a=b):(a==b)=true:=by simp[h]
def aeL{a b:Int}(h:a<b\/b<a):(a==b)=false:=by simp;omega
def agP{a b:Int}(h:a<b\/b<a):(a !=b)=true:=by simp;omega
def aeK{a b:Int}(h:a=b):(a !=b)=false:=by simp[h]
def ad8{a:Int}(h: -9223372036854775808<=a/\a<=9223372036854775807):IntKind.i64.wrap a=a:=IntWalk.i64_in a Om
def wU8{a:Int}(h:0<=a/\a<=255):IntKind.u8.wrap a=a:=IntWalk.u8_in a h
def P0{l:List IV}:(IV.agg l).cells=l:=rfl
def PZ{k:IntKind}{n:Int}:(IV.int k n).cells=[.int k n]:=rfl
def NJ{b:Bool}:(IV.bool b).cells=[.bool b]:=rfl
def PW{s:List UInt8}:(IV.str s).cells=[.str s]:=rfl
def PX{b o:Nat}:(IV.ptr b o).cells=[.ptr b o]:=rfl
def GF:IV.nilPtr.cells=[.nilPtr]:=rfl
def K2{b o n c:Nat}{ex:Bool}:(IV.slice b o n c ex).cells=[.slice b o n c ex]:=rfl
def Cc:IV.nilSlice.cells=[.nilSlice]:=rfl
def PY{b:Nat}:(IV.map b).cells=[.map b]:=rfl
def GG:IV.nilMap.cells=[.nilMap]:=rfl
def Tx{f:FuncId}{a b:List IV}:(IV.fn f a b).cells=[.fn f a b]:=rfl
def K1{b:Nat}:(IV.yield b).cells=[.yield b]:=rfl
def FV:IV.nilFunc.cells=[.nilFunc]:=rfl
def K3{t:TypeId}{v:IV}:(IV.iface t v).cells=[.iface t v]:=rfl
def Cd:IV.nilIface.cells=[.nilIface]:=rfl
def EJ{k:IntKind}{n:Int}:(IV.int k n).one=true:=rfl
def AN{b:Bool}:(IV.bool b).one=true:=rfl
def VZ{s:List UInt8}:(IV.str s).one=true:=rfl
def V0{b o:Nat}:(IV.ptr b o).one=true:=rfl
def Mg:IV.nilPtr.one=true:=rfl
def O6{b o n c:Nat}{ex:Bool}:(IV.slice b o n c ex).one=true:=rfl
def Gu:IV.nilSlice.one=true:=rfl
def V1{b:Nat}:(IV.map b).one=true:=rfl
def Mh:IV.nilMap.one=true:=rfl
def Zf{f:FuncId}{a b:List IV}:(IV.fn f a b).one=true:=rfl
def O5{b:Nat}:(IV.yield b).one=true:=rfl
def Kl:IV.nilFunc.one=true:=rfl
def O7{t:TypeId}{v:IV}:(IV.iface t v).one=true:=rfl
def Gv:IV.nilIface.one=true:=rfl
def VJ(ob:IObj)(o n:Nat):Option (List IV):=match ob with|.cells _ _ _ cs=>if o+n<=cs.length then some ((cs.drop o).take n) else none|_=>none
def Y8{q:Bool}{e ez:Nat}{cs:List IV}{o n:Nat}:VJ (.cells q e ez cs) o n=if o+n<=cs.length then some ((cs.drop o).take n) else none:=rfl
def VI{H:Heap}{ob:IObj}{b o n:Nat}:(H.new ob).read b o n=if H.n=b then VJ ob o n else H.read b o n:=by unfold Heap.read;rw[ak];by_cases h:H.n=b;{simp only[h,if_true];cases ob<;>rfl};{simp[h]}
def VH{H:Heap}{ob:IObj}{b' b o n:Nat}:(H.put b' ob).read b o n=if b'=b then VJ ob o n else H.read b o n:=by unfold Heap.read;rw[aa];by_cases h:b'=b;{simp only[h,if_true];cases ob<;>rfl};{simp[h]}
def ae{H:Heap}{q:Bool}{e ez:Nat}{cs:List IV}{b:Nat}(h:H.get b=some (.cells q e ez cs))(o n:Nat):H.read b o n=if o+n<=cs.length then some ((cs.drop o).take n) else none:=by unfold Heap.read;rw[h]
def QD{H H':Heap}{b:Nat}(h:H'.get b=H.get b)(o n:Nat):H'.read b o n=H.read b o n:=by unfold Heap.read;rw[h]
def Keep.read{lo:Nat}{H H':Heap}(k:Keep lo H H')(b o n:Nat)(q:b<lo)(A:b<H.n):H'.read b o n=H.read b o n:=QD (k.2 b q A) o n
inductive SV where
 | nil
 | sl (b o n c:Nat) (ex:Bool)
 deriving Inhabited
def SV.iv:SV->IV|.nil=>.nilSlice|.sl b o n c ex=>.slice b o n c ex
def SV.blk:SV->Nat|.nil=>0|.sl b _ _ _ _=>b
def SV.off:SV->Nat|.nil=>0|.sl _ o _ _ _=>o
def SV.tight:SV->Prop|.nil=>True|.sl _ _ n c ex=>c=n/\ex=true
def oN(v:SV):v.iv.one=true:=by cases v<;>rfl
def NY(v:SV):v.iv.cells=[v.iv]:=by cases v<;>rfl
def Ix:SV.nil.iv=.nilSlice:=rfl
def jX{b o n c:Nat}{ex:Bool}:(SV.sl b o n c ex).iv=.slice b o n c ex:=rfl
class Cell (α:Type) where
 z:Nat
 cs:α→List IV
 len:∀a,(cs a).length=z
 one:∀a,(cs a).all IV.one=true
 pos:0 < z
instance:Cell SV where
 z:=1
 cs v:=[v.iv]
 len _:=rfl
 one v:=by simp[oN]
 pos:=by omega
theorem eJ(v:SV):Cell.cs v=[v.iv]:=rfl
def dh:Cell.z SV=1:=rfl
def oO{b o n c:Nat}{ex:Bool}:(SV.sl b o n c ex).blk=b:=rfl
def Be{b o n c:Nat}{ex:Bool}:(SV.sl b o n c ex).off=o:=rfl
section
variable {α:Type}[Cell α]
def ax(l:List α):List IV:=l.flatMap Cell.cs
def MY:ax ([]:List α)=[]:=rfl
theorem bL(a:α)(l:List α):ax (a::l)=Cell.cs a++ax l:=rfl
theorem jb(a b:List α):ax (a++b)=ax a++ax b:=by simp[ax]
def MX(a:α):ax [a]=Cell.cs a:=by simp[ax]
def ay(l:List α):(ax l).length=l.length*Cell.z α:=by induction l with|nil=>simp[ax]|cons p l q=>rw[bL,bm,q,Cell.len,ct,i4];omega
def nD(l:List α):(ax l).all IV.one=true:=by induction l with|nil=>rfl|cons p l q=>rw[bL,List.all_append,q,Cell.one];rfl
theorem vQ(l:List α)(k:Nat):(ax l).drop (k*Cell.z α)=ax (l.drop k):=by induction l generalizing k with|nil=>simp[ax]|cons p l q=>cases k with|zero=>simp|succ k=>rw[bL,List.drop_succ_cons,i4,Nat.add_comm,<-Cell.len p,List.drop_length_add_append,Cell.len,q]
theorem Ib(l:List α)(k:Nat):(ax l).take (k*Cell.z α)=ax (l.take k):=by induction l generalizing k with|nil=>simp[ax]|cons p l q=>cases k with|zero=>simp[ax]|succ k=>rw[bL,Ke,bL,i4,Nat.add_comm,<-Cell.len p,List.take_length_add_append,Cell.len,q]
def ZL(l:List α)(i:Nat)(h:i<l.length):((ax l).drop (i*Cell.z α)).take (Cell.z α)=Cell.cs l[i]:=by grind[vQ,List.drop_eq_getElem_cons,bL,Cell.len,List.take_left]
def cn{H:Heap}{b o n a m:Nat}{cs:List IV}(h:H.read b o n=some cs)(E:a+m<=n):H.read b (o+a) m=some ((cs.drop a).take m):=by unfold Heap.read at h⊢;cases q:H.get b with|none=>rw[q] at h;cases h|some ob=>rw[q] at h;cases ob with|cells F e ez A=>simp only at h⊢;split at h;{injection h with h;rw[iP,<-h,List.drop_take,List.take_take,ug,show min m (n - a)=m from by omega]};{cases h}|_=>cases h
def Sl(H:Heap)(v:SV)(l:List α):Prop:=match v with|.nil=>l=[]|.sl b o n c _=>n=l.length/\n<=c/\(l≠[]->b<H.n/\H.read b o (l.length*Cell.z α)=some (ax l))
def Sl.keep{H H':Heap}{v:SV}{l:List α}(h:Sl H v l)(k:Keep H.n H H'):Sl H' v l:=by cases v with|nil=>exact h|sl b o n c ex=>exact⟨h.1,h.2.1,λq=>⟨bW (h.2.2 q).1 k.1,(k.read b o _ (h.2.2 q).1 (h.2.2 q).1).trans (h.2.2 q).2⟩⟩
def Sl.same{H H':Heap}{v:SV}{l:List α}(h:Sl H v l)(hn:H.n<=H'.n)(A:l≠[]->H'.get v.blk=H.get v.blk):Sl H' v l:=by cases v with|nil=>exact h|sl b o n c ex=>exact⟨h.1,h.2.1,λq=>⟨bW (h.2.2 q).1 hn,(QD (A q) o _).trans (h.2.2 q).2⟩⟩
def Sl.blk_lt{H:Heap}{v:SV}{l:List α}(h:Sl H v l)(q:l≠[]):v.blk<H.n:=by cases v with|nil=>exact absurd h q|sl b o n c ex=>exact(h.2.2 q).1
def Sl.blk_lt'{H:Heap}{v:SV}{l:List α}(h:Sl H v l){i:Nat}(q:i<l.length):v.blk<H.n:=h.blk_lt (by grind)
def Sl.empty{H:Heap}:Sl H .nil ([]:List α):=rfl
def Sl.ln{H:Heap}{v:SV}{l:List α}(h:Sl H v l)(lo:Nat)(H':Heap):ev1 .lenSl [v.iv] lo H'=some (.int .i64 l.length,H'):=by cases v with|nil=>have h:l=[]:=h;subst h;rfl|sl b o n c ex=>rw[<-h.1];rfl
def Sl.lenI{H:Heap}{v:SV}{l:List α}(h:Sl H v l):pG v.iv=some l.length:=by cases v with|nil=>have h:l=[]:=h;subst h;rfl|sl b o n c ex=>rw[<-h.1];rfl
def Sl.srcI{H:Heap}{v:SV}{l:List α}(h:Sl H v l){z:Nat}(A:Cell.z α=z):kK H z l.length v.iv=some (ax l):=by subst A;cases v with|nil=>have h:l=[]:=h;subst h;rfl|sl b o n c ex=>show(if l.length=0 then some [] else H.read b o (l.length*Cell.z α))=_;by_cases q:l=[];{subst q;rfl};{rw[if_neg (by grind)];exact(h.2.2 q).2}
def Sl.idx{H:Heap}{v:SV}{l:List α}(h:Sl H v l)(z:Nat)(x:Int)(lo:Nat)(H':Heap)(h0:0<=x)(q:x<l.length):ev1 (.idxSl z) [v.iv,.int .i64 x] lo H'=some (.ptr v.blk (v.off+x.toNat*z),H'):=by cases v with|nil=>have h:l=[]:=h;subst h;simp at q;omega|sl b o n c ex=>have hn:=h.1;simp only[ev1,SV.iv,SV.blk,SV.off];rw[if_pos ⟨h0,Om⟩]
def Sl.read{H:Heap}{v:SV}{l:List α}(h:Sl H v l){z:Nat}(E:Cell.z α=z)(i:Nat)(q:i<l.length):H.read v.blk (v.off+i*z) z=some (Cell.cs l[i]):=by subst E;have A:l≠[]:=by{grind};cases v with|nil=>exact absurd h A|sl b o n c ex=>have:=cn (a:=i*Cell.z α) (m:=Cell.z α) (h.2.2 A).2 (by rw[<-i4];exact td _ q);rw[ZL l i q] at this;exact this
def Sl.part{H:Heap}{b o n c:Nat}{ex:Bool}{l:List α}(h:Sl H (.sl b o n c ex) l){z:Nat}(I:Cell.z α=z){a m c':Nat}{ex':Bool}(hm:a+m<=l.length)(F:m<=c'):Sl H (.sl b (o+a*z) m c' ex') ((l.drop a).take m):=by subst I;have A:((l.drop a).take m).length=m:=by{rw[cN,oZ];omega};refine⟨A.symm,F,λE=>?_⟩;have q:l≠[]:=by{intro e;rw[e] at E;simp at E};refine⟨(h.2.2 q).1,?_⟩;have:=cn (a:=a*Cell.z α) (m:=m*Cell.z α) (h.2.2 q).2 (by rw[<-xj];exact td _ hm);grind[vQ,Ib]
def LU(n:Nat)(a:α):qU n (Cell.cs a)=ax (List.replicate n a):=by induction n with|zero=>rfl|succ n q=>rw[qU,q,Kc,bL]
def MW(l:List α)(i:Nat)(a:α)(h:i<l.length):aB (ax l) (i*Cell.z α) (Cell.cs a)=ax (l.set i a):=by have q:i*Cell.z α+Cell.z α<=(ax l).length:=by{rw[ay,<-i4];exact td _ h};rw[eu _ _ _ (by rw[Cell.len];exact q),Ib,Cell.len,<-i4,vQ,List.set_eq_take_append_cons_drop,if_pos h];rw[jb,bL,cC]
def cv(tm:List IV)(n:Nat)(h:tm.length=n):tm=(List.range n).map λi=>tm.getD i UN:=by subst h;apply oj<;>grind
def Own(H:Heap)(b e cap:Nat)(l:List α):Prop:=l.length<=cap/\b<H.n/\∃r,H.get b=some (.cells false e (Cell.z α) (ax l++r))/\r.length=(cap - l.length)*Cell.z α
def Own.sl{H:Heap}{b e cap:Nat}{l:List α}(h:Own H b e cap l)(ex:Bool):Sl H (.sl b 0 l.length cap ex) l:=by obtain⟨q,A,r,E,F⟩:=h;refine⟨rfl,q,λ_=>⟨A,?_⟩⟩;rw[ae E,bB,if_pos (by rw[bm,ay];omega),qZ,<-ay,List.take_left]
def Own.same{H H':Heap}{b e cap:Nat}{l:List α}(h:Own H b e cap l)(hn:H.n<=H'.n)(I:H'.get b=H.get b):Own H' b e cap l:=by obtain⟨q,A,r,E,F⟩:=h;exact⟨q,bW A hn,r,I.trans E,F⟩
def Own.keep{H H':Heap}{b e cap:Nat}{l:List α}(h:Own H b e cap l)(k:Keep H.n H H'):Own H' b e cap l:=h.same k.1 (k.2 b h.2.1 h.2.1)
def Own.full{H:Heap}{b e:Nat}{l:List α}(h:Own H b e l.length l):H.get b=some (.cells false e (Cell.z α) (ax l)):=by obtain⟨q,A,r,E,F⟩:=h;grind
def b9{H:Heap}{b e:Nat}{l:List α}(q:b<H.n){z:Nat}(F:Cell.z α=z){cs:List IV}(E:H.get b=some (.cells false e z cs))(A:cs=ax l):Own H b e l.length l:=by subst F A;exact⟨am _,q,[],by rw[E,gS],by simp⟩
def Own.mksl{H:Heap}{e n:Nat}{z:Nat}(q:Cell.z α=z)(a:α):Own (H.new (.cells false e z (qU n (Cell.cs a)))) H.n e n (List.replicate n a):=by subst q;refine⟨by simp,by rw[ac];omega,[],by rw[ak,if_pos rfl,gS,LU],by simp⟩
def Bf{H:Heap}{e n:Nat}{z:Nat}(A:Cell.z α=z){cs:List IV}(q:cs.length=n*z):Own (H.new (.cells false e z cs)) H.n e n ([]:List α):=by subst A;exact⟨by simp,by rw[ac];omega,cs,by rw[ak,if_pos rfl];rfl,by simp[q]⟩
def Own.set{H:Heap}{b e cap:Nat}{l:List α}(h:Own H b e cap l){z:Nat}(O:Cell.z α=z)(i:Nat)(A:i<l.length)(a:α)(lo:Nat)(q:lo<=b):∃cs,H.write lo b (i*z) (Cell.cs a)=some (H.put b (.cells false e z cs))/\Own (H.put b (.cells false e z cs)) b e cap (l.set i a):=by subst O;obtain⟨E,F,r,I,J⟩:=h;have K:=ay l;have T:i*Cell.z α+Cell.z α<=l.length*Cell.z α:=by{rw[<-i4];exact td _ A};refine⟨aB (ax l++r) (i*Cell.z α) (Cell.cs a),?_,?_⟩;{unfold Heap.write;rw[I];simp only;rw[if_pos ⟨q,by rw[Cell.len,bm];omega,Cell.one a⟩]};{refine⟨by simp[E],F,r,?_,by simp[J]⟩;rw[aa,if_pos rfl,<-MW l i a A,eu _ _ _ (by rw[Cell.len,bm];omega),eu _ _ _ (by rw[Cell.len];omega),Cell.len];grind}
def Own.push{H:Heap}{b e cap:Nat}{l m:List α}(h:Own H b e cap l){z:Nat}(J:Cell.z α=z)(T:l.length+m.length<=cap)(lo:Nat)(I:lo<=b):∃cs,H.write lo b (l.length*z) (ax m)=some (H.put b (.cells false e z cs))/\Own (H.put b (.cells false e z cs)) b e cap (l++m):=by subst J;obtain⟨K,F,r,O,E⟩:=h;have A:=ay l;have q:=ay m;have U:(ax m).length<=r.length:=by{rw[q,E];exact td _ Om};refine⟨aB (ax l++r) (l.length*Cell.z α) (ax m),?_,?_⟩;{simp_all[Heap.write,if_pos,bm,nD]};{refine⟨by simp;omega,F,r.drop (ax m).length,?_,?_⟩;{rw[aa,if_pos rfl,eu _ _ _ (by grind),jb,<-A,List.take_left,List.drop_length_add_append]};{rw[oZ,E,q,bm,<-Nat.sub_mul];congr 1;omega}}
end
section
variable {α:Type}[Cell α]
theorem Keep.newPut{H:Heap}{o o':IObj}:Keep H.n H ((H.new o).put H.n o'):=(Keep.new _ _).trans (.put _ _ (am _))
def gj{H:Heap}{v:SV}{l:List α}(E:Sl H v l){z:Nat}(O:Cell.z α=z)(e lo:Nat)(zs:List IV)(I:zs.length=z)(A:lo<=H.n):∃q,ev1 (.copy z) [.slice H.n 0 l.length l.length true,v.iv] lo (H.new (.cells false e z (qU l.length zs)))=some (.int .i64 l.length,q)/\q.n=H.n+1/\Keep H.n H q/\Own q H.n e l.length l:=by subst O;have F:=E.keep (H':=H.new (.cells false e (Cell.z α) (qU l.length zs))) (Keep.new _ _);have J:sA (.slice H.n 0 l.length l.length true)=some l.length:=rfl;by_cases h0:l=[];{subst h0;refine⟨H.new (.cells false e (Cell.z α) []),?_,ac _ _,Keep.new _ _,b9 (l:=[]) (cs:=[]) (by rw[ac];omega) rfl (by rw[ak,if_pos rfl]) rfl⟩;simp only[ev1,J,E.lenI];rfl};{have K:0<l.length:=List.length_pos_iff.2 h0;refine⟨(H.new (.cells false e (Cell.z α) (qU l.length zs))).put H.n (.cells false e (Cell.z α) (ax l)),?_,by rw[af,ac],Keep.newPut,b9 (by rw[af,ac];omega) rfl (by rw[aa,if_pos rfl]) rfl⟩;simp only[ev1,J,E.lenI];rw[Nat.min_self,iN,F.srcI rfl];simp only[bF,Heap.write];rw[ak,if_pos rfl];simp only;have T:(qU l.length zs).length=(ax l).length:=by{rw[dv,I,ay]};rw[if_pos ⟨A,Om,nD l⟩,eu _ _ _ Om];grind}
def Own.put{H:Heap}{b e:Nat}{l:List α}(h:Own H b e l.length l){z:Nat}(A:Cell.z α=z)(i:Nat)(q:i<l.length)(a:α):Own (H.put b (.cells false e z (aB (ax l) (i*z) (Cell.cs a)))) b e l.length (l.set i a):=by subst A;rw[MW l i a q];have:=b9 (H:=H.put b (.cells false e (Cell.z α) (ax (l.set i a)))) (l:=l.set i a) (b:=b) (e:=e) h.2.1 rfl (by rw[aa,if_pos rfl]) rfl;grind
def Xt{H:Heap}{b e n:Nat}{ex:Bool}{d l:List α}{v:SV}(A:Own H b e n d)(K:d.length=n)(E:Sl H v l){z:Nat}(hz:Cell.z α=z)(lo:Nat)(V:l.length<=n)(Z:lo<=b):∃q,ev1 (.copy z) [.slice b 0 n n ex,v.iv] lo H=some (.int .i64 l.length,q)/\q.n=H.n/\(∀x,x≠b->q.get x=H.get x)/\Own q b e n (l++d.drop l.length):=by subst hz K;have F:sA (.slice b 0 d.length d.length ex)=some d.length:=rfl;have O:=A.full;by_cases h0:l=[];{subst h0;refine⟨H,?_,rfl,λ_ _=>rfl,by simpa using A⟩;simp only[ev1,F,E.lenI];rw[if_pos (by simp)];rfl};{have J:0<l.length:=List.length_pos_iff.2 h0;have U:=ay l;have T:=ay d;have Y:(ax l).length<=(ax d).length:=by{simp_all[td]};refine⟨H.put b (.cells false e (Cell.z α) (ax (l++d.drop l.length))),?_,af _ _ _,λx hx=>by rw[aa,if_neg (Ne.symm hx)],?_⟩;{simp only[ev1,F,E.lenI];rw[wH V,iN,E.srcI rfl];simp only[bF,Heap.write,O];simp_all[if_pos,nD,eu,wG,mt,bB,vQ,jb]};{have I:(l++d.drop l.length).length=d.length:=by{rw[bm,oZ];omega};have:=b9 (H:=H.put b (.cells false e (Cell.z α) (ax (l++d.drop l.length)))) (l:=l++d.drop l.length) (b:=b) (e:=e) A.2.1 rfl (by rw[aa,if_pos rfl]) rfl;grind}}
def eP{H:Heap}{b e cap:Nat}{ex:Bool}{l m:List α}{v:SV}(J:Own H b e cap l)(F:Sl H v m){z:Nat}(I:Cell.z α=z)(bytes lo:Nat)(O:l.length+m.length<=cap)(A:lo<=b):∃q,ev1 (.append e z bytes) [.slice b 0 l.length cap ex,v.iv] lo H=some (.slice b 0 (l.length+m.length) cap ex,q)/\q.n=H.n/\(∀b',b'≠b->q.get b'=H.get b')/\Own q b e cap (l++m):=by simp only[ev1,F.lenI,F.srcI I,bF,dg];rw[if_neg (by rw[nD];decide)];by_cases h0:m=[];{grind};{have E:0<m.length:=List.length_pos_iff.2 h0;obtain⟨cs,T,K⟩:=J.push I O lo A;simp_all[af,aa,if_neg,Ne.symm,if_pos,bB]}
def vi{H:Heap}{b e n:Nat}{l m:List α}{v:SV}(T:Own H b e n l)(hn:n=l.length)(I:Sl H v m){z:Nat}(U:Cell.z α=z)(bytes lo:Nat)(hm:m≠[])(K:(l.length+m.length)*(bytes+1)<=2^40)(E:lo<=b):∃q,ev1 (.append e z bytes) [.slice b 0 l.length n false,v.iv] lo H=some (.slice H.n 0 (l.length+m.length) (l.length+m.length) false,q)/\q.n=H.n+1/\(∀b',b'≠b->b'<H.n->q.get b'=H.get b')/\Own q H.n e (l.length+m.length) (l++m):=by subst hn U;have F:0<m.length:=List.length_pos_iff.2 hm;have O:=T.full;simp only[ev1,I.lenI,I.srcI rfl,bF,dg];rw[if_neg (by rw[nD];decide)];rw[iN,iN,if_pos K,O];simp only[jm,if_false];have A:=ay l;rw[if_pos ⟨trivial,trivial,Cell.pos,trivial,E,Om⟩];refine⟨_,rfl,by rw[ac,af],λb' J V=>by rw[ak,if_neg (by rw[af];omega),aa,if_neg (Ne.symm J)],?_⟩;rw[<-A,yk,<-jb,<-bm];exact b9 (by rw[ac,af];omega) rfl (by rw[ak,if_pos (af _ _ _)]) rfl
def xH{H:Heap}{e:Nat}{m:List α}{v:SV}(E:Sl H v m){z:Nat}(I:Cell.z α=z)(bytes lo:Nat)(hm:m≠[])(F:m.length*(bytes+1)<=2^40):∃q,ev1 (.append e z bytes) [.nilSlice,v.iv] lo H=some (.slice H.n 0 m.length m.length false,q)/\q.n=H.n+1/\Keep H.n H q/\Own q H.n e m.length m:=by subst I;have A:0<m.length:=List.length_pos_iff.2 hm;simp only[ev1,E.lenI,E.srcI rfl,bF,dg];rw[if_neg (by rw[nD];decide)];rw[iN,if_pos F];exact⟨_,rfl,ac _ _,Keep.new _ _,b9 (by rw[ac];omega) rfl (by rw[ak,if_pos rfl]) rfl⟩
def nL{H:Heap}{b o n e:Nat}{l m:List α}{v:SV}(hs:Sl H (.sl b o l.length n true) l)(F:Sl H v m){z:Nat}(J:Cell.z α=z)(bytes lo:Nat)(hm:m≠[])(hn:n<l.length+m.length)(I:(l.length+m.length)*(bytes+1)<=2^40):∃A,ev1 (.append e z bytes) [.slice b o l.length n true,v.iv] lo H=some (.slice H.n 0 (l.length+m.length) (l.length+m.length) false,A)/\A.n=H.n+1/\Keep H.n H A/\Own A H.n e (l.length+m.length) (l++m):=by subst J;have E:0<m.length:=List.length_pos_iff.2 hm;have q:=hs.srcI rfl;simp only[SV.iv] at q;simp only[ev1,F.lenI,F.srcI rfl,bF,dg];rw[if_neg (by rw[nD];decide)];rw[iN,iN,if_pos I,if_pos trivial,q];refine⟨_,rfl,ac _ _,Keep.new _ _,?_⟩;rw[<-jb,<-bm];exact b9 (by rw[ac];omega) rfl (by rw[ak,if_pos rfl]) rfl
end
section
variable {α:Type}[Cell α]
def Sl2(H:Heap)(v:SV)(ls:List (List α)):Prop:=∃vs:List SV,Sl H v vs/\vs.length=ls.length/\∀(i:Nat)(h:i<ls.length)(q:i<vs.length),Sl H vs[i] ls[i]
def Sl2.keep{H H':Heap}{v:SV}{ls:List (List α)}(h:Sl2 H v ls)(k:Keep H.n H H'):Sl2 H' v ls:=by obtain⟨vs,q,A,E⟩:=h;exact⟨vs,q.keep k,A,λi a b=>(E i a b).keep k⟩
def Sl2.ln{H:Heap}{v:SV}{ls:List (List α)}(h:Sl2 H v ls)(lo:Nat)(H':Heap):ev1 .lenSl [v.iv] lo H'=some (.int .i64 ls.length,H'):=by obtain⟨vs,q,A,E⟩:=h;rw[q.ln,A]
def Sl2.idx{H:Heap}{v:SV}{ls:List (List α)}(h:Sl2 H v ls)(z:Nat)(x:Int)(lo:Nat)(H':Heap)(h0:0<=x)(A:x<ls.length):ev1 (.idxSl z) [v.iv,.int .i64 x] lo H'=some (.ptr v.blk (v.off+x.toNat*z),H'):=by obtain⟨vs,g1,g2,q⟩:=h;exact g1.idx z x lo H' h0 Om
def Sl2.elem{H:Heap}{v:SV}{ls:List (List α)}(h:Sl2 H v ls)(i:Nat)(A:i<ls.length):∃w:SV,H.read v.blk (v.off+i*1) 1=some [w.iv]/\Sl H w ls[i]/\v.blk<H.n:=by obtain⟨vs,g1,g2,q⟩:=h;exact⟨vs[i]'Om,g1.read (α:=SV) rfl i Om,q i A Om,g1.blk_lt' (i:=i) Om⟩
def Sl2.nil{H:Heap}:Sl2 H .nil ([]:List (List α)):=⟨[],rfl,rfl,λi h=>by simp at h⟩
def Fresh(n0:Nat)(H:Heap)(e:Nat)(v:SV)(l:List α):Prop:=(v=.nil/\l=[])\/∃b,v=.sl b 0 l.length l.length true/\n0<=b/\Own H b e l.length l
def Fresh.sl{n0:Nat}{H:Heap}{e:Nat}{v:SV}{l:List α}(h:Fresh n0 H e v l):Sl H v l:=by rcases h with⟨rfl,rfl⟩|⟨b,rfl,A,q⟩;{exact Sl.empty};{exact q.sl true}
def Fresh.keep{n0:Nat}{H H':Heap}{e:Nat}{v:SV}{l:List α}(h:Fresh n0 H e v l)(k:Keep H.n H H'):Fresh n0 H' e v l:=by rcases h with⟨rfl,rfl⟩|⟨b,rfl,q,A⟩;{exact .inl ⟨rfl,rfl⟩};{exact .inr ⟨b,rfl,q,A.keep k⟩}
end
def Sl.cellsAt{α:Type}[Cell α]{H:Heap}{v:SV}{l:List α}(h:Sl H v l)(F:l≠[]):∃A e ez cs,H.get v.blk=some (.cells A e ez cs):=by cases v with|nil=>exact absurd h F|sl b o n c ex=>have q:=(h.2.2 F).2;unfold Heap.read at q;show ∃A e ez cs,H.get b=_;cases E:H.get b with|none=>rw[E] at q;cases q|some ob=>rw[E] at q;cases ob with|cells A e ez cs=>exact⟨_,_,_,_,rfl⟩|_=>cases q
def Sl.off{α:Type}[Cell α]{H:Heap}{v:SV}{l:List α}(h:Sl H v l)(A:l≠[]){x:Nat}{ob:IObj}(hx:H.get x=some ob)(E:∀q e ez cs,ob≠.cells q e ez cs):v.blk≠x:=by intro e;obtain⟨q,a,b,c,F⟩:=h.cellsAt A;grind
def be{α:Type}:List (List α)->Nat|[]=>0|a::l=>if be l=0/\a=[] then 0 else be l+1
theorem jg{α:Type}:∀l:List (List α),be l<=l.length|[]=>am _|a::l=>by have:=jg l;grind[be,List.length_cons]
def jN{α:Type}:∀(l:List (List α))(i:Nat)(h:i<l.length),be l<=i->l[i]=[]|[],_,h,_=>by simp at h|a::l,0,h,k=>by grind[be]|a::l,i+1,h,k=>by have:be l<=i:=by{grind[be]};exact jN l i (by simpa using h) this
theorem pM{α:Type}:∀(l:List (List α))(n:Nat)(h:n<l.length),be l=n+1->l[n]≠[]|[],_,h,_=>by simp at h|a::l,n,h,k=>by unfold be at k;split at k;{omega};{rename_i hn;cases n with|zero=>simp only[List.getElem_cons_zero];exactλe=>hn ⟨Om,e⟩|succ n=>exact pM l n (by simpa using h) Om}
def tZ{α:Type}{l:List (List α)}{n:Nat}(hn:n<=l.length)(q:∀i (h:i<l.length),n<=i->l[i]=[])(A:∀m (h:m<l.length),n=m+1->l[m]≠[]):n=be l:=by rcases J8 n (be l) with h|h|h;{exfalso;have E:=jg l;exact pM l (be l - 1) Om Om (q _ Om Om)};{exact h};{exfalso;exact A (n - 1) Om Om (jN l _ Om Om)}
section
variable {α:Type}
def lQ(f:Nat->α)(a b n x:Nat):α:=if a<=x/\x<a+n then f (x+b - a) else if b<=x/\x<b+n then f (x+a - b) else f x
def rU(f:Nat->α)(a m b x:Nat):α:=if a<=x/\x<a+(b - m) then f (x+(m - a)) else if a+(b - m)<=x/\x<b then f (x - (b - m)) else f x
def Ox(f:Nat->α)(a b x:Nat):lQ f a b 0 x=f x:=by simp_all[lQ,if_neg]
def Oy{f g:Nat->α}{a b n:Nat}(q:a+n<b)(A:∀x,g x=if x=b+n then lQ f a b n (a+n) else if x=a+n then lQ f a b n (b+n) else lQ f a b n x)(x:Nat):g x=lQ f a b (n+1) x:=by rw[A];unfold lQ;grind
theorem Vy{f g:Nat->α}{m i j:Nat}(I:i<=m)(J:0<j)(F:j<i)(A:∀x,g x=lQ f (m - i) m j x)(x:Nat):rU g (m - (i - j)) m (m+j) x=rU f (m - i) m (m+j) x:=by unfold rU;by_cases E:m - (i - j)<=x/\x<m - (i - j)+(m+j - m);{rw[if_pos E,A];unfold lQ;by_cases q:m<=x+(m - (m - (i - j)))<;>grind};{rw[if_neg E];by_cases q:m - (i - j)+(m+j - m)<=x/\x<m+j;{rw[if_pos q,A];unfold lQ;grind};{rw[if_neg q,A];unfold lQ;grind}}
theorem R9{f g:Nat->α}{m i j:Nat}(J:i<=m)(F:0<i)(I:i<j)(q:∀x,g x=lQ f (m - i) (m+j - i) i x)(x:Nat):rU g (m - i) m (m+(j - i)) x=rU f (m - i) m (m+j) x:=by unfold rU;by_cases A:m - i<=x/\x<m - i+(m+(j - i) - m);{rw[if_pos A,q,iP];unfold lQ;grind};{rw[if_neg A];by_cases E:m - i+(m+(j - i) - m)<=x/\x<m+(j - i);{rw[if_pos E,q];unfold lQ;grind};{rw[if_neg E,q];unfold lQ;grind}}
def Vx{f g:Nat->α}{m i:Nat}(A:i<=m)(q:∀x,g x=lQ f (m - i) m i x)(x:Nat):g x=rU f (m - i) m (m+i) x:=by rw[q];unfold lQ rU;grind
def LS(f:Nat->α){a m b:Nat}(q:a<=m)(A:m<=b)(h:a=m\/m=b)(x:Nat):rU f a m b x=f x:=by unfold rU;grind
end
section
variable {α:Type}[Inhabited α]
def aQ(l:List α)(x:Nat):α:=l.getD x default
theorem nU{l:List α}{x:Nat}(h:x<l.length):aQ l x=l[x]:=by unfold aQ;grind
def lP(l:List α)(i j:Nat):List α:=(l.set i (aQ l j)).set j (aQ l i)
def oz(l:List α)(i j:Nat):(lP l i j).length=l.length:=by simp[lP]
def Ow{l:List α}{i j:Nat}(q:i<l.length)(A:j<l.length):(lP l i j).Perm l:=by grind[lP,nU,List.set_set_perm]
theorem lV{l:List α}{i j:Nat}(E:i<l.length)(F:j<l.length)(x:Nat):aQ (lP l i j) x=if x=j then aQ l i else if x=i then aQ l j else aQ l x:=by unfold lP;by_cases q:x=j;{subst q;rw[if_pos rfl,nU (by simpa using F)];simp};{rw[if_neg q];by_cases A:x=i;{subst A;rw[if_pos rfl,nU (by simpa using E)];rw[mw (Ne.symm q),q9]};simp_all[if_neg,aQ,cV,List.getElem?_set_ne,Ne.symm]}
structure Mix(a b:Nat)(l l':List α):Prop where
 len:l'.length=l.length
 perm:l'.Perm l
 out:∀x,(x < a∨b≤x)→aQ l' x=aQ l x
 img:∀x,a≤x→x < b→∃y,a≤y∧y < b∧aQ l' x=aQ l y
theorem Mix.refl(a b:Nat)(l:List α):Mix a b l l:=⟨rfl,.refl _,λ_ _=>rfl,λx q A=>⟨x,q,A,rfl⟩⟩
def Mix.trans{a b:Nat}{l m n:List α}(h:Mix a b l m)(k:Mix a b m n):Mix a b l n:=by refine⟨k.len.trans h.len,k.perm.trans h.perm,λx hx=>(k.out x hx).trans (h.out x hx),λx q A=>?_⟩;obtain⟨y,E,F,I⟩:=k.img x q A;obtain⟨z,J,K,O⟩:=h.img y E F;grind
def Mix.wide{a b c d:Nat}{l m:List α}(h:Mix a b l m)(E:c<=a)(F:b<=d):Mix c d l m:=by refine⟨h.len,h.perm,λx hx=>h.out x Om,λx q A=>?_⟩;by_cases hx:a<=x/\x<b;{obtain⟨y,I,J,K⟩:=h.img x hx.1 hx.2;grind};{exact⟨x,q,A,h.out x Om⟩}
def Mix.swap{a b i j:Nat}{l:List α}(E:b<=l.length)(F:a<=i/\i<b)(I:a<=j/\j<b):Mix a b l (lP l i j):=by have q:i<l.length:=Om;have A:j<l.length:=Om;refine⟨oz _ _ _,Ow q A,λx hx=>?_,λx J K=>?_⟩;{rw[lV q A,iN,iN]};{rw[lV q A];grind}
variable (lt:α->α->Prop)
def Srt(l:List α)(a b:Nat):Prop:=∀i j,a<=i->i<j->j<b->lt (aQ l i) (aQ l j)
def Srt.part{lt:α->α->Prop}{l:List α}{a b c d:Nat}(h:Srt lt l a b)(F:a<=c)(I:d<=b):Srt lt l c d:=λi j A q E=>h i j Om q Om
def Srt.out{lt:α->α->Prop}{l q:List α}{a b c d:Nat}(h:Srt lt l a b)(k:Mix c d l q)(I:b<=c\/d<=a):Srt lt q a b:=λi j A E F=>by rw[k.out i Om,k.out j Om];exact h i j A E F
def XT{lt:α->α->Prop}{l l1 l2:List α}{a m b:Nat}(I:Mix a m l l1)(A:Mix m b l1 l2)(J:Srt lt l1 a m)(K:Srt lt l2 m b)(O:∀x y,a<=x->x<m->m<=y->y<b->lt (aQ l x) (aQ l y)):Srt lt l2 a b:=by intro i j E q F;by_cases c1:j<m;{rw[A.out i Om,A.out j Om];exact J i j E q c1};{by_cases c2:m<=i;{exact K i j c2 q F};{rw[A.out i Om];obtain⟨x,T,U,V⟩:=I.img i E Om;obtain⟨y,Y,Z,y3⟩:=A.img j Om F;rw[V,y3,I.out y Om];exact O x y T U Y Z}}
def YB{lt ord:α->α->Prop}{l l1:List α}{a m b mid start q:Nat}(h1:a<=start)(h2:start<=mid)(h3:start<=m)(h4:mid<=q)(h5:m<=q)(h6:q<=b)(he:start+q=mid+m)(Y:Srt lt l a m)(Z:Srt lt l m b)(F:∀i j,a<=i->i<m->m<=j->j<b->ord (aQ l i) (aQ l j))(pA:∀i j,a<=i->i<start->q<=j->j<b->lt (aQ l i) (aQ l j))(pB:∀i j,m<=i->i<q->start<=j->j<m->lt (aQ l i) (aQ l j))(U:∀x,aQ l1 x=rU (aQ l) start m q x):(Srt lt l1 a start/\Srt lt l1 start mid/\Srt lt l1 mid q/\Srt lt l1 q b)/\(∀i j,a<=i->i<start->start<=j->j<mid->ord (aQ l1 i) (aQ l1 j))/\(∀i j,mid<=i->i<q->q<=j->j<b->ord (aQ l1 i) (aQ l1 j))/\ ∀x y,a<=x->x<mid->mid<=y->y<b->lt (aQ l1 x) (aQ l1 y):=by have K:∀x,x<start->aQ l1 x=aQ l x:=λx hx=>by{rw[U];unfold rU;grind};have O:∀x,start<=x->x<mid->aQ l1 x=aQ l (x+(m - start)):=λx hx V=>by{rw[U];unfold rU;rw[iP]};have I:∀x,mid<=x->x<q->aQ l1 x=aQ l (x - (q - m)):=λx hx V=>by{rw[U];unfold rU;grind};have T:∀x,q<=x->aQ l1 x=aQ l x:=λx hx=>by{rw[U];unfold rU;grind};refine⟨⟨λi j q1 E A=>?_,λi j q1 E A=>?_,λi j q1 E A=>?_,λi j q1 E A=>?_⟩,λi j q1 E A J=>?_,λi j q1 E A J=>?_,λx y q1 E A J=>?_⟩;{rw[K i Om,K j A];exact Y i j q1 E Om};{rw[O i q1 Om,O j Om A];exact Z _ _ Om Om Om};{rw[I i q1 Om,I j Om A];exact Y _ _ Om Om Om};{rw[T i q1,T j Om];exact Z _ _ Om E A};{rw[K i E,O j A J];exact F _ _ q1 Om Om Om};{rw[I i q1 E,T j A];exact F _ _ Om Om Om J};{by_cases c1:x<start;{rw[K x c1];by_cases c2:y<q;{rw[I y A c2];exact Y _ _ q1 Om Om};grind};{rw[O x Om E];by_cases c2:y<q;{rw[I y A c2];exact pB _ _ Om Om Om Om};{rw[T y Om];exact Z _ _ Om Om J}}}
def K6{lt:α->α->Prop}{l:List α}(h:Srt lt l 0 l.length):l.Pairwise lt:=by rw[Hv];intro i j E A q;have:=h i j (dA _) q A;grind[nU]
def nZ{lt:α->α->Prop}{l:List α}(h:l.Pairwise lt)(a b:Nat)(F:b<=l.length):Srt lt l a b:=by rw[Hv] at h;intro i j q A E;grind[nU]
end
theorem Bl{α:Type}{lt:α->α->Prop}(q:∀a,¬lt a a)(I:∀a b c,lt a b->lt b c->lt a c):∀{l m:List α},l.Pairwise lt->m.Pairwise lt->(∀x,x∈l↔x∈m)->l=m|[],[],_,_,_=>rfl|[],b::m,_,_,h=>absurd ((h b).2 (by simp)) (by simp)|a::l,[],_,_,h=>absurd ((h a).1 (by simp)) (by simp)|a::l,b::m,F,hm,h=>by rw[List.pairwise_cons] at F hm;have E:a=b:=by{rcases List.mem_cons.1 ((h a).1 (by simp)) with e|e;{exact e};{rcases List.mem_cons.1 ((h b).2 (by simp)) with A|A;{exact A.symm};{exact absurd (I _ _ _ (F.1 b A) (hm.1 a e)) (q a)}}};subst E;congr 1;refine Bl q I F.2 hm.2 λx=>⟨λhx=>?_,λhx=>?_⟩<;>grind
def St{f:Fp}:bp .none f=true:=by cases f<;>rfl
def HE{f:Fp}:bp f .none=true:=by cases f<;>rfl
def Sq{b o n b' o' q:Nat}:bp (.rd b o n) (.rd b' o' q)=true:=rfl
def Sp{b o n b' o' q:Nat}:bp (.rd b o n) (.wr b' o' q)=mU b o n b' o' q:=rfl
def So{b o n b' o' q:Nat}:bp (.wr b o n) (.rd b' o' q)=mU b o n b' o' q:=rfl
def Sn{b o n b' o' q:Nat}:bp (.wr b o n) (.wr b' o' q)=mU b o n b' o' q:=rfl
def Ss{b o n b':Nat}:bp (.rd b o n) (.wb b')=decide (b'≠b):=rfl
def Sv{b o n b':Nat}:bp (.wb b') (.rd b o n)=decide (b'≠b):=rfl
def O1{b o n b':Nat}:bp (.wr b o n) (.wb b')=decide (b'≠b):=rfl
def Su{b o n b':Nat}:bp (.wb b') (.wr b o n)=decide (b'≠b):=rfl
def Sw{b b':Nat}:bp (.wb b) (.wb b')=decide (b≠b'):=rfl
def bj{q:dz}{o:IOp}{xs:List IV}(h:ja o xs=some .none):bC (some q) o xs=some (some ((o.idx,.none)::q)):=by simp_all[bC,rA,if_pos,Bt,HE]
section
variable {fc:dz}{dst:Option Nat}{args:List IA}{g:Option (Nat×Bool)}{amb:Bool}{idx mask:Nat}{xs:List IV}
def Pc{o:IOp}:bC none o xs=some none:=rfl
def Mn:bC (some fc) ⟨dst,.move,args,g,amb,idx,mask⟩ xs=some (some ((idx,.none)::fc)):=bj rfl
def Pd{op:BinOp}:bC (some fc) ⟨dst,.bin op,args,g,amb,idx,mask⟩ xs=some (some ((idx,.none)::fc)):=bj rfl
def SG{op:UnOp}:bC (some fc) ⟨dst,.un op,args,g,amb,idx,mask⟩ xs=some (some ((idx,.none)::fc)):=bj rfl
def Mp{k:IntKind}:bC (some fc) ⟨dst,.conv k,args,g,amb,idx,mask⟩ xs=some (some ((idx,.none)::fc)):=bj rfl
def Kn{z:Nat}:bC (some fc) ⟨dst,.idxSl z,args,g,amb,idx,mask⟩ xs=some (some ((idx,.none)::fc)):=bj rfl
def AO{z:Nat}:bC (some fc) ⟨dst,.fieldAddr z,args,g,amb,idx,mask⟩ xs=some (some ((idx,.none)::fc)):=bj rfl
def Ko{z:Nat}{n:Option Nat}:bC (some fc) ⟨dst,.field z n,args,g,amb,idx,mask⟩ xs=some (some ((idx,.none)::fc)):=bj rfl
def Km:bC (some fc) ⟨dst,.lenSl,args,g,amb,idx,mask⟩ xs=some (some ((idx,.none)::fc)):=bj rfl
def Mm:bC (some fc) ⟨dst,.pick,args,g,amb,idx,mask⟩ xs=some (some ((idx,.none)::fc)):=bj rfl
def yz{l z:Nat}:bC (some fc) ⟨dst,.idxArrAddr l z,args,g,amb,idx,mask⟩ xs=some (some ((idx,.none)::fc)):=bj rfl
end
def agq(m k:Nat):Nat.testBit m k=decide (m / 2^k%2=1):=Nat.testBit_eq_decide_div_mod_eq
section
variable {α:Type}[Cell α]
def Gr(n0:Nat)(H:Heap)(e:Nat)(v:SV)(l:List α):Prop:=(v=.nil/\l=[])\/∃b,v=.sl b 0 l.length l.length false/\n0<=b/\l≠[]/\Own H b e l.length l
def Gr.nil{n0:Nat}{H:Heap}{e:Nat}:Gr n0 H e .nil ([]:List α):=.inl ⟨rfl,rfl⟩
def Gr.sl{n0:Nat}{H:Heap}{e:Nat}{v:SV}{l:List α}(h:Gr n0 H e v l):Sl H v l:=by rcases h with⟨rfl,rfl⟩|⟨b,rfl,_,_,q⟩;{exact Sl.empty};{exact q.sl false}
def Gr.blk{n0:Nat}{H:Heap}{e:Nat}{v:SV}{l:List α}(h:Gr n0 H e v l)(A:l≠[]):H.get v.blk=some (.cells false e (Cell.z α) (ax l)):=by rcases h with⟨_,rfl⟩|⟨b,rfl,_,_,q⟩;{exact absurd rfl A};{exact q.full}
def Gr.lower{n0 n1:Nat}{H:Heap}{e:Nat}{v:SV}{l:List α}(h:Gr n0 H e v l)(hn:n1<=n0):Gr n1 H e v l:=by rcases h with h|⟨b,q,F,A,E⟩;{exact .inl h};{exact .inr ⟨b,q,Om,A,E⟩}
def Gr.keep{n0:Nat}{H H':Heap}{e:Nat}{v:SV}{l:List α}(h:Gr n0 H e v l)(k:Keep H.n H H'):Gr n0 H' e v l:=by rcases h with h|⟨b,q,A,E,F⟩;{exact .inl h};{exact .inr ⟨b,q,A,E,F.keep k⟩}
def KeepG(n0 e z:Nat)(H H':Heap):Prop:=H.n<=H'.n/\∀x,x<H.n->(x<n0\/∀cs,H.get x≠some (.cells false e z cs))->H'.get x=H.get x
def KeepG.refl(n0 e z:Nat)(H:Heap):KeepG n0 e z H H:=⟨am _,λ_ _ _=>rfl⟩
def KeepG.trans{n0 e z:Nat}{a b c:Heap}(h:KeepG n0 e z a b)(k:KeepG n0 e z b c):KeepG n0 e z a c:=by refine⟨fU h.1 k.1,λx A E=>?_⟩;have q:=h.2 x A E;rw[<-q];exact k.2 x (bW A h.1) (by rw[q];exact E)
def KeepG.of{n0 e z:Nat}{H H':Heap}(k:Keep H.n H H'):KeepG n0 e z H H':=⟨k.1,λx h _=>k.2 x h h⟩
def KeepG.low{n0 e z:Nat}{H H':Heap}(k:KeepG n0 e z H H')(hn:n0<=H.n):Keep n0 H H':=⟨k.1,λx q A=>k.2 x A (.inl q)⟩
def KeepG.get{n0 e z x:Nat}{H H':Heap}{ob:IObj}(k:KeepG n0 e z H H')(hx:x<H.n)(A:H.get x=some ob)(q:∀cs,ob≠.cells false e z cs):H'.get x=some ob:=by rw[k.2 x hx (.inr λcs h=>q cs (by grind))];exact A
def Own.keepG{n0 e q z b cap:Nat}{H H':Heap}{l:List α}(h:Own H b e cap l)(k:KeepG n0 q z H H')(J:e≠q):Own H' b e cap l:=by obtain⟨E,A,r,F,I⟩:=h;refine Own.same ⟨E,A,r,F,I⟩ k.1 (k.2 b A (.inr λcs K=>?_));grind
def OwnS(n0:Nat)(H:Heap)(e:Nat)(v:SV)(l:List α):Prop:=(v=.nil/\l=[])\/∃b cap ex,v=.sl b 0 l.length cap ex/\n0<=b/\Own H b e cap l
def OwnS.sl{n0:Nat}{H:Heap}{e:Nat}{v:SV}{l:List α}(h:OwnS n0 H e v l):Sl H v l:=by rcases h with⟨rfl,rfl⟩|⟨b,cap,ex,rfl,_,h⟩;{exact Sl.empty};{exact h.sl ex}
def OwnS.keep{n0:Nat}{H H':Heap}{e:Nat}{v:SV}{l:List α}(h:OwnS n0 H e v l)(k:Keep H.n H H'):OwnS n0 H' e v l:=by rcases h with h|⟨b,cap,ex,q,A,E⟩;{exact .inl h};{exact .inr ⟨b,cap,ex,q,A,E.keep k⟩}
def OwnS.keepG{n0 n1 e A z:Nat}{H H':Heap}{v:SV}{l:List α}(h:OwnS n0 H e v l)(k:KeepG n1 A z H H')(q:e≠A):OwnS n0 H' e v l:=by rcases h with h|⟨b,cap,ex,E,F,I⟩;{exact .inl h};{exact .inr ⟨b,cap,ex,E,F,I.keepG k q⟩}
def Fresh.own{n0:Nat}{H:Heap}{e:Nat}{v:SV}{l:List α}(h:Fresh n0 H e v l):OwnS n0 H e v l:=by rcases h with h|⟨b,q,A,E⟩;{exact .inl h};{exact .inr ⟨b,l.length,true,q,A,E⟩}
def Gr.own{n0:Nat}{H:Heap}{e:Nat}{v:SV}{l:List α}(h:Gr n0 H e v l):OwnS n0 H e v l:=by rcases h with h|⟨b,q,A,_,E⟩;{exact .inl h};{exact .inr ⟨b,l.length,false,q,A,E⟩}
def Gr.push{n0:Nat}{H:Heap}{e:Nat}{v:SV}{l:List α}(h:Gr n0 H e v l){a:α}{u:SV}(T:Sl H u [a]){z:Nat}(I:Cell.z α=z)(bytes lo:Nat)(Y:lo<=n0)(hn:n0<=H.n)(O:(l.length+1)*(bytes+1)<=2^40):∃q w,ev1 (.append e z bytes) [v.iv,u.iv] lo H=some (SV.iv w,q)/\KeepG n0 e z H q/\Gr n0 q e w (l++[a]):=by rcases h with⟨rfl,rfl⟩|⟨b,rfl,Z,h3,K⟩;{obtain⟨q,E,U,F,J⟩:=xH (e:=e) T I bytes lo (by simp) (by simpa using O);exact⟨q,.sl H.n 0 1 1 false,E,KeepG.of F,.inr ⟨H.n,rfl,hn,by simp,J⟩⟩};{obtain⟨q,E,U,F,J⟩:=vi (n:=l.length) K rfl T I bytes lo (by simp) (by simpa using O) Om;refine⟨q,.sl H.n 0 (l.length+1) (l.length+1) false,E,⟨Om,λx V A=>F x ?_ V⟩,.inr ⟨H.n,by simp,hn,by simp,by grind⟩⟩;rintro rfl;rcases A with A|A;{omega};{exact A _ (by rw[K.full,I])}}
def rZ{H:Heap}{e z:Nat}(q:Cell.z α=z)(a:α):Own (H.new (.cells false e z (Cell.cs a))) H.n e 1 [a]:=by have:=b9 (H:=H.new (.cells false e z (Cell.cs a))) (b:=H.n) (e:=e) (l:=[a]) (by rw[ac];omega) q (by rw[ak,if_pos rfl]) (MX a).symm;exact this
def Gr.pushNew{n0:Nat}{H:Heap}{e:Nat}{v:SV}{l:List α}(h:Gr n0 H e v l)(a:α){z:Nat}(E:Cell.z α=z)(bytes lo:Nat)(A:lo<=n0)(hn:n0<=H.n)(I:(l.length+1)*(bytes+1)<=2^40):∃q w,ev1 (.append e z bytes) [v.iv,.slice H.n 0 1 1 true] lo (H.new (.cells false e z (Cell.cs a)))=some (SV.iv w,q)/\KeepG n0 e z H q/\Gr n0 q e w (l++[a]):=by obtain⟨q,w,F,J,g1⟩:=(h.keep (.new _ (.cells false e z (Cell.cs a)))).push (a:=a) ((rZ E a).sl true) E bytes lo A (by rw[ac];omega) I;exact⟨q,w,F,(KeepG.of (.new _ _)).trans J,g1⟩
end
def GB{α:Type}(f:Nat->List α)(n:Nat):(List.range (n+1)).flatMap f=(List.range n).flatMap f++f n:=by rw[List.range_succ,Kb];simp
end Go.Iso
section
namespace Go.Iso
def UL:jH []=.tuple []:=rfl
def UK{v:IV}:jH [v]=v:=rfl
def UJ{v w:IV}{l:List IV}:jH (v::w::l)=.tuple (v::w::l):=rfl
def BAS:=an @acF (an @afl (an @acI (an @jW (an @Z9 (an @aaN (an @acJ (an @NU (an @P5 (an @ZJ (an @ZK (an @afm (an @ah5 (an @WU (an @WV (an @aff (an @afg (an @afe (an @afh (an @acC (an @aeN (an @abr (an @Zd (an @eq_self.{1} (an @Nat.left_eq_add (an @Nat.add_eq_left (an @Nat.add_left_cancel_iff (an @Nat.add_assoc (an @TK (an @RG (an @RF (an @Yq (an @Yp (an @abO (an @abP (an @aes (an @List.getD_cons_zero.{0} (an @List.getD_cons_succ.{0} (an @Yz (an @YA (an @abt (an @acy (an @acx (an @acz (an @ZZ (an @Z0 (an @abc (an @aaa (an @if_true.{1} (an @if_false.{1} (an @Option.map_some.{0,0} (an @Option.map_none.{0,0} (an @Option.bind_some.{0,0} (an @Option.bind_none.{0,0} (an @List.nil_append.{0} (an @List.append_nil.{0} (an @List.cons_append.{0} (an @List.length_cons.{0} (an @List.length_nil.{0} (an @Nat.zero_add (an @abJ (an @abK (an @Wr (an @Yr (an @beq_self_eq_true.{0} (an @Bool.false_eq_true (an @Bool.not_true (an @Bool.not_false (an @Option.getD_some.{0} (an @Option.getD_none.{0} (an @P0 (an @PZ (an @NJ (an @PW (an @PX (an @GF (an @K2 (an @Cc (an @PY (an @GG (an @Tx (an @K1 (an @FV (an @K3 (an @Cd (an @ak (an @ac (an @aa (an @af (an @List.drop_succ_cons.{0} (an @List.drop_zero.{0} (an @List.take_succ_cons.{0} (an @List.take_zero.{0} (an @Nat.add_zero (an @Nat.le_refl (an @Option.some.injEq.{0} (an @and_true (an @true_and (an @and_false (an @false_and (an @BEq.rfl.{0} (an @EJ (an @AN (an @VZ (an @V0 (an @Mg (an @O6 (an @Gu (an @V1 (an @Mh (an @Zf (an @O5 (an @Kl (an @O7 (an @Gv (an @List.all_cons.{0} (an @List.all_nil.{0} (an @Bool.and_self (an @Bool.and_true (an @Bool.true_and (an @Nat.le_add_right (an @Nat.add_sub_cancel (an @bne_self_eq_false.{0} (an @Bool.false_bne (an @Bool.bne_false (an @Bool.or_true (an @Bool.true_or (an @Int.toNat_natCast (an @Option.isSome_some.{0} (an @acH (an @abG (an @abF (an @Gc (an @TW (an @VG (an @VF (an @Yw (an @Yt (an @Yu (an @Zc (an @Zb (an @ne_eq.{1} (an @not_false_eq_true (an @ahe (an @ahd (an @cLe (an @ahc (an @cLt (an @ahb (an @iLe (an @agM (an @iLt (an @agL (an @iGe (an @agO (an @iGt (an @agN (an @agQ (an @aeL (an @agP (an @aeK (an @ad8 (an @wU8 (an @decide_true (an @decide_false (an @VI (an @VH (an @Y8 (an @NY (an @oN (an @Ix (an @jX (an @eJ (an @oO (an @Be (an @Nat.zero_mul (an @Bool.true_eq_false (an @Bool.false_or (an @Bool.or_false (an @Bool.false_and (an @Bool.and_false (an @not_true_eq_false (an @Nat.sub_zero (an @List.getElem?_cons_zero.{0} (an @List.getElem?_cons_succ.{0} (an @bO.eq_1 (an @bO.eq_2 (an @IA.eval.eq_1 (an @IA.eval.eq_2 (an @IA.eval.eq_3 (an @Fr.put.eq_1 (an @Fr.put.eq_2 (an @du.eq_1 (an @du.eq_2 (an @cH.eq_1 (an @cH.eq_2 (an @aG.eq_1 (an @aG.eq_2 (an @lS.eq_1 (an @lS.eq_2 (an @aj.eq_1 (an @aj.eq_2 (an @List.set.eq_1.{0} (an @List.set.eq_2.{0} (an @List.set.eq_3.{0} (an @List.drop.eq_1.{0} (an @List.drop.eq_2.{0} (an @List.drop.eq_3.{0} (an @List.take.eq_1.{0} (an @List.take.eq_2.{0} (an @List.take.eq_3.{0} (an @List.append.eq_1.{0} (an @List.append.eq_2.{0} (an @aB.eq_1 (an @aB.eq_2 (an @aB.eq_3 (an @aB.eq_4 (an @fZ.eq_1 (an @fZ.eq_2 (an @bC.eq_1 (an @bC.eq_2 (an @UL (an @UK (an @UJ (an @St (an @HE (an @Sq (an @Sp (an @So (an @Sn (an @Ss (an @Sv (an @O1 (an @Su (an @Sw (@agq)))))))))))))))))))))))))))))))))))))))))))))))))))))))))))))))))))))))))))))))))))))))))))))))))))))))))))))))))))))))))))))))))))))))))))))))))))))))))))))))))))))))))))))))))))))))))))))))))))))))))))))))))))))))))))))))))))))))))))
def ah:=an @Pc (an @Mn (an @Pd (an @SG (an @Mp (an @Kn (an @AO (an @Ko (an @Km (an @Mm (@yz))))))))))
end Go.Iso
end
namespace Go.Iso
def afi{b o n b' o' q:Nat}(h:b<b'):mU b o n b' o' q=true:=by grind[mU]
def afj{b o n b' o' q:Nat}(h:b'<b):mU b o n b' o' q=true:=by grind[mU]
def agF:Fp->Bool|.none|.rd _ _ _=>true|_=>false
def uo:dz->Bool|[]=>true|p::q=>agF p.2&&uo q
def SF:uo []=true:=rfl
def O9{i:Nat}{q:dz}:uo ((i,.none)::q)=uo q:=rfl
def Wb{i b o n:Nat}{q:dz}:uo ((i,.rd b o n)::q)=uo q:=rfl
def Wa{i b o n:Nat}{q:dz}:uo ((i,.wr b o n)::q)=false:=rfl
def HJ{b o n mask:Nat}:∀{q:dz},uo q=true->(q.all λp=>mask.testBit p.1||bp p.2 (.rd b o n))=true|[],_=>rfl|(i,f)::q,h=>by simp only[uo,bM] at h;rw[qY,HJ h.2,Eh];cases f with|none=>simp[bp]|rd=>simp[bp]|_=>cases h.1
section
variable {fc:dz}{dst:Option Nat}{args:List IA}{g:Option (Nat×Bool)}{amb:Bool}{idx mask:Nat}{xs:List IV}
def Mq:bC (some fc) ⟨dst,.call,args,g,amb,idx,mask⟩ xs=some (some ((idx,.none)::fc)):=bj rfl
def Kq{e z:Nat}{zs:List IV}:bC (some fc) ⟨dst,.alloc e z zs,args,g,amb,idx,mask⟩ xs=some (some ((idx,.none)::fc)):=bj rfl
def Kp{zs:List IV}{os:List (Nat×Nat)}:bC (some fc) ⟨dst,.build zs os,args,g,amb,idx,mask⟩ xs=some (some ((idx,.none)::fc)):=bj rfl
def EO{e z n:Nat}{zs:List IV}{os:List (Nat×Nat)}:bC (some fc) ⟨dst,.buildSl e z n zs os,args,g,amb,idx,mask⟩ xs=some (some ((idx,.none)::fc)):=bj rfl
def Mo{n:Option Nat}{b a:Nat}:bC (some fc) ⟨dst,.load n,args,g,amb,idx,mask⟩ [.ptr b a]=if uo fc=true then some (some ((idx,.rd b a (n.getD 1))::fc)) else(rA fc ⟨dst,.load n,args,g,amb,idx,mask⟩ [.ptr b a]).map some:=by simp_all[bC,rA,ja,if_pos,HJ]
end
def FR:=an @Mq (an @Kq (an @Kp (an @EO @Mo)))
def FW:=an @SF (an @O9 (an @Wb (an @Wa (an @afi @afj))))
end Go.Iso
section
namespace Go.Iso
def J1{a b:Prop}(h:a)(k:b):a/\b:=⟨h,k⟩
def Qb:=J1 @BAS (J1 @ja.eq_def (J1 @rA.eq_def (J1 @opW.eq_def (J1 @rE.eq_def (J1 @ev1.eq_def (J1 @i2.eq_def (J1 @unI.eq_def (J1 @kO.eq_def (J1 @Of.eq_def @cS.eq_def)))))))))
def ai:=J1 Qb @Heap.write.eq_def
def gF:=J1 ai FW
def gY:=J1 ah FR
def ao{H0 H1:Heap}(q:H0=H1)(x:Nat){v:Option IObj}(h:H0.get x=v:=by simp(disch:=omega)only[ai,↓ah,seval];rfl):H1.get x=v:=q▸h
def aD{n:Nat}{H H0 H1:Heap}(q:H0=H1)(a:H.n<=H1.n:=by omega)(h:∀x,x<n->x<H.n->H0.get x=H.get x:=by intros;simp(disch:=omega)only[ai,↓ah,seval]):Keep n H H1:=⟨a,q▸h⟩
end Go.Iso
end
namespace Go.Iso
section
variable {α:Type}[Cell α]
def mM(l:List α)(i:Nat)(h:i<l.length):ax l=ax (l.take i)++(Cell.cs l[i]++ax (l.drop (i+1))):=by grind[bL,jb,List.drop_eq_getElem_cons,List.take_append_drop]
end
section
variable {α:Type}[Cell α]
end
def SV.cut(z:Nat)(v:SV)(a n:Nat):SV:=match v with|.nil=>.nil|.sl b o _ c ex=>.sl b (o+a*z) n (c - a) ex
section
variable {α:Type}[Cell α]
end
open Classical
section
variable {P:Program}{g0 lo:Nat}{μ:Mu}{H H':Heap}{w:World}{ρ:Operand->Value}{xs:List IV}{v:IV}
variable {dst:Option Tmp}{type:TypeId}{pos:String}{after:Array Edge}{guard:Option (Tmp×Bool)}
def zp:∀{q:List (IV×IV×Nat)}{l:List MapEntry}{e:MapEntry},EsR μ q l->e∈l->∃k v,(k,v,e.born)∈q/\VR μ k e.key/\VR μ v e.val|[],_,_,h,I=>by cases h;cases I|(k,v,s)::q,_,x,J,h=>by obtain⟨e,T,rfl,E,F,O,A⟩:=J;cases h with|head=>exact⟨k,v,by grind,E,F⟩|tail _ h=>obtain⟨K,v',a,b,c⟩:=zp A h;exact⟨K,v',i5 _ a,b,c⟩
def JP(h:Rel P g0 μ H.get H.n w){x:Operand}{r b q J A:Nat}{seen:List Nat}{es:List (IV×IV×Nat)}(hg:H.get r=some (.iter (some b) q seen J))(hm:aL H b=some (es,A))(cc:lo<=r)(a5:∀e∈es,e.2.2<J)(a1:∀e∈es,e.2.2<q)(bo:∃e∈es,e.2.2∉seen)(hx:VRs μ [.ptr r 0] [ρ x]):∃k v s,(k,v,s)∈es/\s∉seen/\Gives P g0 lo μ H w (execOp ρ ⟨dst,.next x false,type,pos,after,guard⟩) (.tuple [.bool true,k,v]) (H.put r (.iter (some b) q (seen++[s]) A)):=by obtain⟨y,hy,hv⟩:=vZ hx;injection hy with hy _;subst hy;obtain⟨a,a3,hl⟩:=hv;have bw:∀o,H.get r=some o->o≠.dead->∃c p ez z,μ r=.at c p ez z/\ObjR P μ o p ez z w.heap[c]?/\a=⟨c,p+0,none⟩:=by{intro o ho hd;unfold LocR at hl;cases hb:μ r with|no=>rw[hb] at hl;exact hl.elim|dead=>have:=h.ded r hb;rw[ho] at this;injection this with this;exact absurd this hd|«at» c p ez z=>rw[hb] at hl;obtain⟨ob,aE,cl⟩:=h.obj r c p ez z hb;rw[ho] at aE;injection aE with aE;subst aE;exact⟨c,p,ez,z,rfl,cl,hl⟩};obtain⟨c,p,ez,z,hb,⟨rfl,m',K,b4⟩,ha⟩:=bw _ hg (by simp);subst ha;obtain⟨rm,co,z2,F,ap,cp,T,Y⟩:=qr h hm b4;injection ap with ap;subst ap;have a9:=Gg (f:=λs=>decide (J<=s)) Y;have bt:es≠[]:=by{obtain⟨e,he,_⟩:=bo;exact List.ne_nil_of_mem he};have ba:(!seen.toArray.isEmpty&&!F.isEmpty&&F.all λe=>decide (e.born>=J))=false:=by{have:(F.all λe=>decide (e.born>=J))=false:=by{rw[<-Array.all_toList,<-a9,Bool.eq_false_iff];intro hh;cases es with|nil=>exact bt rfl|cons e es=>simp only[qY,bM,decide_eq_true_eq] at hh;have:=a5 e (wI ..);omega};rw[this,Bool.and_false]};have g1:(getObj c).run P w=.ok (.mapIter (some rm) q seen.toArray J) w:=by{simp[getObj,Sem.run,K]};have ad:(F.filter λe=>!seen.toArray.contains e.born).toList=F.toList.filter λe=>!seen.contains e.born:=by{rw[Array.toList_filter];simp};have bc:=Gf (f:=λs=>!seen.contains s) Y;have f1:((F.filter λe=>!seen.toArray.contains e.born).filter λe=>decide (e.born<q))=F.filter λe=>!seen.toArray.contains e.born:=by{rw[Array.filter_eq_self];intro e he;obtain⟨k,v,I,_,_⟩:=zp Y (Array.mem_toList_iff.2 (Array.mem_filter.1 he).1);simpa using a1 _ I};have f2:((F.filter λe=>!seen.toArray.contains e.born).filter λe=>decide (e.born>=q))=#[]:=by{rw[Array.filter_eq_empty_iff];intro e he;obtain⟨k,v,I,_,_⟩:=zp Y (Array.mem_toList_iff.2 (Array.mem_filter.1 he).1);have:=a1 _ I;simp only at this;simp;omega};have a2:(F.filter λe=>!seen.toArray.contains e.born)≠#[]:=by{intro E;rw[E] at ad;obtain⟨e,he,hs⟩:=bo;rw[<-ad] at bc;have bd:=EsR.length bc;simp only[cz] at bd;have:e∈es.filter λe=>!seen.contains e.2.2:=List.mem_filter.2 ⟨he,by simpa using hs⟩;rw[List.length_eq_zero_iff.1 bd] at this;cases this};generalize hL:(F.filter λe=>!seen.toArray.contains e.born)=L at *;have b6:c<w.heap.size:=(Array.getElem?_eq_some_iff.1 K).1;have a6:∀(i:Nat)(V:World),V.heap=w.heap->V.os=w.os->V.tape=w.tape->V.output=w.output->w.drawn<=V.drawn->i<L.size->∃E k0 v0,L[i]? =some E/\(k0,v0,E.born)∈es/\E.born∉seen/\ (∃O,Rel P g0 O (H.put r (.iter (some b) q (seen++[E.born]) A)).get (H.put r (.iter (some b) q (seen++[E.born]) A)).n {V with heap:=V.heap.setIfInBounds c (.mapIter (some rm) q (seen.toArray.push E.born) A)}/\ Post lo μ H.get H.n w O (H.put r (.iter (some b) q (seen++[E.born]) A)).get (H.put r (.iter (some b) q (seen++[E.born]) A)).n {V with heap:=V.heap.setIfInBounds c (.mapIter (some rm) q (seen.toArray.push E.born) A)}/\ VR O (.tuple [.bool true,k0,v0]) (.tuple #[.bool true,E.key,E.val])):=by{intro i V q1 q2 q3 q4 q5 hi;obtain⟨E,U⟩:∃E,L[i]? =some E:=⟨L[i],by simp[hi]⟩;have I:E∈L:=Array.mem_of_getElem? U;rw[<-hL] at I;obtain⟨ce,cf⟩:=Array.mem_filter.1 I;obtain⟨k0,v0,Z,ca,cm⟩:=zp Y (Array.mem_toList_iff.2 ce);obtain⟨hr,hp⟩:=h.update (lo:=lo) (w':={V with heap:=V.heap.setIfInBounds c (.mapIter (some rm) q (seen.toArray.push E.born) A)}) (o:=.iter (some b) q (seen++[E.born]) A) hb cc ⟨_,hg,rfl⟩ (by simp[q1]) (λc' b5=>by simp only[q1];rw[OY (Ne.symm b5)]) (by simp only[q1];rw[QE b6];exact⟨rfl,some rm,by simp,b4⟩) q2 q3 q4 q5;exact⟨E,k0,v0,U,Z,by simpa using cf,μ,hr,hp,⟨_,rfl,_,_,rfl,rfl,_,_,rfl,ca,_,_,rfl,cm,rfl⟩⟩};have a0:L.isEmpty=false:=by{simpa [Array.isEmpty_iff] using a2};have b3:0<L.size:=Array.size_pos_iff.2 a2;by_cases b7:L.size<=1;{obtain⟨E,k0,v0,U,Z,a4,O,h1,h2,h3⟩:=a6 0 w rfl rfl rfl rfl (am _) b3;refine⟨k0,v0,E.born,Z,a4,.value (.tuple #[.bool true,E.key,E.val]),.tuple #[.bool true,E.key,E.val],_,O,?_,.inl rfl,h1,h2,h3⟩;simp only[execOp,Instr.next,a3,Sem.run_bind,g1,Result.andThen_ok,bQ T,ba,jm,if_false,hL,f1,f2,a0];simp[choose,Sem.run,Question.forced,setObj,K,b7,U]};{have b8:(Question.mapNext L.size).forced=false:=by{simp[Question.forced];omega};have cd:(Question.mapNext L.size).cut (w.tape w.drawn (.mapNext L.size))<L.size:=rW _ b3;obtain⟨E,k0,v0,U,Z,a4,O,h1,h2,h3⟩:=a6 _ {w with drawn:=w.drawn+1} rfl rfl rfl rfl (xk _) cd;refine⟨k0,v0,E.born,Z,a4,.value (.tuple #[.bool true,E.key,E.val]),.tuple #[.bool true,E.key,E.val],_,O,?_,.inl rfl,h1,h2,h3⟩;simp only[execOp,Instr.next,a3,Sem.run_bind,g1,Result.andThen_ok,bQ T,ba,jm,if_false,hL,f1,f2,a0];have hd:w.drew.heap=w.heap:=rfl;simp[choose,Sem.run,b8,setObj,hd,K,U];exact⟨rfl,rfl⟩}
end
open Classical
def CallSim.lower{P:Program}{g0:Nat}{f:FuncId}{args:List IV}{lo A:Nat}{H H':Heap}{v:IV}(T:A<=lo)(h:CallSim P g0 f args lo H v H'):CallSim P g0 f args A H v H':=by intro μ w q U O;exact(h μ w q U O).mono λe w' ⟨v',E,F,I,J,K⟩=>⟨v',E,F,I,J.lower T,K⟩
def NItem(P:Program)(g0 lo:Nat)(I:Item)(rd:Option Nat)(fr:Fr)(H:Heap)(Q:CJ):Prop:=∀(μ:Mu)(w:World)(t:Array Value)(r:Option Nat)(ds:List Deferred),Rel P g0 μ H.get H.n w->VRs μ fr.tm t.toList->RdR μ rd r->DsR μ fr.marks ds->∀(f:FuncId)(k:List Item)(cs:List Frame),∃e A H' q w' F E,Q (.ex e A) H'/\Rel P g0 q H'.get H'.n w'/\Post lo μ H.get H.n w q H'.get H'.n w'/\VRs q A.tm F.toList/\DsR q A.marks E/\ Arr P f r F E cs w' (lone (bR f r t ds (I::k)) cs w) k e
section
variable {P:Program}{E:Env}{g0 lo:Nat}{rd:Option Nat}{fr:Fr}{H:Heap}{Q Q':CJ}
def NItem.mono{I:Item}(h:NItem P g0 lo I rd fr H Q)(hq:∀e q H',Q (.ex e q) H'->Q' (.ex e q) H'):NItem P g0 lo I rd fr H Q':=by intro μ w t r ds K O F A f k cs;obtain⟨e,q,H',T,w1,t1,J,U,V,Y,Z,a4,a5⟩:=h μ w t r ds K O F A f k cs;grind
def N2{I:Item}{e:Ex}{q:Fr}{H':Heap}(h:ItemSim P g0 lo I rd fr H e q H')(hq:Q (.ex e q) H'):NItem P g0 lo I rd fr H Q:=by intro μ w t r ds K O F A f k cs;obtain⟨T,w1,t1,J,U,V,Y,Z,a5⟩:=h μ w t r ds K O F A f k cs;grind
def mW(I:EnvOk P E){c:Code}{A:IC}(J:bh P c=some A)(h:W E lo (.code A rd fr) H Q):NItem P E.g0 lo (.code c) rd fr H Q:=by obtain⟨n,o,H',q,K⟩:=h;obtain⟨e,F,rfl,hs⟩:=FP (C1 I n) n (am _) c A rd fr lo H o H' J q;exact N2 hs K
def NItem.seq{J K q:Item}(hs:∀f r t ds k cs w,step P (lone (bR f r t ds (J::k)) cs w)=.next (lone (bR f r t ds (K::q::k)) cs w))(Z:∀id k,exitTo id (q::k)=exitTo id k)(h1:NItem P g0 lo K rd fr H λo H1=>match o with|.ex .normal A=>NItem P g0 lo q rd A H1 Q|o=>Q o H1):NItem P g0 lo J rd fr H Q:=by intro μ w t r ds hr ht I Y f k cs;obtain⟨e,A,H1,O,w1,t1,F,a0,a1,T,a3,a4,a5⟩:=h1 μ w t r ds hr ht I Y f (q::k) cs;cases e with|normal=>obtain⟨e2,V,H2,ad,w2,t2,U,b0,b1,b2,b3,b4,b5⟩:=a0 O w1 t1 r F a1 a3 (I.mono T.le) a4 f k cs;exact⟨e2,V,H2,ad,w2,t2,U,b0,b1,T.trans b2,b3,b4,b5.head (Steps.head (hs f r t ds k cs w) a5)⟩|jmp j=>exact⟨.jmp j,A,H1,O,w1,t1,F,a0,a1,T,a3,a4,(a5.skipItem Z).head (.one (hs f r t ds k cs w))⟩
def NItem.seqC{a b:Code}(A:NItem P g0 lo (.code a) rd fr H λo H1=>match o with|.ex .normal q=>NItem P g0 lo (.code b) rd q H1 Q|o=>Q o H1):NItem P g0 lo (.code (.seq a b)) rd fr H Q:=NItem.seq (λf r t ds k cs w=>OC) (BG b) A
def K7{id:Nat}{c:Code}(h:NItem P g0 lo (.code c) rd fr H λo H'=>match o with|.ex (.jmp (.exit q)) V=>Q (.ex (if q=id then .normal else .jmp (.exit q)) V) H'|o=>Q o H'):NItem P g0 lo (.code (.block id c)) rd fr H Q:=by intro μ w t r ds hr ht ad Y f k cs;obtain⟨e1,F,H1,I,w1,t1,A,J,K,O,T,U,a5⟩:=h μ w t r ds hr ht ad Y f (.inBlock id::k) cs;have st:step P (lone (bR f r t ds (.code (.block id c)::k)) cs w)=.next (lone (bR f r t ds (.code c::.inBlock id::k)) cs w):=LB;cases e1 with|normal=>exact⟨.normal,F,H1,I,w1,t1,A,J,K,O,T,U,Steps.head st (Steps.trans a5 (.one DO))⟩|jmp j=>obtain⟨pre,b1,b2⟩:=a5;cases j with|ret=>exact⟨.jmp .ret,F,H1,I,w1,t1,A,J,K,O,T,U,pre++[.inBlock id],Steps.head st (by simpa using b1),λq e=>by cases e⟩|exit q=>refine⟨_,F,H1,I,w1,t1,A,J,K,O,T,U,?_⟩;have hx:=b2 q rfl;rw[uH] at hx;by_cases Z:q=id;{subst Z;simp only[if_true] at hx⊢;exact Steps.head st (b1.trans (.one (Qx hx)))};{rw[if_neg (Ne.symm Z)] at hx;rw[if_neg Z];refine⟨pre++[.inBlock id],Steps.head st (by simpa using b1),λap e=>?_⟩;grind}
def NItem.inLoop{c:Code}(Inv:Nat->Fr->Heap->Prop)(J:∀n fr H,Inv n fr H->NItem P g0 lo (.code c) rd fr H λo H'=>match o with|.ex .normal q=>∃m,m<n/\Inv m q H'|o=>Q o H'):∀n fr H,Inv n fr H->NItem P g0 lo (.inLoop c) rd fr H Q:=by intro n;induction n using Nat.strongRecOn with|_ n K=>intro fr H I;refine NItem.seq (λf r t ds k cs w=>Au) (nh c) ((J n fr H I).mono λe q H' F=>?_);cases e with|normal=>obtain⟨m,hm,A⟩:=F;exact K m hm q H' A|jmp j=>exact F
def NItem.loopC{c:Code}(Inv:Nat->Fr->Heap->Prop)(n:Nat)(h0:Inv n fr H)(F:∀n fr H,Inv n fr H->NItem P g0 lo (.code c) rd fr H λo H'=>match o with|.ex .normal q=>∃m,m<n/\Inv m q H'|o=>Q o H'):NItem P g0 lo (.code (.loop c)) rd fr H Q:=by refine NItem.seq (λf r t ds k cs w=>JL) (nh c) ((F n fr H h0).mono λe q H' I=>?_);cases e with|normal=>obtain⟨m,hm,A⟩:=I;exact NItem.inLoop Inv F m q H' A|jmp j=>exact I
def NOp(P:Program)(g0:Nat)(o:Oper)(lo:Nat)(xs:List IV)(H:Heap)(R:IV->Heap->Prop):Prop:=∀(μ:Mu)(w:World)(t:Array Value),Rel P g0 μ H.get H.n w->VRs μ xs (o.op.operands.toList.map (eI t))->∀(f:FuncId)(rd:Option Nat)(ds:List Deferred)(k:List Item)(cs:List Frame)(ops:Array Oper)(i:Nat)(q:List Nat),∃(v:IV) (H':Heap) (v':Value) (w':World) (A:Mu),R v H'/\Rel P g0 A H'.get H'.n w'/\Post lo μ H.get H.n w A H'.get H'.n w'/\VR A v v'/\ (ops[i]? =some o->Region.wanted o (yielded ops t)=true->Steps P (lone (bR f rd t ds (.inRegion ops (i::q)::k)) cs w) (lone (bR f rd (tw t o.dst v') ds (.inRegion ops q::k)) cs w'))
def NItem.region(hE:EnvOk P E){id:Nat}{ops:Array Oper}{pre post:List IOp}{io:IOp}(K:cZ P ops false=some [(.seq,pre++io::post)])(hg:io.guard=none){R:IV->Heap->Prop}(aE:W E lo (.ops none pre rd fr) H λo H1=>∃q xs,o=.ex .normal q/\bO E.g0 q.tm io.args=some xs/\ (∀o,cW P o.op=some io.kd->NOp P E.g0 o lo xs H1 R)/\ ∀v H2,R v H2->W E lo (.ops none post rd (q.put io.dst v)) H2 λo H'=>∃Z,o=.ex .normal Z/\Q (.ex .normal Z) H'):NItem P E.g0 lo (.code (.region id ops false)) rd fr H Q:=by simp only[cZ] at K;cases h1:ops.toList.mapM (mf P ops) with|none=>rw[h1] at K;cases K|some l=>rw[h1] at K;simp only[yp,bF,jm,if_false] at K;have K:l=pre++io::post:=by{grind};subst K;obtain⟨hl,ao⟩:=uu h1;obtain⟨n,o,H1,a0,q,xs,rfl,ba,a9,O⟩:=aE;obtain⟨bt,S1,e1,I⟩:=vL (N:=n) pre n (am _) _ _ _ _ _ a0;injection e1 with _ e1;subst e1;have ap:∀(j:Nat)(A:IOp),(pre++io::post)[j]? =some A->∃o,ops[j]? =some o/\OpOk P ops o A:=λj A hj=>by{obtain⟨o,q1,q2⟩:=ao j A hj;obtain⟨Y,e4,e5,e6⟩:=qw q2;exact⟨o,by simpa using q1,Y,e4,e5,e6⟩};have ad:ops.size=pre.length+(post.length+1):=by{grind};intro μ w t r ds hr ht b7 a6 f k cs;have lq:List.range ops.size=List.range' 0 pre.length++(pre.length::List.range' (pre.length+1) post.length):=by{rw[OU,ad,<-List.range'_append_1,bB,J6]};obtain⟨bc,t1,w1,a1,a2,V,a4⟩:=CK (a:=0) (ops:=ops) (C1 hE n) (λj A hj=>by have b6:j<pre.length:=(List.getElem?_eq_some_iff.1 hj).1;simp_all[Hw,bB]) I hr ht f r ds k cs (pre.length::List.range' (pre.length+1) post.length);obtain⟨o,ho,F⟩:=ap pre.length io (by simp);have U:Region.wanted o (yielded ops t1)=true:=by{rw[rJ F.guard (by simpa using V.length) (λd w' _=>lX V d),hg];rfl};have a5:=gu a1 F.args ba (λi _=>lX V i);obtain⟨v,H2,v',w2,bd,b0,b1,b2,b3,b4⟩:=a9 o F.kd bc w1 t1 a1 a5 f r ds k cs ops pre.length (List.range' (pre.length+1) post.length);have b4:=b4 ho U;have b5:VRs bd (q.put io.dst v).tm (tw t1 o.dst v').toList:=by{rw[F.dst];cases o.dst with|none=>exact VRs.mono b2.le _ _ V|some d=>simp only[Fr.put,tw,Bx];exact(VRs.mono b2.le _ _ V).set d b3};obtain⟨n3,o3,H3,T,fr3,rfl,hq⟩:=O v H2 b0;obtain⟨bw,S3,Y,J⟩:=vL (N:=n3) post n3 (am _) _ _ _ _ _ T;injection Y with _ Y;subst Y;obtain⟨bo,t3,w3,c1,c2,c3,c4⟩:=CK (a:=pre.length+1) (ops:=ops) (C1 hE n3) (λj A hj=>by obtain⟨o,q1,q2⟩:=ap (pre.length+1+j) A (by grind);exact⟨o,q1,q2⟩) J b1 b5 f r ds k cs [];rw[gS] at c4;refine⟨.normal,fr3,H3,bo,w3,t3,ds,hq,c1,(a2.trans b2).trans c2,c3,?_,?_⟩;{have hm:fr3.marks=fr.marks:=by{rw[J.marks];have:(q.put io.dst v).marks=q.marks:=by{cases io.dst<;>rfl};rw[this,I.marks]};rw[hm];exact a6.mono ((a2.trans b2).trans c2).le};{refine Steps.head G6 ?_;rw[lq];exact a4.trans (b4.trans (c4.trans (.one qk)))}
def NOp.next{o:Oper}(J:cW P o.op=some .nextM){r b q F A:Nat}{seen:List Nat}{K:List (IV×IV×Nat)}(hg:H.get r=some (.iter (some b) q seen F))(hm:aL H b=some (K,A))(V:lo<=r)(I:∀e∈K,e.2.2<F)(O:∀e∈K,e.2.2<q)(Y:∃e∈K,e.2.2∉seen):NOp P g0 o lo [.ptr r 0] H λv H'=>∃k x s,(k,x,s)∈K/\s∉seen/\v=.tuple [.bool true,k,x]/\H'=H.put r (.iter (some b) q (seen++[s]) A):=by intro μ w t hr hx f rd ds k cs ops i aE;obtain⟨y,T⟩:∃y,o.op=.next y false:=by{cases ho:o.op<;>rw[ho] at J<;>simp only[cW,MJ,a7,fX,fY] at J;(all_goals (repeat' split at J));(all_goals (try simp only[fY,fX,reduceCtorEq,and_false,exists_false] at J));all_goals first|(cases J;done)|exact⟨_,rfl⟩|grind};obtain⟨dst,op,type,pos,after,guard⟩:=o;simp only at T;subst T;have hx:VRs μ [.ptr r 0] [eI t y]:=by{simpa [Op.operands] using hx};obtain⟨k0,v0,s0,h1,h2,nx,v',w',ap,U,Z,ad,hp,hv⟩:=JP (dst:=dst) (type:=type) (pos:=pos) (after:=after) (guard:=guard) (ρ:=eI t) hr hg hm V I O Y hx;exact⟨_,_,v',w',ap,⟨k0,v0,s0,h1,h2,Rr⟩,ad,hp,hv,λho hw=>.one (LA ho hw (E5 J) U Z)⟩
def Ru(P:Program)(g0:Nat)(f:FuncId)(args:List IV)(lo:Nat)(H:Heap)(R:IV->Heap->Prop):Prop:=∀(μ:Mu)(w:World)(q:Array Value),Rel P g0 μ H.get H.n w->VRs μ args q.toList->Calls P f q w λe w'=>∃(v:IV) (H':Heap) (v':Value) (A:Mu),R v H'/\e=.returned v'/\Rel P g0 A H'.get H'.n w'/\Post lo μ H.get H.n w A H'.get H'.n w'/\VR A v v'
def NOp.call{o:Oper}(hk:cW P o.op=some .call){g:FuncId}{q cap args:List IV}{fn:Func}{body:Code}(hf:P.funcs[g]? =some fn)(hb:fn.body=some body)(hn:(fn.name=="runtime.NumGoroutine")=false){R:IV->Heap->Prop}(h:Ru P g0 g (q++args++cap) lo H R):NOp P g0 o lo (.fn g q cap::args) H R:=by obtain⟨fo,A,ts,Z⟩:=QS hk;intro μ w t hr hx f rd ds k cs ops i U;have O:o.op.operands.toList.map (eI t)=eI t fo::A.toList.map (eI t):=by{rw[Z];simp[Op.operands,Call.operands]};rw[O] at hx;obtain⟨y,yl,hy,aE,J⟩:=hx;simp only[fW] at hy;obtain⟨rfl,rfl⟩:=hy;obtain⟨l',r',V,hl,ap⟩:=aE;have J:VRs μ args (A.map (eI t)).toList:=by{simpa using J};have a0:VRs μ (q++args++cap) ((l'++A.map (eI t))++r').toList:=by{rw[Ea,Ea];exact(hl.append J).append ap};obtain⟨e,w',fr,⟨v,H',v',a1,hR,rfl,ad,hp,hv⟩,I,a2,F⟩:=h μ w _ hr a0 (bR f rd t ds (.inRegion ops (i::U)::k)::cs);refine⟨v,H',v',w',a1,hR,ad,hp,hv,λK hw=>?_⟩;rw[<-so K];have T:(execOp (eI t) o).run P w=.ok (.enter g ((l'++A.map (eI t))++r')) w:=by{have Y:¬fn.name="runtime.NumGoroutine":=by{simpa using hn};simp only[execOp,Z,resolve,V];simp[Deferred.ofValue,invoke,callFunc,hf,Y,hb]};refine Steps.head (step_lone_go ?_) (Steps.trans I (.one (step_leave_returned F)));rw[tS K hw (λc e=>by rw[Z] at e;cases e),uC];simp only[stepG.apply,Sem.runT_eq,T,if_true,GStep.bare_after];simp_all[bR]
end
open Go.Sort Go.Proofs Go.Shelf
section
variable {P:Program}{g0 lo:Nat}{μ:Mu}{H:Heap}{w:World}
def Si{n n':Nat}{g Z:Gt}{K:Mu}{w':World}(A:Post n μ g n w K Z n' w'):∃q os,w'=grow (w.drewN q) os:=by have T:w'.heap=w.heap++w'.heap.extract w.heap.size w'.heap.size:=by{apply Array.ext_getElem?;intro i;by_cases U:i<w.heap.size;{rw[Array.getElem?_append_left U];exact A.frame i U λb p ez z I J=>Om};grind};refine⟨w'.drawn - w.drawn,w'.heap.extract w.heap.size w'.heap.size,?_⟩;have I:=A.os;have J:=A.tape;have O:=A.output;have h4:=A.drawn;obtain⟨h,t,d,o,u⟩:=w;obtain⟨F,V,E,o',Y⟩:=w';simp only at I J O h4 T⊢;subst I J O;show World.mk F V E o' Y=World.mk (h++F.extract h.size F.size) V (d+(E - d)) o' Y;rw[<-T,show d+(E - d)=E by omega]
def MT(os:Array Obj){c:Nat}(q:c<w.heap.size):(grow w os).heap[c]? =w.heap[c]?:=Array.getElem?_append_left q
def Rel.grown{g:Gt}{n:Nat}(h:Rel P g0 μ g n w)(os:Array Obj):Rel P g0 μ g n (grow w os):=⟨h.lt,h.inj,λb c p ez z q=>by rw[MT os (h.clt q)];exact h.obj b c p ez z q,h.glob,h.ded⟩
def Post.grown{g:Gt}{n:Nat}(h:Rel P g0 μ g n w)(os:Array Obj):Post lo μ g n w μ g n (grow w os) where le:=μ.le_refl;hn:=am _;old:=λ_ _ h=>h;low:=λ_ _ _=>⟨rfl,rfl⟩;own:=λ_ _ h=>h;new:=λb c p ez z F e=>absurd (h.lt b (by grind)) Om;full:=λb A E=>Om;size:=by{simp_all};frame:=λc q _=>MT os q;os:=rfl;tape:=rfl;output:=rfl;drawn:=am _
def toV:IV->Value|.int k n=>.int k n|_=>undef
def QT:IV->Bool|.int _ _=>true|_=>false
def zm:∀{L:List IV}{vs:List Value},L.all QT=true->(VRs μ L vs↔vs=L.map toV)|[],vs,_=>by constructor<;>exactλh=>h|x::L,vs,h=>by simp only[qY,bM] at h;have E:=λvs=>zm (L:=L) (vs:=vs) h.2;obtain⟨k,n,rfl⟩:∃k n,x=.int k n:=by{cases x with|int k n=>exact⟨k,n,rfl⟩|_=>exact absurd h.1 (by simp[QT])};constructor;{rintro⟨y,ys,rfl,q,A⟩;have q:y=.int k n:=q;rw[q,(E ys).1 A];rfl};{rintro rfl;exact⟨_,_,rfl,rfl,(E _).2 rfl⟩}
theorem Gs(F:Array Value)(cs:Array Value)(h:F.size<=cs.size):(putCells id 0 F cs).toList.take F.size=F.toList:=by apply D8;intro i;rw[List.getElem?_take];by_cases q:i<F.size;{rw[if_pos q,Hr,Hr];unfold putCells;rw[Array.getElem?_mapIdx,Ed (by omega:i<cs.size)];simp only[eN];rw[iP,rY,getElem!_pos F i q,Ed q];rfl};grind
def Y6(h:Rel P g0 μ H.get H.n w){b c e ez z:Nat}{cs q:List IV}(O:μ b=.at c 0 ez z)(J:lo<=b)(T:H.get b=some (.cells false e ez cs)){F:Array Value}(U:VRs μ q F.toList)(hl:q.length=cs.length)(m:Nat):Rel P g0 μ (H.put b (.cells false e ez q)).get (H.put b (.cells false e ez q)).n (putRow id (Sort.ahead w m) c 0 F)/\Post lo μ H.get H.n w μ (H.put b (.cells false e ez q)).get (H.put b (.cells false e ez q)).n (putRow id (Sort.ahead w m) c 0 F):=by obtain⟨o,A,K⟩:=h.obj b c 0 ez z O;rw[T] at A;injection A with A;subst A;obtain⟨_,_,E,V,hz,Y,hv⟩:=K;have Z:F.size=q.length:=by{rw[<-wK,U.length]};refine h.update O J ⟨_,T,rfl⟩ (by show(w.heap.modify c _).size=_;rw[Array.size_modify]) (λc' I=>by show(w.heap.modify c _)[c']? =_;rw[Array.getElem?_modify,if_neg (Ne.symm I)]) ?_ rfl rfl rfl (Nat.le_add_right _ _);refine⟨rfl,rfl,putCells id 0 F E,?_,?_,Om,?_⟩;{show(w.heap.modify c _)[c]? =_;rw[Array.getElem?_modify,if_pos rfl,V];rfl};{unfold putCells;rw[Array.size_mapIdx];exact hz};grind[Gs]
section
variable {α:Type}[Inhabited α]
def D7:∀(l:List Value),(List.range l.length).map (λt=>l[t]!)=l:=by intro l;apply oj (by simp);grind
def Kz(enc:α->List Value)(k:Nat)(E:∀x,(enc x).length=k)(A:0<k):∀(l:List α),(flatK enc k l.toArray).toList=l.flatMap enc:=by have key:∀(l:List α),(List.range (l.length*k)).map (λt=>(enc l[t / k]!)[t%k]!)=l.flatMap enc:=by{intro l;induction l with|nil=>simp|cons a l F=>rw[ct,i4,Nat.add_comm,List.range_add,pQ,List.flatMap_cons,<-F];congr 1;{(conv=>rhs;rw[<-D7 (enc a),E]);apply Eu;intro t q;have q:=List.mem_range.1 q;rw[Nat.div_eq_of_lt q,Nat.mod_eq_of_lt q];rfl};{rw[ui];apply Eu;intro t _;show(enc (a::l)[(k+t) / k]!)[(k+t)%k]! =_;rw[Nat.add_div_left _ A,Nat.add_mod_left];rfl}};simp_all[flatK,Array.toList_map,Array.toList_range]
end
section
variable {α:Type}[Inhabited α][Cell α]
def xD(x:α):List Value:=(Cell.cs x).map toV
omit [Inhabited α] in theorem Ng(x:α):(xD x).length=Cell.z α:=by unfold xD;rw[aX,Cell.len]
omit [Inhabited α] in theorem Ti(l:List α):l.flatMap xD=(ax l).map toV:=by unfold ax xD;rw[List.map_flatMap]
def NW(A:α->α->Int)(b e ez:Nat)(l:List α)(H:Heap)(v:IV)(H':Heap):Prop:=v=.tuple []/\∃q:List α,q.Perm l/\q.Pairwise (λx y=>ltOf A y x=false)/\H'.n=H.n/\(∀x,x≠b->H'.get x=H.get x)/\H'.get b=some (.cells false e ez (ax q))
def DR{ρ:Ren}(L:SlLaysF0.n6 P ρ)(E:∀x:α,(Cell.cs x).all QT=true)(aE:∀w,(isAgg (ρ.t 24)).run P w=.ok true w)(zE:∀w,(Go.sizeOf (ρ.t 24)).run P w=.ok (Cell.z α) w)(cf:α->α->Int)(hO:SWO (ltOf cf)){g b e ez lb:Nat}{ex:Bool}{l:List α}(b3:lo<=b)(hg:H.get b=some (.cells false e ez (ax l)))(b4:l.length<4611686018427387904)(eg:∀args w,(callFunc g args).run P w=.ok (.enter g args) w)(a5:∀(x y:α)(H':Heap),∃a3,CallSim P g0 g [.agg (Cell.cs x),.agg (Cell.cs y)] H'.n H' (.int .i64 (cf x y)) a3):Ru P g0 (ρ.f 6) [.slice b 0 l.length lb ex,.fn g [] []] lo H (NW cf b e ez l H):=by intro μ w ap hr ha;obtain⟨v1,cc,e1,b5,v2,cd,rfl,b6,rfl⟩:=ha;obtain⟨a,cap,rfl,Z,J⟩:=b5;obtain⟨l1,T,rfl,F,I⟩:=b6;have F:l1.toList=[]:=F;have I:T.toList=[]:=I;have F:l1=#[]:=Array.toList_eq_nil_iff.1 F;have I:T=#[]:=Array.toList_eq_nil_iff.1 I;subst F I;have a0:ap=#[.slice (some a) l.length cap,.func (.func g) #[] #[]]:=by{apply xi;rw[e1]};subst a0;have ba:∃c q z,μ b=.at c 0 q z/\q=ez/\(cap=0\/a=⟨c,0,none⟩):=by{unfold SlR at J;cases hb:μ b with|no=>rw[hb] at J;exact J.elim|dead=>have:=hr.ded b hb;rw[hg] at this;injection this with this;cases this|«at» c p q z=>rw[hb] at J;obtain⟨o,O,a2⟩:=hr.obj b c p q z hb;rw[hg] at O;injection O with O;subst O;obtain⟨rfl,rfl,_⟩:=a2;exact⟨c,_,z,rfl,rfl,by simpa using J.1⟩};obtain⟨c,q,z,hb,rfl,a1⟩:=ba;by_cases ad:l=[];{subst ad;exact(AnyF.slices_SortFunc_none L (some a) cap _ w).mono λe' w' ⟨V,h2⟩=>by subst V h2;exact⟨.tuple [],H,.tuple #[],μ,⟨rfl,[],.refl _,.nil,rfl,λ_ _=>rfl,hg⟩,rfl,hr,Post.refl hr,⟨#[],Rr⟩⟩};have b7:0<l.length:=List.length_pos_iff.2 ad;have ha:a=⟨c,0,none⟩:=by{rcases a1 with h|h;{have V:=Z.1;have h2:=Z.2.1;omega};{exact h}};subst ha;have Y:∀l:List α,(ax l).all QT=true:=λl=>by{unfold ax;rw[List.all_flatMap,Bt];exactλx _=>E x};have hF:∀d:Array α,(flatK xD (Cell.z α) d).toList=(ax d.toList).map toV:=λd=>by{rw[<-Ti,<-Kz xD (Cell.z α) Ng Cell.pos]};have a9:∀d:Array α,VRs μ (ax d.toList) (flatK xD (Cell.z α) d).toList:=λd=>(zm (Y _)).2 (hF d);obtain⟨o,O,a2⟩:=hr.obj b c 0 q z hb;rw[hg] at O;injection O with O;subst O;obtain⟨_,_,K,hc,hz,ca,hv⟩:=a2;have bd:K.toList.take (ax l).length=(flatK xD (Cell.z α) l.toArray).toList:=by{rw[hF];exact(zm (Y _)).1 hv};have a4:c<w.heap.size:=(Array.getElem?_eq_some_iff.1 hc).1;have hH:HoldsK xD (Cell.z α) w c 0 l.toArray:=by{intro j hj;have bw:j<(ax l).length:=by{rw[ay];simpa using hj};have b8:j<K.size:=Om;refine⟨?_,?_⟩;{unfold World.cell?;simp only[hc,AH,jm,if_false,bB];have V:(K.toList.take (ax l).length)[j]? =K[j]?:=by{rw[List.getElem?_take,if_pos bw,Hr]};rw[<-V,bd,Hr,Ed hj,getElem!_pos _ j hj];rfl};{unfold World.frozen?;simp only[hc];simp}};have hW:∀(d:Array α)(m:Nat)(os:Array Obj),d.size=l.length->Rel P g0 μ (H.put b (.cells false e q (ax d.toList))).get (H.put b (.cells false e q (ax d.toList))).n (sortWorldK xD (Cell.z α) w c 0 m d os)/\ Post lo μ H.get H.n w μ (H.put b (.cells false e q (ax d.toList))).get (H.put b (.cells false e q (ax d.toList))).n (sortWorldK xD (Cell.z α) w c 0 m d os):=by{intro d m os hd;obtain⟨T,p1⟩:=Y6 (lo:=lo) hr hb b3 hg (a9 d) (by rw[ay,ay,wK,hd]) m;exact⟨T.grown os,p1.trans (Post.grown T os)⟩};have bc:CmpLays P g #[] xD (Cell.z α) cf c 0 l.toArray.size w:=by{intro m os dk bo x y;obtain⟨T,_⟩:=hW dk m os (by simpa using bo);obtain⟨a3,hs⟩:=a5 x y (H.put b (.cells false e q (ax dk.toList)));have hx:∀x:α,VR μ (.agg (Cell.cs x)) (.agg (xD x).toArray):=λx=>⟨_,rfl,(zm (E x)).2 rfl⟩;refine(hs μ _ _ T ⟨_,_,rfl,hx x,_,_,rfl,hx y,rfl⟩).mono λe' w' ⟨v',ce,V,_,h3,h4⟩=>?_;have h4:v'=.int .i64 (cf x y):=h4;subst V h4;exact⟨rfl,Si h3⟩};have a6:∀x:α,∀v∈xD x,v.oneCell'=true:=by{intro x v hv;obtain⟨y,hy,rfl⟩:=List.mem_map.1 hv;have:=List.all_eq_true.1 (E x) y hy;cases y<;>first|(cases this;done)|rfl};have A:=AnyQ.slices_SortFunc L (Cell.z α) aE zE xD Ng a6 cf hO g #[] c 0 cap l.toArray w eg bc hH a4 (by simpa using b4);rw[Er] at A;refine A.mono λe' w' ⟨V,U,m,os,hp,hs,hw⟩=>?_;subst V hw;have hd:U.size=l.length:=by{simpa using hp.1};obtain⟨T,p1⟩:=hW U m os hd;refine⟨.tuple [],H.put b (.cells false e q (ax U.toList)),.tuple #[],μ,⟨rfl,U.toList,?_,?_,rfl,λx hx=>by rw[aa,if_neg (Ne.symm hx)],by rw[aa,if_pos rfl]⟩,rfl,T,p1,⟨#[],Rr⟩⟩;{have:=hp.2.2;have e1:U.extract 0 l.length=U:=by{rw[<-hd];exact Array.extract_size};have e2:l.toArray.extract 0 l.length=l.toArray:=by{rw[<-Er];exact Array.extract_size};rw[e1,e2] at this;simpa using this};{rw[Hv];intro i j hi hj bt;have:=hs i j (dA _) bt (by rw[<-hd,<-wK];exact hj);rw[getElem!_pos U i (by simpa using hi),getElem!_pos U j (by simpa using hj)] at this;simpa using this}
end
end
open Classical
def V5:IV->Bool|.int _ _=>true|.bool _=>true|.nilSlice=>true|.slice _ _ _ _ _=>true|_=>false
section
variable {P:Program}{g0 lo:Nat}
def ly{c:Code}{x y:IC}(h:bh P c=some (.seq x y)):∃a b,c=.seq a b/\bh P a=some x/\bh P b=some y:=by cases c<;>simp only[bh,fX,yp,fY,AD,pa,reduceCtorEq,and_false,exists_false] at h;grind
def A7{c:Code}{l:List (Sg×List IOp)}(h:bh P c=some (.ops l)):∃id ops q,c=.region id ops q/\cZ P ops q=some l:=by cases c<;>simp only[bh,fX,yp,fY,AD,pa,reduceCtorEq,and_false,exists_false] at h;grind
def NA{c:Code}{x:IC}{n:Nat}(h:bh P c=some (.block n x)):∃a,c=.block n a/\bh P a=some x:=by cases c<;>simp only[bh,fX,yp,fY,AD,pa,reduceCtorEq,and_false,exists_false] at h;grind
def PS{c:Code}{x:IC}(h:bh P c=some (.loop x)):∃a,c=.loop a/\bh P a=some x:=by cases c<;>simp only[bh,fX,yp,fY,AD,pa,reduceCtorEq,and_false,exists_false] at h;grind
end
open Classical
def D3(q:Nat->Nat):IV->IV|.slice b o n lb ex=>.slice (q b) o n lb ex|v=>v
def nmC(n:Nat):IV->Prop|.slice b _ _ _ _=>b<n|_=>True
def OP{μ q:Mu}{A:Nat->Nat}{n:Nat}(hm:∀b,b<n->q b=μ (A b)\/q b=.dead):∀{v:IV}{v':Value},V5 v=true->nmC n v->VR μ (D3 A v) v'->VR q v v'|.int _ _,_,_,_,h=>h|.bool _,_,_,_,h=>h|.nilSlice,_,_,_,h=>h|.slice b o n lb ex,_,_,I,h=>by obtain⟨a,cap,e,E,F⟩:=h;refine⟨a,cap,e,E,?_⟩;unfold SlR at F⊢;rcases hm b I with e|e<;>grind
def pN{μ q:Mu}{F:Nat->Nat}{n:Nat}(hm:∀b,b<n->q b=μ (F b)\/q b=.dead):∀{cs:List IV}{l:List Value},cs.all V5=true->(∀c∈cs,nmC n c)->VRs μ (cs.map (D3 F)) l->VRs q cs l|[],_,_,_,h=>h|c::cs,_,A,E,h=>by simp only[qY,bM] at A;obtain⟨y,ys,e,I,J⟩:=h;exact⟨y,ys,e,OP hm A.1 (E c wI) I,pN hm A.2 (λc K=>E c (i5 _ K)) J⟩
section
variable {μ μ1 μ':Mu}
def Ge(μ μ1 μ':Mu):Prop:=∀b,μ b≠.no->μ' b=μ1 b\/μ' b=.dead
def LocR.swap(hs:Ge μ μ1 μ'){b o:Nat}{q a:Addr}(h0:LocR μ b o q)(h:LocR μ1 b o a):LocR μ' b o a:=by have hn:μ b≠.no:=by{intro e;unfold LocR at h0;rw[e] at h0;exact h0};unfold LocR at h⊢;rcases hs b hn with e|e<;>grind
def SlR.swap(hs:Ge μ μ1 μ'){b o c0 cap:Nat}{ex:Bool}{q a:Addr}(h0:SlR μ b o ex c0 q)(h:SlR μ1 b o ex cap a):SlR μ' b o ex cap a:=by have hn:μ b≠.no:=by{intro e;unfold SlR at h0;rw[e] at h0;exact h0};unfold SlR at h⊢;rcases hs b hn with e|e<;>grind
mutual
def VR.swap(hs:Ge μ μ1 μ'):∀(x:IV)(O v:Value),VR μ x O->VR μ1 x v->VR μ' x v|.bool _,_,_,_,h=>h|.int _ _,_,_,_,h=>h|.str _,_,_,_,h=>h|.ptr _ _,_,_,h0,h=>by obtain⟨a,e,k⟩:=h;obtain⟨_,_,k0⟩:=h0;exact⟨a,e,k0.swap hs k⟩|.nilPtr,_,_,_,h=>h|.slice _ _ _ _ _,_,_,h0,h=>by obtain⟨a,c,e,k,l⟩:=h;obtain⟨_,_,_,_,J⟩:=h0;exact⟨a,c,e,k,J.swap hs l⟩|.nilSlice,_,_,_,h=>h|.map _,_,_,h0,h=>by obtain⟨a,e,k⟩:=h;obtain⟨_,_,k0⟩:=h0;exact⟨a,e,k0.swap hs k⟩|.nilMap,_,_,_,h=>h|.fn _ l r,_,_,h0,h=>by obtain⟨q,K,e,A,F⟩:=h;obtain⟨_,_,_,E,I⟩:=h0;exact⟨q,K,e,VRs.swap hs l _ _ E A,VRs.swap hs r _ _ I F⟩|.yield _,_,_,h0,h=>by obtain⟨a,e,k⟩:=h;obtain⟨_,_,k0⟩:=h0;exact⟨a,e,k0.swap hs k⟩|.nilFunc,_,_,_,h=>h|.iface _ x,_,_,h0,h=>by obtain⟨T,e,k⟩:=h;obtain⟨_,_,k0⟩:=h0;exact⟨T,e,VR.swap hs x _ _ k0 k⟩|.nilIface,_,_,_,h=>h|.agg l,_,_,h0,h=>by obtain⟨q,e,k⟩:=h;obtain⟨_,_,k0⟩:=h0;exact⟨q,e,VRs.swap hs l _ _ k0 k⟩|.tuple l,_,_,h0,h=>by obtain⟨q,e,k⟩:=h;obtain⟨_,_,k0⟩:=h0;exact⟨q,e,VRs.swap hs l _ _ k0 k⟩
def VRs.swap(hs:Ge μ μ1 μ'):∀(x:List IV)(A v:List Value),VRs μ x A->VRs μ1 x v->VRs μ' x v|[],_,_,_,h=>h|x::xs,_,_,h0,h=>by obtain⟨y,ys,e,k,ks⟩:=h;obtain⟨_,_,_,k0,q⟩:=h0;exact⟨y,ys,e,VR.swap hs x _ _ k0 k,VRs.swap hs xs _ _ q ks⟩
end
def EsR.swap(hs:Ge μ μ1 μ'):∀{q:List (IV×IV×Nat)}{E l:List MapEntry},EsR μ q E->EsR μ1 q l->EsR μ' q l|[],_,_,_,h=>h|(k,v,_)::_,_,_,h0,h=>by obtain⟨e,A,a,b,c,d,f⟩:=h;obtain⟨_,_,_,b0,c0,_,f0⟩:=h0;exact⟨e,A,a,VR.swap hs k _ _ b0 b,VR.swap hs v _ _ c0 c,d,EsR.swap hs f0 f⟩
def ObjR.swap{P:Program}(hs:Ge μ μ1 μ'){o:IObj}{p p0 ez I z z0:Nat}{h h0:Option Obj}(k0:ObjR P μ o p0 I z0 h0)(k:ObjR P μ1 o p ez z h):ObjR P μ' o p ez z h:=by cases o with|cells ro e U cs=>cases ro;{obtain⟨a,b,q,c,d,E,f⟩:=k;obtain⟨_,_,_,_,_,_,f0⟩:=k0;exact⟨a,b,q,c,d,E,VRs.swap hs _ _ _ f0 f⟩};{obtain⟨a,q,E,V,b,c,f⟩:=k;obtain⟨_,_,_,_,_,_,f0⟩:=k0;exact⟨a,q,E,V,b,c,VRs.swap hs _ _ _ f0 f⟩}|map es A=>obtain⟨a,F,b,c⟩:=k;obtain⟨_,_,_,c0⟩:=k0;exact⟨a,F,b,EsR.swap hs c0 c⟩|loop st pend tm ps O body df=>obtain⟨a,L,b,c,d,e,f,g,i,j⟩:=k;obtain⟨_,_,_,_,_,T,_,_,_,Y⟩:=k0;exact⟨a,L,b,c,d,VRs.swap hs _ _ _ T e,f,g,i,Y.swap hs j⟩|deferred=>exact k|taken=>exact k|iter m J seen K=>obtain⟨a,Z,b,c⟩:=k;obtain⟨_,_,_,c0⟩:=k0;exact⟨a,Z,b,VR.swap hs _ _ _ c0 c⟩|dead=>exact k
end
structure FixOk(lo:Nat)(H H1 Hs:Heap)(σ:Nat→Nat):Prop where
 hn:H.n≤Hs.n
 s0:∀b,b < H.n→σ b=b
 s1:∀b,H.n≤b→b < Hs.n→H.n≤σ b∧σ b < H1.n
 s2:∀b b',H.n≤b→b < Hs.n→H.n≤b'→b' < Hs.n→σ b=σ b'→b=b'
 low:∀b,b < lo→b < H.n→Hs.get b=H.get b
 old:∀b,b < H.n→(Hs.get b=H.get b∧H1.get b=H.get b)∨(lo≤b∧Hs.get b=some .dead)∨
  (lo≤b∧bq H.get b∧∃e z cs,Hs.get b=some (.cells false e z cs)∧H1.get b=some (.cells false e z (cs.map (D3 σ)))∧cs.all V5=true∧∀c∈cs,nmC Hs.n c)
 new:∀b,H.n≤b→b < Hs.n→∃e z cs,Hs.get b=some (.cells false e z cs)∧H1.get (σ b)=some (.cells false e z (cs.map (D3 σ)))∧cs.all V5=true∧∀c∈cs,nmC Hs.n c
section
variable {P:Program}{g0 lo:Nat}
def ZM{μ E:Mu}{H H1 J:Heap}{w w1:World}{U:Nat->Nat}(cd:g0<=lo)(hr:Rel P g0 μ H.get H.n w)(r1:Rel P g0 E H1.get H1.n w1)(Y:Post lo μ H.get H.n w E H1.get H1.n w1)(A:FixOk lo H H1 J U):∃a5,Rel P g0 a5 J.get J.n w1/\Post lo μ H.get H.n w a5 J.get J.n w1/\∀b,b<J.n->a5 b=E (U b)\/a5 b=.dead:=by let m2:Mu:=λb=>if b<J.n then(if J.get b=some .dead/\E (U b)≠.no then .dead else E (U b)) else .no;have b4:∀b,J.n<=b->m2 b=.no:=λb h=>by{grind};have b3:∀b,b<J.n->J.get b=some .dead->E (U b)≠.no->m2 b=.dead:=λb F q h3=>by{grind};have bc:∀b,b<J.n->¬(J.get b=some .dead/\E (U b)≠.no)->m2 b=E (U b):=λb F q=>by{grind};have ad:∀b,b<J.n->m2 b=E (U b)\/m2 b=.dead:=λb h=>by{grind};have b8:∀b,b<J.n->E (U b)=.no->m2 b=.no:=λb F q=>by{grind};have aE:∀b c p ez z,m2 b=.at c p ez z->b<J.n/\E (U b)=.at c p ez z/\J.get b≠some .dead:=by{grind};have ba:∀b b',b<J.n->b'<J.n->U b=U b'->b=b':=by{intro b b' F q he;rcases dp b H.n with c1|c1<;>rcases dp b' H.n with c2|c2;{rw[A.s0 b c1,A.s0 b' c2] at he;exact he};{have:=A.s0 b c1;have:=A.s1 b' c2 q;omega};{have:=A.s0 b' c2;have:=A.s1 b c1 F;omega};{exact A.s2 b b' c1 F c2 q he}};have bo:Ge μ E m2:=λb I=>by{have O:=hr.lt b I;have:=ad b (bW O A.hn);rwa [A.s0 b O] at this};have bd:∀b,b<J.n->bq J.get b->bq H1.get (U b):=by{rintro b I ⟨o,F,q⟩;rcases dp b H.n with c|c;{rw[A.s0 b c];rcases A.old b c with⟨K,V⟩|⟨_,K⟩|⟨_,_,e,z,cs,K,V,_⟩;{exact⟨o,by rw[V,<-K];exact F,q⟩};{rw[K] at F;injection F with F;subst F;cases q};{exact⟨_,V,rfl⟩}};{obtain⟨e,z,cs,K,V,_⟩:=A.new b c I;exact⟨_,V,rfl⟩}};have b6:μ.le m2:=λb I=>by{have O:=hr.lt b I;rcases bo b I with e|e;{rw[e];exact Y.le b I};{exact .inr e}};refine⟨m2,⟨?_,?_,?_,?_,?_⟩,⟨b6,A.hn,?_,?_,?_,?_,?_,Y.size,Y.frame,Y.os,Y.tape,Y.output,Y.drawn⟩,ad⟩;{grind};{intro b b' c p ez z p' ca z' I bt ho;obtain⟨F,q,_⟩:=aE _ _ _ _ _ I;obtain⟨h3,h4,_⟩:=aE _ _ _ _ _ bt;exact ba b b' F h3 (r1.inj _ _ _ _ _ _ _ _ _ q h4 (bd b F ho))};{intro b c p ez z I;obtain⟨F,q,h3⟩:=aE _ _ _ _ _ I;obtain⟨o1,g1,k1⟩:=r1.obj _ c p ez z q;rcases dp b H.n with cc|cc;{have e0:=A.s0 b cc;rw[e0] at g1 q;rcases A.old b cc with⟨K,V⟩|⟨_,K⟩|⟨_,_,e,z',cs,K,V,a3,a4⟩;{rw[V] at g1;refine⟨o1,by rw[K];exact g1,?_⟩;have b7:μ b≠.no:=λh=>by{rw[Y.old b cc h] at q;cases q};obtain⟨c0,p0,ap,z0,bw⟩:∃c0 p0 ap z0,μ b=.at c0 p0 ap z0:=by{cases hm:μ b with|no=>exact absurd hm b7|dead=>have:=hr.ded b hm;rw[g1] at this;injection this with this;subst this;exact k1.elim|«at» c0 p0 ap z0=>exact⟨_,_,_,_,rfl⟩};obtain⟨o0,T,k0⟩:=hr.obj b _ _ _ _ bw;rw[g1] at T;injection T with T;subst T;exact k0.swap bo k1};{exact absurd K h3};{rw[V] at g1;injection g1 with g1;subst g1;obtain⟨q1,q2,a6,q3,q4,q5,q6⟩:=k1;rw[aX] at q5 q6;exact⟨_,K,q1,q2,a6,q3,q4,q5,pN ad a3 a4 q6⟩}};{obtain⟨e,z',cs,K,V,a3,a4⟩:=A.new b cc F;rw[V] at g1;injection g1 with g1;subst g1;obtain⟨q1,q2,a6,q3,q4,q5,q6⟩:=k1;rw[aX] at q5 q6;exact⟨_,K,q1,q2,a6,q3,q4,q5,pN ad a3 a4 q6⟩}};{intro i hi;have b5:=hr.glob i hi;have O:=hr.lt i (by grind);have F:=r1.glob i hi;have e0:=A.s0 i O;rcases ad i (bW O A.hn) with e|e;{rw[e,e0];exact F};{have hd:J.get i=some .dead:=by{grind};rw[A.low i Om O] at hd;obtain⟨o,g,k⟩:=hr.obj i _ _ _ _ b5;rw[hd] at g;injection g with g;subst g;exact k.elim}};{intro b I;have O:b<J.n:=J3 λh=>by{rw[b4 b h] at I;cases I};by_cases q:J.get b=some .dead/\E (U b)≠.no;{exact q.1};{rw[bc b O q] at I;have hd:=r1.ded _ I;rcases dp b H.n with cc|cc;{rw[A.s0 b cc] at hd;rcases A.old b cc with⟨K,V⟩|⟨_,K⟩|⟨_,_,e,z',cs,K,V,_⟩<;>grind};{obtain⟨e,z',cs,K,V,_⟩:=A.new b cc O;grind}}};{intro b I h;exact b8 b (bW I A.hn) (by rw[A.s0 b I];exact Y.old b I h)};{intro b I Z;have hl:=Y.low b I Z;have hg:=A.low b I Z;refine⟨?_,hg⟩;have a9:=bW Z A.hn;by_cases q:J.get b=some .dead/\E (U b)≠.no;{rw[b3 b a9 q.1 q.2];have h3:=q.2;rw[A.s0 b Z,hl.1] at h3;cases hm:μ b with|no=>exact absurd hm h3|dead=>rfl|«at» c0 p0 ap z0=>obtain⟨o0,T,k0⟩:=hr.obj b _ _ _ _ hm;rw[<-hg,q.1] at T;injection T with T;subst T;exact k0.elim};{rw[bc b a9 q,A.s0 b Z];exact hl.1}};{rintro b I ⟨o,F,q⟩;rcases A.old b I with⟨K,_⟩|⟨_,K⟩|⟨_,a0,_⟩;{exact⟨o,by rw[<-K];exact F,q⟩};{rw[K] at F;injection F with F;subst F;cases q};{exact a0}};{intro b c p ez z I e;obtain⟨F,q,_⟩:=aE _ _ _ _ _ e;exact Y.new _ c p ez z (A.s1 b I F).1 q};{intro b F q;have:=A.s1 b F q;have h3:=Y.full _ this.1 this.2;grind}
def XB{f:FuncId}{fn:IFn}(A:jp P f=some fn){args:List IV}{H Hs:Heap}{v:List IV}(a0:g0<=lo){NC:Prop}(bc:∀(μ:Mu)(w:World)(q:Array Value),Rel P g0 μ H.get H.n w->VRs μ args q.toList->NC)(K:NC->∀F c,P.funcs[f]? =some F->F.body=some c->bh P c=some fn.body->NItem P g0 lo (.code c) none ⟨args++du (fn.ntmps - args.length),[]⟩ H λo H'=>∃e I,o=.ex e I/\(∀id,e≠.jmp (.exit id))/\I.marks=[]/\ ∃σ,aG H' I.tm fn.results=some [.agg (v.map (D3 σ))]/\v.all V5=true/\(∀c∈v,nmC Hs.n c)/\FixOk lo H H' Hs σ):CallSim P g0 f args lo H (.agg v) Hs:=by unfold jp at A;cases V:P.funcs[f]? with|none=>rw[V] at A;cases A|some F=>rw[V] at A;simp only at A;split at A;{cases A};{cases hb:F.body with|none=>rw[hb] at A;cases A|some c=>rw[hb] at A;simp only at A;cases E:F.results.toList.mapM (BM P) with|none=>rw[E] at A;cases A|some b5=>cases O:bh P c with|none=>rw[E,O] at A;cases A|some ic=>rw[E,O] at A;injection A with A;subst A;intro μ w q hr ha cs;have hs:=K (bc μ w q hr ha) F c V hb O;have ht:VRs μ (args++du (F.ntmps - args.length)) (q++Array.replicate (F.ntmps - q.size) undef).toList:=by{have hl:args.length=q.size:=by{have:=ha.length;simpa using this};rw[hl,Ea,Array.toList_replicate];exact ha.append (rK _)};obtain⟨e,b4,H1,b3,w1,t1,ad,⟨e',I,ap,he,ba,σ,hv,bo,bd,aE⟩,a1,a2,a3,a4,a5⟩:=hs μ w _ none [] hr ht rfl rfl f [] cs;injection ap with q1 q2;subst q1 q2;rw[ba] at a4;have a4:ad=[]:=a4;subst a4;have J:Frame.enter P f q .normal=bR f none (q++Array.replicate (F.ntmps - q.size) undef) [] [.code c]:=by{simp[Frame.enter,bR,V,hb]};have a9:∃todo,Steps P (lone (Frame.enter P f q .normal) cs w) (lone (TU f t1 [] todo) cs w1):=by{rw[J];cases e with|normal=>exact⟨[],Steps.trans a5 (.one (xU (.inl rfl)))⟩|jmp j=>cases j with|exit id=>exact absurd rfl (he id)|ret=>obtain⟨pre,b1,_⟩:=a5;exact⟨_,Steps.trans b1 (.one (xU (.inr ⟨_,rfl⟩)))⟩};obtain⟨todo,bw⟩:=a9;obtain⟨v',Z,U⟩:=wF a1 a3 E hv;have U:VR b3 (.agg (v.map (D3 σ))) v':=U;obtain⟨m2,Y,T,bt⟩:=ZM a0 hr a1 a2 aE;refine⟨.returned v',w1,TU f t1 [] todo,⟨v',m2,rfl,Y,T,?_⟩,bw,rfl,rfl,rfl,rfl,F,V,Z⟩;obtain⟨l',e',a6⟩:=U;exact⟨l',e',pN bt bo bd a6⟩}
noncomputable def pr(P:Program)(g0:Nat)(f:FuncId)(C:List IV->Heap->Option (IV×Heap)):List IV->Nat->Heap->Option (IV×Heap):=λargs lo H=>match C args H with|some (v,H')=>if Keep lo H H'/\CallSim P g0 f args lo H v H' then some (v,H') else none|none=>none
def BE{f:FuncId}{C:List IV->Heap->Option (IV×Heap)}{args:List IV}{H H':Heap}{v:IV}(q:C args H=some (v,H'))(A:Keep lo H H')(hs:CallSim P g0 f args lo H v H'):pr P g0 f C args lo H=some (v,H'):=by simp_all[pr,if_pos]
def KA{f:FuncId}{C:List IV->Heap->Option (IV×Heap)}{args:List IV}{H H':Heap}{v:IV}(h:pr P g0 f C args lo H=some (v,H')):Keep lo H H'/\∀q,q<=lo->pr P g0 f C args q H=some (v,H'):=by unfold pr at h;split at h;{rename_i K H0 J;split at h;{rename_i A;injection h with h;injection h with F I;subst F I;exact⟨A.1,λq E=>BE J (A.1.lower E) (A.2.lower E)⟩};{cases h}};{cases h}
def Pv{f:FuncId}{C:List IV->Heap->Option (IV×Heap)}{args:List IV}{H H':Heap}{v:IV}(h:pr P g0 f C args lo H=some (v,H')):CallSim P g0 f args lo H v H':=by grind[pr]
end
end Go.Iso
