/-
  rules of runs over ranges, slices and lists.
-/
import Derived.Test.YtadopgcoggpcdaaGreatDoorIsoP6
import Derived.IntWalk
import Derived.Shelf.SlSortCmp.NoneTotal
set_option linter.unusedSimpArgs false
set_option linter.unusedVariables false
set_option maxRecDepth 100000
set_option linter.defProp false
namespace Go.Iso
section
variable {E:Env}{lo:Nat}{rd:Option Nat}{fr:Fr}{H:Heap}{Q:CJ}
def Qq:Option Jmp->Ex|none=>.normal|some j=>.jmp j
def Zq:Qq none=.normal:=rfl
def Zp{j:Jmp}:Qq (some j)=.jmp j:=rfl
def VM(l lo:Nat)(marks:List Nat)(fr:Fr)(Q:CJ)(I:Heap)(ob:Option IObj):Prop:=match ob with|some (.loop st pend tm O F body J)=>st≠.busy/\lo<=l/\Q (.ex (Qq pend) {fr with marks:=marks++fr.marks}) (I.put l (.loop .exhausted pend tm O F body J))|_=>False
def ab3(l lo:Nat)(marks:List Nat)(fr:Fr)(Q:CJ):CJ:=λo F=>match o with|.val _=>VM l lo marks fr Q F (F.get l)|_=>False
def agR(E:Env)(lo:Nat)(I:List Nat)(F body:IC)(fr:Fr)(Q:CJ)(g:IV)(e:Nat×List Nat×Heap):Prop:=W E lo (.apply g [.yield e.2.2.n]) (e.2.2.new (.loop .ready none fr.tm I F body e.1)) (ab3 e.2.2.n lo e.2.1 fr Q)
def ab2{l:Nat}{marks:List Nat}{v:IV}:ab3 l lo marks fr Q (.val v) H=VM l lo marks fr Q H (H.get l):=rfl
def ab1{l:Nat}{marks:List Nat}{st:LoopState}{pend:Option Jmp}{tm:List IV}{J:List Nat}{F body:IC}{I:Nat}:VM l lo marks fr Q H (some (.loop st pend tm J F body I))=(st≠.busy/\lo<=l/\Q (.ex (Qq pend) {fr with marks:=marks++fr.marks}) (H.put l (.loop .exhausted pend tm J F body I))):=rfl
def ac5{f:IA}{ps:List Nat}{J body:IC}{g:IV}{e:Nat×List Nat×Heap}(hg:f.eval E.g0 fr.tm=some g)(he:j5 rd H=some e):W E lo (.code (.rfn f ps J body) rd fr) H Q=agR E lo ps J body fr Q g e:=by obtain⟨df,marks,H1⟩:=e;refine propext ⟨?_,?_⟩;{rintro⟨n,o,H',h,hq⟩;cases n with|zero=>cases h|succ n=>rw[run] at h;simp only[hg,he] at h;cases h1:run E n (.apply g [.yield H1.n]) lo (H1.new (.loop .ready none fr.tm ps J body df)) with|none=>rw[h1] at h;cases h|some p=>rw[h1] at h;obtain⟨o1,T⟩:=p;refine⟨n,o1,T,h1,?_⟩;cases o1 with|ex e fr=>cases h|val v=>simp only at h;show VM _ _ _ _ _ _ _;cases V:T.get H1.n with|none=>rw[V] at h;cases h|some ob=>rw[V] at h;cases ob with|loop st pend tm Z I F U=>(simp only at h;split at h;{cases h};{rename_i hn;refine⟨λe=>hn (.inl e),Nat.le_of_not_lt λe=>hn (.inr e),?_⟩;cases pend with|none=>injection h with h;injection h with h3 h4;subst h3 h4;exact hq|some j=>injection h with h;injection h with h3 h4;subst h3 h4;exact hq})|_=>cases h};{intro h;refine afG hg he (h.mono λo T h=>?_);cases o with|ex e fr=>exact h.elim|val v=>have O:VM H1.n lo marks fr Q T (T.get H1.n):=h;cases V:T.get H1.n with|none=>rw[V] at O;exact O.elim|some ob=>rw[V] at O;cases ob with|loop st pend tm Z I F U=>exact⟨v,st,pend,tm,Z,I,F,U,rfl,rfl,O.1,O.2.1,by cases pend<;>exact O.2.2⟩|_=>exact O.elim}
def ac6{f:IA}{J:List Nat}{F body:IC}:W E lo (.code (.rfn f J F body) none fr) H Q=oj (f.eval E.g0 fr.tm) λg=>W E lo (.apply g [.yield (H.n+1)]) ((H.new .deferred).new (.loop .ready none fr.tm J F body H.n)) (ab3 (H.n+1) lo [H.n] fr Q):=by cases I:f.eval E.g0 fr.tm with|none=>(refine propext ⟨?_,λh=>h.elim⟩;rintro⟨n,o,H',h,O⟩;cases n with|zero=>cases h|succ n=>rw[run] at h;simp only[I] at h;cases h)|some g=>exact ac5 I (e:=(H.n,[H.n],H.new .deferred)) rfl
def EU(l:Nat)(Q:CJ)(e:Ex)(H:Heap)(ob:Option IObj):Prop:=match ob with|some (.loop _ _ tm J F body I)=>(match e with|.normal=>Q (.val (.bool true)) (H.put l (.loop .ready none tm J F body I))|.jmp j=>Q (.val (.bool false)) (H.put l (.loop .done (some j) tm J F body I)))|_=>False
def UX(l:Nat)(Q:CJ):CJ:=λo H=>match o with|.ex e _=>EU l Q e H (H.get l)|_=>False
def Ci(E:Env)(lo l:Nat)(body:IC)(Q:CJ)(fr:Fr)(H:Heap)(ob:Option IObj):Prop:=match ob with|some (.loop .ready pend tm O I F J)=>W E lo (.code body (some l) fr) (H.put l (.loop .busy pend tm O I F J)) (UX l Q)|_=>False
def Ow(E:Env)(lo l:Nat)(body:IC)(Q:CJ):CJ:=λo H=>match o with|.ex .normal fr=>Ci E lo l body Q fr H (H.get l)|_=>False
def TH(E:Env)(lo l:Nat)(args:List IV)(Q:CJ)(H:Heap)(ob:Option IObj):Prop:=match ob with|some (.loop _ _ tm I F body _)=>args.length=I.length/\lo<=l/\W E lo (.code F (some l) ⟨gU tm I args,[]⟩) H (Ow E lo l body Q)|_=>False
def YK{l:Nat}{e:Ex}:UX l Q (.ex e fr) H=EU l Q e H (H.get l):=rfl
def YI{l:Nat}{st:LoopState}{pend:Option Jmp}{tm:List IV}{J:List Nat}{F body:IC}{I:Nat}:EU l Q .normal H (some (.loop st pend tm J F body I))=Q (.val (.bool true)) (H.put l (.loop .ready none tm J F body I)):=rfl
def YJ{l:Nat}{j:Jmp}{st:LoopState}{pend:Option Jmp}{tm:List IV}{J:List Nat}{F body:IC}{I:Nat}:EU l Q (.jmp j) H (some (.loop st pend tm J F body I))=Q (.val (.bool false)) (H.put l (.loop .done (some j) tm J F body I)):=rfl
def VU{l:Nat}{body:IC}:Ow E lo l body Q (.ex .normal fr) H=Ci E lo l body Q fr H (H.get l):=rfl
def VT{l:Nat}{body F:IC}{pend:Option Jmp}{tm:List IV}{O:List Nat}{I:IC}{J:Nat}:Ci E lo l body Q fr H (some (.loop .ready pend tm O I F J))=W E lo (.code body (some l) fr) (H.put l (.loop .busy pend tm O I F J)) (UX l Q):=rfl
def TG{l:Nat}{args:List IV}{st:LoopState}{pend:Option Jmp}{tm:List IV}{I:List Nat}{F body:IC}{J:Nat}:TH E lo l args Q H (some (.loop st pend tm I F body J))=(args.length=I.length/\lo<=l/\W E lo (.code F (some l) ⟨gU tm I args,[]⟩) H (Ow E lo l body Q)):=rfl
def Mg{l:Nat}{args:List IV}:W E lo (.apply (.yield l) args) H Q=TH E lo l args Q H (H.get l):=by refine propext ⟨?_,?_⟩;{rintro⟨n,o,H',h,hq⟩;cases n with|zero=>cases h|succ n=>rw[run] at h;(try simp only at h);cases hg:H.get l with|none=>rw[hg] at h;cases h|some ob=>rw[hg] at h;cases ob with|loop st pend tm ps ay body df=>simp only at h;split at h;{rename_i hl;refine⟨hl.1,hl.2,?_⟩;cases h1:run E n (.code ay (some l) ⟨gU tm ps args,[]⟩) lo H with|none=>rw[h1] at h;cases h|some p=>rw[h1] at h;obtain⟨o1,H1⟩:=p;refine⟨n,o1,H1,h1,?_⟩;cases o1 with|val v=>cases h|ex e fr=>cases e with|jmp j=>cases h|normal=>simp only at h;show Ci _ _ _ _ _ _ _ _;simp only[kM] at h;cases hb:H1.get l with|none=>rw[hb] at h;cases h|some V=>rw[hb] at h;cases V with|loop ag J a2 a1 O I a0=>(cases ag with|ready=>(simp only at h;cases h2:run E n (.code body (some l) fr) lo (H1.put l (.loop .busy J a2 a1 O I a0)) with|none=>rw[h2] at h;cases h|some p=>rw[h2] at h;obtain⟨o3,H3⟩:=p;refine⟨n,o3,H3,h2,?_⟩;cases o3 with|val v=>cases h|ex e fr3=>simp only[EJ] at h;show EU _ _ _ _ _;cases U:H3.get l with|none=>rw[U] at h;cases h|some Z=>rw[U] at h;cases Z with|loop a5 ad NX a4 aE T a3=>(cases e with|normal=>injection h with h;injection h with h3 h4;subst h3 h4;exact hq|jmp j=>injection h with h;injection h with h3 h4;subst h3 h4;exact hq)|_=>cases h)|_=>cases h)|_=>cases h};{cases h}|_=>cases h};{intro h;cases hg:H.get l with|none=>rw[hg] at h;exact h.elim|some ob=>rw[hg] at h;cases ob with|loop st pend tm ps ay body df=>(obtain⟨h1,h2,h3⟩:=h;refine aaA hg h1 h2 (h3.mono λo H1 h=>?_);cases o with|val v=>exact h.elim|ex e fr=>cases e with|jmp j=>exact h.elim|normal=>have h':Ci E lo l body Q fr H1 (H1.get l):=h;cases hb:H1.get l with|none=>rw[hb] at h';exact h'.elim|some V=>rw[hb] at h';cases V with|loop ag J a2 a1 O I a0=>(cases ag with|ready=>(refine⟨fr,_,rfl,by simp only[kM,hb],W.mono h' λo H3 h=>?_⟩;cases o with|val v=>exact h.elim|ex e fr3=>have F:EU l Q e H3 (H3.get l):=h;cases U:H3.get l with|none=>rw[U] at F;exact F.elim|some Z=>rw[U] at F;cases Z with|loop a5 ad NX a4 aE T a3=>(cases e with|normal=>exact⟨_,_,(_,_),rfl,by simp only[EJ,U];rfl,F⟩|jmp j=>exact⟨_,_,(_,_),rfl,by simp only[EJ,U];rfl,F⟩)|_=>exact F.elim)|_=>exact h'.elim)|_=>exact h'.elim)|_=>exact h.elim}
def aeO(I:Nat->Fr->Heap->Prop)(k:Nat)(Q:CJ):CJ:=λo H=>match o with|.ex .normal fr=>∃F,F<k/\I F fr H|o=>Q o H
def aB{c:IC}(I:Nat->Fr->Heap->Prop)(h:∀k fr H,I k fr H->∀L:CJ,(∀F fr H,F<k->I F fr H->L (.ex .normal fr) H)->(∀j fr H,L (.ex (.jmp j) fr) H=Q (.ex (.jmp j) fr) H)->W E lo (.code c rd fr) H L):∀(k:Nat){fr:Fr}{H:Heap},I k fr H->W E lo (.code (.loop c) rd fr) H Q:=by intro k;induction k using Nat.strongRecOn with|ind k ih=>intro fr H Z;rw[qK];refine(h k fr H Z (aeO I k Q) (λF fr H U V=>⟨F,U,V⟩) (λj fr H=>rfl)).mono λo H' J=>?_;cases o with|val v=>exact J|ex e T=>cases e with|jmp j=>exact J|normal=>obtain⟨F,hk,O⟩:=J;exact ih F hk O
end
def ahC{a b:Nat}(h:b<a):(a=b)=False:=by simp;omega
def ahB{a b:Nat}(h:a<b):(a=b)=False:=by simp;omega
def cLe{a b:Nat}(h:a<=b):(a<=b)=True:=by simp[h]
def ahA{a b:Nat}(h:b<a):(a<=b)=False:=by simp;omega
def cLt{a b:Nat}(h:a<b):(a<b)=True:=by simp[h]
def ahz{a b:Nat}(h:b<=a):(a<b)=False:=by simp;omega
def iLe{a b:Int}(h:a<=b):(a<=b)=True:=by simp[h]
def ag9{a b:Int}(h:b<a):(a<=b)=False:=by simp;omega
def iLt{a b:Int}(h:a<b):(a<b)=True:=by simp[h]
def ag8{a b:Int}(h:b<=a):(a<b)=False:=by simp;omega
def iGe{a b:Int}(h:a>=b):(a>=b)=True:=by simp;omega
def ahb{a b:Int}(h:a<b):(a>=b)=False:=by simp;omega
def iGt{a b:Int}(h:a>b):(a>b)=True:=by simp;omega
def aha{a b:Int}(h:a<=b):(a>b)=False:=by simp;omega
def ahd{a b:Int}(h:a=b):(a==b)=true:=by simp[h]
def ae2{a b:Int}(h:a<b\/b<a):(a==b)=false:=by simp;omega
def ahc{a b:Int}(h:a<b\/b<a):(a !=b)=true:=by simp;omega
def ae1{a b:Int}(h:a=b):(a !=b)=false:=by simp[h]
def agI{a:Int}(h: -9223372036854775808<=a/\a<=9223372036854775807):IntKind.i64.wrap a=a:=IntWalk.i64_in a Om
def wU8{a:Int}(h:0<=a/\a<=255):IntKind.u8.wrap a=a:=IntWalk.u8_in a h
def PF{l:List IV}:(IV.agg l).cells=l:=rfl
def PE{k:IntKind}{n:Int}:(IV.int k n).cells=[.int k n]:=rfl
def LX{b:Bool}:(IV.bool b).cells=[.bool b]:=rfl
def PA{s:List UInt8}:(IV.str s).cells=[.str s]:=rfl
def PB{b o:Nat}:(IV.ptr b o).cells=[.ptr b o]:=rfl
def EM:IV.nilPtr.cells=[.nilPtr]:=rfl
def Jf{b o n c:Nat}{ex:Bool}:(IV.slice b o n c ex).cells=[.slice b o n c ex]:=rfl
def Aw:IV.nilSlice.cells=[.nilSlice]:=rfl
def PC{b:Nat}:(IV.map b).cells=[.map b]:=rfl
def EN:IV.nilMap.cells=[.nilMap]:=rfl
def Tf{f:FuncId}{a b:List IV}:(IV.fn f a b).cells=[.fn f a b]:=rfl
def Je{b:Nat}:(IV.yield b).cells=[.yield b]:=rfl
def D2:IV.nilFunc.cells=[.nilFunc]:=rfl
def Jg{t:TypeId}{v:IV}:(IV.iface t v).cells=[.iface t v]:=rfl
def Ax:IV.nilIface.cells=[.nilIface]:=rfl
def wQ{k:IntKind}{n:Int}:(IV.int k n).one=true:=rfl
def ub{b:Bool}:(IV.bool b).one=true:=rfl
def Wb{s:List UInt8}:(IV.str s).one=true:=rfl
def Wd{b o:Nat}:(IV.ptr b o).one=true:=rfl
def Kz:IV.nilPtr.one=true:=rfl
def OM{b o n c:Nat}{ex:Bool}:(IV.slice b o n c ex).one=true:=rfl
def EB:IV.nilSlice.one=true:=rfl
def We{b:Nat}:(IV.map b).one=true:=rfl
def KA:IV.nilMap.one=true:=rfl
def Zw{f:FuncId}{a b:List IV}:(IV.fn f a b).one=true:=rfl
def OL{b:Nat}:(IV.yield b).one=true:=rfl
def Iq:IV.nilFunc.one=true:=rfl
def ON{t:TypeId}{v:IV}:(IV.iface t v).one=true:=rfl
def EC:IV.nilIface.one=true:=rfl
def VX(ob:IObj)(o n:Nat):Option (List IV):=match ob with|.cells _ _ _ cs=>if o+n<=cs.length then some ((cs.drop o).take n) else none|_=>none
def Zm{E:Bool}{e ez:Nat}{cs:List IV}{o n:Nat}:VX (.cells E e ez cs) o n=if o+n<=cs.length then some ((cs.drop o).take n) else none:=rfl
def VW{H:Heap}{ob:IObj}{b o n:Nat}:(H.new ob).read b o n=if H.n=b then VX ob o n else H.read b o n:=by unfold Heap.read;rw[ak];by_cases h:H.n=b;{simp only[h,if_true];cases ob<;>rfl};{simp[h]}
def VV{H:Heap}{ob:IObj}{b' b o n:Nat}:(H.put b' ob).read b o n=if b'=b then VX ob o n else H.read b o n:=by unfold Heap.read;rw[aa];by_cases h:b'=b;{simp only[h,if_true];cases ob<;>rfl};{simp[h]}
def ae{H:Heap}{E:Bool}{e ez:Nat}{cs:List IV}{b:Nat}(h:H.get b=some (.cells E e ez cs))(o n:Nat):H.read b o n=if o+n<=cs.length then some ((cs.drop o).take n) else none:=by unfold Heap.read;rw[h]
def HN{H H':Heap}{b:Nat}(h:H'.get b=H.get b)(o n:Nat):H'.read b o n=H.read b o n:=by unfold Heap.read;rw[h]
def Keep.read{lo:Nat}{H H':Heap}(k:Keep lo H H')(b o n:Nat)(E:b<lo)(F:b<H.n):H'.read b o n=H.read b o n:=HN (k.2 b E F) o n
inductive SV where
 | nil
 | sl (b o n c:Nat) (ex:Bool)
 deriving Inhabited
def SV.iv:SV->IV|.nil=>.nilSlice|.sl b o n c ex=>.slice b o n c ex
def SV.blk:SV->Nat|.nil=>0|.sl b _ _ _ _=>b
def SV.off:SV->Nat|.nil=>0|.sl _ o _ _ _=>o
def SV.tight:SV->Prop|.nil=>True|.sl _ _ n c ex=>c=n/\ex=true
def jC(v:SV):v.iv.one=true:=by cases v<;>rfl
def Ml(v:SV):v.iv.cells=[v.iv]:=by cases v<;>rfl
def Gu:SV.nil.iv=.nilSlice:=rfl
def pt{b o n c:Nat}{ex:Bool}:(SV.sl b o n c ex).iv=.slice b o n c ex:=rfl
class Cell (α:Type) where
 z:Nat
 cs:α→List IV
 len:∀a,(cs a).length=z
 one:∀a,(cs a).all IV.one=true
 pos:0 < z
instance:Cell SV where
 z:=1
 cs v:=[v.iv]
 len _:=rfl
 one v:=by simp[jC]
 pos:=by omega
theorem iL(v:SV):Cell.cs v=[v.iv]:=rfl
def dY:Cell.z SV=1:=rfl
def bz{b o n c:Nat}{ex:Bool}:(SV.sl b o n c ex).blk=b:=rfl
def bV{b o n c:Nat}{ex:Bool}:(SV.sl b o n c ex).off=o:=rfl
section
variable {α:Type}[Cell α]
def az(l:List α):List IV:=l.flatMap Cell.cs
theorem bJ(a:α)(l:List α):az (a::l)=Cell.cs a++az l:=rfl
theorem ie(a b:List α):az (a++b)=az a++az b:=by simp[az]
def Lj(a:α):az [a]=Cell.cs a:=by simp[az]
def ax(l:List α):(az l).length=l.length*Cell.z α:=by induction l with|nil=>simp[az]|cons p l E=>rw[bJ,be,E,Cell.len,bQ,gW];omega
def lF(l:List α):(az l).all IV.one=true:=by induction l with|nil=>rfl|cons p l E=>rw[bJ,List.all_append,E,Cell.one];rfl
theorem ui(l:List α)(k:Nat):(az l).drop (k*Cell.z α)=az (l.drop k):=by induction l generalizing k with|nil=>simp[az]|cons p l E=>cases k with|zero=>simp|succ k=>rw[bJ,List.drop_succ_cons,gW,yx,<-Cell.len p,List.drop_length_add_append,Cell.len,E]
theorem FZ(l:List α)(k:Nat):(az l).take (k*Cell.z α)=az (l.take k):=by induction l generalizing k with|nil=>simp[az]|cons p l E=>cases k with|zero=>simp[az]|succ k=>rw[bJ,List.take_succ_cons,bJ,gW,yx,<-Cell.len p,List.take_length_add_append,Cell.len,E]
def Z2(l:List α)(i:Nat)(h:i<l.length):((az l).drop (i*Cell.z α)).take (Cell.z α)=Cell.cs l[i]:=by grind[ui,List.drop_eq_getElem_cons,bJ,Cell.len,List.take_left]
def oR{H:Heap}{b o n a m:Nat}{cs:List IV}(h:H.read b o n=some cs)(I:a+m<=n):H.read b (o+a) m=some ((cs.drop a).take m):=by unfold Heap.read at h⊢;cases E:H.get b with|none=>rw[E] at h;cases h|some ob=>rw[E] at h;cases ob with|cells J e ez F=>simp only at h⊢;split at h;{injection h with h;rw[iP,<-h,List.drop_take,List.take_take,uP,show min m (n - a)=m from by omega]};{cases h}|_=>cases h
def Sl(H:Heap)(v:SV)(l:List α):Prop:=match v with|.nil=>l=[]|.sl b o n c _=>n=l.length/\n<=c/\(l≠[]->b<H.n/\H.read b o (l.length*Cell.z α)=some (az l))
def Sl.keep{H H':Heap}{v:SV}{l:List α}(h:Sl H v l)(k:Keep H.n H H'):Sl H' v l:=by cases v with|nil=>exact h|sl b o n c ex=>exact⟨h.1,h.2.1,λhl=>⟨cw (h.2.2 hl).1 k.1,(k.read b o _ (h.2.2 hl).1 (h.2.2 hl).1).trans (h.2.2 hl).2⟩⟩
def Sl.same{H H':Heap}{v:SV}{l:List α}(h:Sl H v l)(hn:H.n<=H'.n)(E:l≠[]->H'.get v.blk=H.get v.blk):Sl H' v l:=by cases v with|nil=>exact h|sl b o n c ex=>exact⟨h.1,h.2.1,λhl=>⟨cw (h.2.2 hl).1 hn,(HN (E hl) o _).trans (h.2.2 hl).2⟩⟩
def Sl.blk_lt{H:Heap}{v:SV}{l:List α}(h:Sl H v l)(hl:l≠[]):v.blk<H.n:=by cases v with|nil=>exact absurd h hl|sl b o n c ex=>exact(h.2.2 hl).1
def Sl.blk_lt'{H:Heap}{v:SV}{l:List α}(h:Sl H v l){i:Nat}(hl:i<l.length):v.blk<H.n:=h.blk_lt (by grind)
def cy{H:Heap}:Sl H .nil ([]:List α):=rfl
def Sl.ln{H:Heap}{v:SV}{l:List α}(h:Sl H v l)(lo:Nat)(H':Heap):ev1 .lenSl [v.iv] lo H'=some (.int .i64 l.length,H'):=by cases v with|nil=>have h:l=[]:=h;subst h;rfl|sl b o n c ex=>rw[<-h.1];rfl
def Sl.lenI{H:Heap}{v:SV}{l:List α}(h:Sl H v l):nm v.iv=some l.length:=by cases v with|nil=>have h:l=[]:=h;subst h;rfl|sl b o n c ex=>rw[<-h.1];rfl
def Sl.srcI{H:Heap}{v:SV}{l:List α}(h:Sl H v l){z:Nat}(E:Cell.z α=z):jo H z l.length v.iv=some (az l):=by subst E;cases v with|nil=>have h:l=[]:=h;subst h;rfl|sl b o n c ex=>show(if l.length=0 then some [] else H.read b o (l.length*Cell.z α))=_;by_cases hl:l=[];{subst hl;rfl};{rw[if_neg (by grind)];exact(h.2.2 hl).2}
def Sl.idx{H:Heap}{v:SV}{l:List α}(h:Sl H v l)(z:Nat)(x:Int)(lo:Nat)(H':Heap)(h0:0<=x)(E:x<l.length):ev1 (.idxSl z) [v.iv,.int .i64 x] lo H'=some (.ptr v.blk (v.off+x.toNat*z),H'):=by cases v with|nil=>have h:l=[]:=h;subst h;simp at E;omega|sl b o n c ex=>have hn:=h.1;simp only[ev1,SV.iv,SV.blk,SV.off];rw[if_pos ⟨h0,Om⟩]
def Sl.read{H:Heap}{v:SV}{l:List α}(h:Sl H v l){z:Nat}(F:Cell.z α=z)(i:Nat)(E:i<l.length):H.read v.blk (v.off+i*z) z=some (Cell.cs l[i]):=by subst F;have hl:l≠[]:=by{grind};cases v with|nil=>exact absurd h hl|sl b o n c ex=>have:=oR (a:=i*Cell.z α) (m:=Cell.z α) (h.2.2 hl).2 (by rw[<-gW];exact qR _ E);rw[Z2 l i E] at this;exact this
def Sl.part{H:Heap}{b o n c:Nat}{ex:Bool}{l:List α}(h:Sl H (.sl b o n c ex) l){z:Nat}(J:Cell.z α=z){a m c':Nat}{ex':Bool}(hm:a+m<=l.length)(I:m<=c'):Sl H (.sl b (o+a*z) m c' ex') ((l.drop a).take m):=by subst J;have F:((l.drop a).take m).length=m:=by{rw[dH,mP];omega};refine⟨F.symm,I,λhl=>?_⟩;have E:l≠[]:=by{intro e;rw[e] at hl;simp at hl};refine⟨(h.2.2 E).1,?_⟩;have:=oR (a:=a*Cell.z α) (m:=m*Cell.z α) (h.2.2 E).2 (by rw[<-rW];exact qR _ hm);grind[ui,FZ]
def wB(n:Nat)(a:α):nj n (Cell.cs a)=az (List.replicate n a):=by induction n with|zero=>rfl|succ n E=>rw[nj,E,Ih,bJ]
def Li(l:List α)(i:Nat)(a:α)(h:i<l.length):aC (az l) (i*Cell.z α) (Cell.cs a)=az (l.set i a):=by have E:i*Cell.z α+Cell.z α<=(az l).length:=by{rw[ax,<-gW];exact qR _ h};rw[dL _ _ _ (by rw[Cell.len];exact E),FZ,Cell.len,<-gW,ui,List.set_eq_take_append_cons_drop,if_pos h];rw[ie,bJ,cv]
def cq(tm:List IV)(n:Nat)(h:tm.length=n):tm=(List.range n).map λi=>tm.getD i UN:=by subst h;apply jV<;>grind
def Own(H:Heap)(b e cap:Nat)(l:List α):Prop:=l.length<=cap/\b<H.n/\∃r,H.get b=some (.cells false e (Cell.z α) (az l++r))/\r.length=(cap - l.length)*Cell.z α
def Own.sl{H:Heap}{b e cap:Nat}{l:List α}(h:Own H b e cap l)(ex:Bool):Sl H (.sl b 0 l.length cap ex) l:=by obtain⟨E,F,r,I,J⟩:=h;refine⟨rfl,E,λ_=>⟨F,?_⟩⟩;rw[ae I,aW,if_pos (by rw[be,ax];omega),vu,<-ax,yC]
def Own.same{H H':Heap}{b e cap:Nat}{l:List α}(h:Own H b e cap l)(hn:H.n<=H'.n)(O:H'.get b=H.get b):Own H' b e cap l:=by obtain⟨E,F,r,I,J⟩:=h;exact⟨E,cw F hn,r,O.trans I,J⟩
def Own.keep{H H':Heap}{b e cap:Nat}{l:List α}(h:Own H b e cap l)(k:Keep H.n H H'):Own H' b e cap l:=h.same k.1 (k.2 b h.2.1 h.2.1)
def Own.full{H:Heap}{b e:Nat}{l:List α}(h:Own H b e l.length l):H.get b=some (.cells false e (Cell.z α) (az l)):=by obtain⟨E,F,r,I,J⟩:=h;grind
def cu{H:Heap}{b e:Nat}{l:List α}(E:b<H.n){z:Nat}(J:Cell.z α=z){cs:List IV}(I:H.get b=some (.cells false e z cs))(F:cs=az l):Own H b e l.length l:=by subst J F;exact⟨an _,E,[],by rw[I,dM],by simp⟩
def Own.mksl{H:Heap}{e n:Nat}{z:Nat}(E:Cell.z α=z)(a:α):Own (H.new (.cells false e z (nj n (Cell.cs a)))) H.n e n (List.replicate n a):=by subst E;refine⟨by simp,by rw[ac];omega,[],by rw[ak,if_pos rfl,dM,wB],by simp⟩
def uu{H:Heap}{e n:Nat}{z:Nat}(F:Cell.z α=z){cs:List IV}(E:cs.length=n*z):Own (H.new (.cells false e z cs)) H.n e n ([]:List α):=by subst F;exact⟨by simp,by rw[ac];omega,cs,by rw[ak,if_pos rfl];rfl,by simp[E]⟩
def Own.set{H:Heap}{b e cap:Nat}{l:List α}(h:Own H b e cap l){z:Nat}(U:Cell.z α=z)(i:Nat)(F:i<l.length)(a:α)(lo:Nat)(E:lo<=b):∃cs,H.write lo b (i*z) (Cell.cs a)=some (H.put b (.cells false e z cs))/\Own (H.put b (.cells false e z cs)) b e cap (l.set i a):=by subst U;obtain⟨I,J,r,O,Q⟩:=h;have T:=ax l;have V:i*Cell.z α+Cell.z α<=l.length*Cell.z α:=by{rw[<-gW];exact qR _ F};refine⟨aC (az l++r) (i*Cell.z α) (Cell.cs a),?_,?_⟩;{unfold Heap.write;rw[O];simp only;rw[if_pos ⟨E,by rw[Cell.len,be];omega,Cell.one a⟩]};{refine⟨by simp[I],J,r,?_,by simp[Q]⟩;rw[aa,if_pos rfl,<-Li l i a F,dL _ _ _ (by rw[Cell.len,be];omega),dL _ _ _ (by rw[Cell.len];omega),Cell.len];grind}
def Own.push{H:Heap}{b e cap:Nat}{l m:List α}(h:Own H b e cap l){z:Nat}(Q:Cell.z α=z)(V:l.length+m.length<=cap)(lo:Nat)(O:lo<=b):∃cs,H.write lo b (l.length*z) (az m)=some (H.put b (.cells false e z cs))/\Own (H.put b (.cells false e z cs)) b e cap (l++m):=by subst Q;obtain⟨T,J,r,U,I⟩:=h;have F:=ax l;have E:=ax m;have Z:(az m).length<=r.length:=by{rw[E,I];exact qR _ Om};refine⟨aC (az l++r) (l.length*Cell.z α) (az m),?_,?_⟩;{simp_all[Heap.write,if_pos,be,lF]};{refine⟨by simp;omega,J,r.drop (az m).length,?_,?_⟩;{rw[aa,if_pos rfl,dL _ _ _ (by grind),ie,<-F,yC,List.drop_length_add_append]};{rw[mP,I,E,be,<-Nat.sub_mul];congr 1;omega}}
end
section
variable {α:Type}[Cell α]
theorem Keep.newPut{H:Heap}{o o':IObj}:Keep H.n H ((H.new o).put H.n o'):=(Keep.new _ _).trans (.put _ _ (an _))
def dT{H:Heap}{v:SV}{l:List α}(I:Sl H v l){z:Nat}(U:Cell.z α=z)(e lo:Nat)(zs:List IV)(O:zs.length=z)(F:lo<=H.n):∃E,ev1 (.copy z) [.slice H.n 0 l.length l.length true,v.iv] lo (H.new (.cells false e z (nj l.length zs)))=some (.int .i64 l.length,E)/\E.n=H.n+1/\Keep H.n H E/\Own E H.n e l.length l:=by subst U;have J:=I.keep (H':=H.new (.cells false e (Cell.z α) (nj l.length zs))) (Keep.new _ _);have Q:qC (.slice H.n 0 l.length l.length true)=some l.length:=rfl;by_cases h0:l=[];{subst h0;refine⟨H.new (.cells false e (Cell.z α) []),?_,ac _ _,Keep.new _ _,cu (l:=[]) (cs:=[]) (by rw[ac];omega) rfl (by rw[ak,if_pos rfl]) rfl⟩;simp only[ev1,Q,I.lenI];rfl};{have T:0<l.length:=List.length_pos_iff.2 h0;refine⟨(H.new (.cells false e (Cell.z α) (nj l.length zs))).put H.n (.cells false e (Cell.z α) (az l)),?_,by rw[af,ac],Keep.newPut,cu (by rw[af,ac];omega) rfl (by rw[aa,if_pos rfl]) rfl⟩;simp only[ev1,Q,I.lenI];rw[Nat.min_self,iN,J.srcI rfl];simp only[bR,Heap.write];rw[ak,if_pos rfl];simp only;have V:(nj l.length zs).length=(az l).length:=by{rw[gV,O,ax]};rw[if_pos ⟨F,Om,lF l⟩,dL _ _ _ Om];grind}
def Own.put{H:Heap}{b e:Nat}{l:List α}(h:Own H b e l.length l){z:Nat}(F:Cell.z α=z)(i:Nat)(E:i<l.length)(a:α):Own (H.put b (.cells false e z (aC (az l) (i*z) (Cell.cs a)))) b e l.length (l.set i a):=by subst F;rw[Li l i a E];have:=cu (H:=H.put b (.cells false e (Cell.z α) (az (l.set i a)))) (l:=l.set i a) (b:=b) (e:=e) h.2.1 rfl (by rw[aa,if_pos rfl]) rfl;grind
def XG{H:Heap}{b e n:Nat}{ex:Bool}{d l:List α}{v:SV}(ho:Own H b e n d)(Q:d.length=n)(F:Sl H v l){z:Nat}(hz:Cell.z α=z)(lo:Nat)(hl:l.length<=n)(ad:lo<=b):∃E,ev1 (.copy z) [.slice b 0 n n ex,v.iv] lo H=some (.int .i64 l.length,E)/\E.n=H.n/\(∀x,x≠b->E.get x=H.get x)/\Own E b e n (l++d.drop l.length):=by subst hz Q;have I:qC (.slice b 0 d.length d.length ex)=some d.length:=rfl;have T:=ho.full;by_cases h0:l=[];{subst h0;refine⟨H,?_,rfl,λ_ _=>rfl,by simpa using ho⟩;simp only[ev1,I,F.lenI];rw[if_pos (by simp)];rfl};{have O:0<l.length:=List.length_pos_iff.2 h0;have V:=ax l;have U:=ax d;have Z:(az l).length<=(az d).length:=by{simp_all[qR]};refine⟨H.put b (.cells false e (Cell.z α) (az (l++d.drop l.length))),?_,af _ _ _,λx hx=>by rw[aa,if_neg (Ne.symm hx)],?_⟩;{simp only[ev1,I,F.lenI];rw[uQ hl,iN,F.srcI rfl];simp only[bR,Heap.write,T];simp_all[if_pos,lF,dL,sd,jU,aW,ui,ie]};{have J:(l++d.drop l.length).length=d.length:=by{rw[be,mP];omega};have:=cu (H:=H.put b (.cells false e (Cell.z α) (az (l++d.drop l.length)))) (l:=l++d.drop l.length) (b:=b) (e:=e) ho.2.1 rfl (by rw[aa,if_pos rfl]) rfl;grind}}
def jB{H:Heap}{b e cap:Nat}{ex:Bool}{l m:List α}{v:SV}(ho:Own H b e cap l)(J:Sl H v m){z:Nat}(O:Cell.z α=z)(bytes lo:Nat)(T:l.length+m.length<=cap)(F:lo<=b):∃E,ev1 (.append e z bytes) [.slice b 0 l.length cap ex,v.iv] lo H=some (.slice b 0 (l.length+m.length) cap ex,E)/\E.n=H.n/\(∀b',b'≠b->E.get b'=H.get b')/\Own E b e cap (l++m):=by simp only[ev1,J.lenI,J.srcI O,bR,dK];rw[if_neg (by rw[lF];decide)];by_cases h0:m=[];{grind};{have I:0<m.length:=List.length_pos_iff.2 h0;obtain⟨cs,U,Q⟩:=ho.push O T lo F;simp_all[af,aa,if_neg,Ne.symm,if_pos,aW]}
def te{H:Heap}{b e n:Nat}{l m:List α}{v:SV}(ho:Own H b e n l)(hn:n=l.length)(O:Sl H v m){z:Nat}(V:Cell.z α=z)(bytes lo:Nat)(hm:m≠[])(T:(l.length+m.length)*(bytes+1)<=2^40)(I:lo<=b):∃E,ev1 (.append e z bytes) [.slice b 0 l.length n false,v.iv] lo H=some (.slice H.n 0 (l.length+m.length) (l.length+m.length) false,E)/\E.n=H.n+1/\(∀b',b'≠b->b'<H.n->E.get b'=H.get b')/\Own E H.n e (l.length+m.length) (l++m):=by subst hn V;have J:0<m.length:=List.length_pos_iff.2 hm;have U:=ho.full;simp only[ev1,O.lenI,O.srcI rfl,bR,dK];rw[if_neg (by rw[lF];decide)];rw[iN,iN,if_pos T,U];simp only[jX,if_false];have F:=ax l;rw[if_pos ⟨trivial,trivial,Cell.pos,trivial,I,Om⟩];refine⟨_,rfl,by rw[ac,af],λb' Q Z=>by rw[ak,if_neg (by rw[af];omega),aa,if_neg (Ne.symm Q)],?_⟩;rw[<-F,vy,<-ie,<-be];exact cu (by rw[ac,af];omega) rfl (by rw[ak,if_pos (af _ _ _)]) rfl
def Eb{H:Heap}{e:Nat}{m:List α}{v:SV}(I:Sl H v m){z:Nat}(O:Cell.z α=z)(bytes lo:Nat)(hm:m≠[])(J:m.length*(bytes+1)<=2^40):∃E,ev1 (.append e z bytes) [.nilSlice,v.iv] lo H=some (.slice H.n 0 m.length m.length false,E)/\E.n=H.n+1/\Keep H.n H E/\Own E H.n e m.length m:=by subst O;have F:0<m.length:=List.length_pos_iff.2 hm;simp only[ev1,I.lenI,I.srcI rfl,bR,dK];rw[if_neg (by rw[lF];decide)];rw[iN,if_pos J];exact⟨_,rfl,ac _ _,Keep.new _ _,cu (by rw[ac];omega) rfl (by rw[ak,if_pos rfl]) rfl⟩
def lM{H:Heap}{b o n e:Nat}{l m:List α}{v:SV}(hs:Sl H (.sl b o l.length n true) l)(J:Sl H v m){z:Nat}(Q:Cell.z α=z)(bytes lo:Nat)(hm:m≠[])(hn:n<l.length+m.length)(O:(l.length+m.length)*(bytes+1)<=2^40):∃F,ev1 (.append e z bytes) [.slice b o l.length n true,v.iv] lo H=some (.slice H.n 0 (l.length+m.length) (l.length+m.length) false,F)/\F.n=H.n+1/\Keep H.n H F/\Own F H.n e (l.length+m.length) (l++m):=by subst Q;have I:0<m.length:=List.length_pos_iff.2 hm;have E:=hs.srcI rfl;simp only[SV.iv] at E;simp only[ev1,J.lenI,J.srcI rfl,bR,dK];rw[if_neg (by rw[lF];decide)];rw[iN,iN,if_pos O,if_pos trivial,E];refine⟨_,rfl,ac _ _,Keep.new _ _,?_⟩;rw[<-ie,<-be];exact cu (by rw[ac];omega) rfl (by rw[ak,if_pos rfl]) rfl
end
section
variable {α:Type}[Cell α]
def Sl2(H:Heap)(v:SV)(ls:List (List α)):Prop:=∃vs:List SV,Sl H v vs/\vs.length=ls.length/\∀(i:Nat)(h:i<ls.length)(E:i<vs.length),Sl H vs[i] ls[i]
def Sl2.keep{H H':Heap}{v:SV}{ls:List (List α)}(h:Sl2 H v ls)(k:Keep H.n H H'):Sl2 H' v ls:=by obtain⟨vs,E,F,I⟩:=h;exact⟨vs,E.keep k,F,λi a b=>(I i a b).keep k⟩
def Sl2.ln{H:Heap}{v:SV}{ls:List (List α)}(h:Sl2 H v ls)(lo:Nat)(H':Heap):ev1 .lenSl [v.iv] lo H'=some (.int .i64 ls.length,H'):=by obtain⟨vs,E,F,I⟩:=h;rw[E.ln,F]
def Sl2.idx{H:Heap}{v:SV}{ls:List (List α)}(h:Sl2 H v ls)(z:Nat)(x:Int)(lo:Nat)(H':Heap)(h0:0<=x)(F:x<ls.length):ev1 (.idxSl z) [v.iv,.int .i64 x] lo H'=some (.ptr v.blk (v.off+x.toNat*z),H'):=by obtain⟨vs,g1,g2,E⟩:=h;exact g1.idx z x lo H' h0 Om
def Sl2.elem{H:Heap}{v:SV}{ls:List (List α)}(h:Sl2 H v ls)(i:Nat)(F:i<ls.length):∃w:SV,H.read v.blk (v.off+i*1) 1=some [w.iv]/\Sl H w ls[i]/\v.blk<H.n:=by obtain⟨vs,g1,g2,E⟩:=h;exact⟨vs[i]'Om,g1.read (α:=SV) rfl i Om,E i F Om,g1.blk_lt' (i:=i) Om⟩
def Sl2.nil{H:Heap}:Sl2 H .nil ([]:List (List α)):=⟨[],rfl,rfl,λi h=>by simp at h⟩
def Fresh(n0:Nat)(H:Heap)(e:Nat)(v:SV)(l:List α):Prop:=(v=.nil/\l=[])\/∃b,v=.sl b 0 l.length l.length true/\n0<=b/\Own H b e l.length l
def Fresh.sl{n0:Nat}{H:Heap}{e:Nat}{v:SV}{l:List α}(h:Fresh n0 H e v l):Sl H v l:=by rcases h with⟨rfl,rfl⟩|⟨b,rfl,F,E⟩;{exact cy};{exact E.sl true}
def Fresh.keep{n0:Nat}{H H':Heap}{e:Nat}{v:SV}{l:List α}(h:Fresh n0 H e v l)(k:Keep H.n H H'):Fresh n0 H' e v l:=by rcases h with⟨rfl,rfl⟩|⟨b,rfl,E,F⟩;{exact .inl ⟨rfl,rfl⟩};{exact .inr ⟨b,rfl,E,F.keep k⟩}
end
def Sl.cellsAt{α:Type}[Cell α]{H:Heap}{v:SV}{l:List α}(h:Sl H v l)(hl:l≠[]):∃F e ez cs,H.get v.blk=some (.cells F e ez cs):=by cases v with|nil=>exact absurd h hl|sl b o n c ex=>have E:=(h.2.2 hl).2;unfold Heap.read at E;show ∃F e ez cs,H.get b=_;cases I:H.get b with|none=>rw[I] at E;cases E|some ob=>rw[I] at E;cases ob with|cells F e ez cs=>exact⟨_,_,_,_,rfl⟩|_=>cases E
def Sl.off{α:Type}[Cell α]{H:Heap}{v:SV}{l:List α}(h:Sl H v l)(hl:l≠[]){x:Nat}{ob:IObj}(hx:H.get x=some ob)(F:∀E e ez cs,ob≠.cells E e ez cs):v.blk≠x:=by intro e;obtain⟨E,a,b,c,I⟩:=h.cellsAt hl;grind
def bq{α:Type}:List (List α)->Nat|[]=>0|a::l=>if bq l=0/\a=[] then 0 else bq l+1
theorem js{α:Type}:∀l:List (List α),bq l<=l.length|[]=>an _|a::l=>by have:=js l;grind[bq,List.length_cons]
def iG{α:Type}:∀(l:List (List α))(i:Nat)(h:i<l.length),bq l<=i->l[i]=[]|[],_,h,_=>by simp at h|a::l,0,h,k=>by grind[bq]|a::l,i+1,h,k=>by have:bq l<=i:=by{grind[bq]};exact iG l i (by simpa using h) this
theorem nC{α:Type}:∀(l:List (List α))(n:Nat)(h:n<l.length),bq l=n+1->l[n]≠[]|[],_,h,_=>by simp at h|a::l,n,h,k=>by unfold bq at k;split at k;{omega};{rename_i hn;cases n with|zero=>simp only[List.getElem_cons_zero];exactλe=>hn ⟨Om,e⟩|succ n=>exact nC l n (by simpa using h) Om}
def rL{α:Type}{l:List (List α)}{n:Nat}(hn:n<=l.length)(E:∀i (h:i<l.length),n<=i->l[i]=[])(F:∀m (h:m<l.length),n=m+1->l[m]≠[]):n=bq l:=by rcases Cz n (bq l) with h|h|h;{exfalso;have I:=js l;exact nC l (bq l - 1) Om Om (E _ Om Om)};{exact h};{exfalso;exact F (n - 1) Om Om (iG l _ Om Om)}
section
variable {α:Type}
def jS(f:Nat->α)(a b n x:Nat):α:=if a<=x/\x<a+n then f (x+b - a) else if b<=x/\x<b+n then f (x+a - b) else f x
def qh(f:Nat->α)(a m b x:Nat):α:=if a<=x/\x<a+(b - m) then f (x+(m - a)) else if a+(b - m)<=x/\x<b then f (x - (b - m)) else f x
def N5(f:Nat->α)(a b x:Nat):jS f a b 0 x=f x:=by simp_all[jS,if_neg]
def N6{f g:Nat->α}{a b n:Nat}(E:a+n<b)(F:∀x,g x=if x=b+n then jS f a b n (a+n) else if x=a+n then jS f a b n (b+n) else jS f a b n x)(x:Nat):g x=jS f a b (n+1) x:=by rw[F];unfold jS;grind
theorem VJ{f g:Nat->α}{m i j:Nat}(O:i<=m)(Q:0<j)(J:j<i)(F:∀x,g x=jS f (m - i) m j x)(x:Nat):qh g (m - (i - j)) m (m+j) x=qh f (m - i) m (m+j) x:=by unfold qh;by_cases I:m - (i - j)<=x/\x<m - (i - j)+(m+j - m);{rw[if_pos I,F];unfold jS;by_cases E:m<=x+(m - (m - (i - j)))<;>grind};{rw[if_neg I];by_cases E:m - (i - j)+(m+j - m)<=x/\x<m+j;{rw[if_pos E,F];unfold jS;grind};{rw[if_neg E,F];unfold jS;grind}}
theorem RS{f g:Nat->α}{m i j:Nat}(Q:i<=m)(J:0<i)(O:i<j)(E:∀x,g x=jS f (m - i) (m+j - i) i x)(x:Nat):qh g (m - i) m (m+(j - i)) x=qh f (m - i) m (m+j) x:=by unfold qh;by_cases F:m - i<=x/\x<m - i+(m+(j - i) - m);{rw[if_pos F,E,iP];unfold jS;grind};{rw[if_neg F];by_cases I:m - i+(m+(j - i) - m)<=x/\x<m+(j - i);{rw[if_pos I,E];unfold jS;grind};{rw[if_neg I,E];unfold jS;grind}}
def VI{f g:Nat->α}{m i:Nat}(F:i<=m)(E:∀x,g x=jS f (m - i) m i x)(x:Nat):g x=qh f (m - i) m (m+i) x:=by rw[E];unfold jS qh;grind
def Kh(f:Nat->α){a m b:Nat}(E:a<=m)(F:m<=b)(h:a=m\/m=b)(x:Nat):qh f a m b x=f x:=by unfold qh;grind
end
section
variable {α:Type}[Inhabited α]
def aw(l:List α)(x:Nat):α:=l.getD x default
theorem aZ{l:List α}{x:Nat}(h:x<l.length):aw l x=l[x]:=by unfold aw;grind
def Ir{l:List α}{x:Nat}(h:x<l.length):aw l x∈l:=by rw[aZ h];exact aJ h
def cj(l:List α)(i j:Nat):List α:=(l.set i (aw l j)).set j (aw l i)
def d6(l:List α)(i j:Nat):(cj l i j).length=l.length:=by simp[cj]
def N4{l:List α}{i j:Nat}(E:i<l.length)(F:j<l.length):(cj l i j).Perm l:=by grind[cj,aZ,List.set_set_perm]
theorem j3{l:List α}{i j:Nat}(I:i<l.length)(J:j<l.length)(x:Nat):aw (cj l i j) x=if x=j then aw l i else if x=i then aw l j else aw l x:=by unfold cj;by_cases E:x=j;{subst E;rw[if_pos rfl,aZ (by simpa using J)];simp};{rw[if_neg E];by_cases F:x=i;{subst F;rw[if_pos rfl,aZ (by simpa using I)];rw[kl (Ne.symm E),nF]};simp_all[if_neg,aw,bX,CE,Ne.symm]}
structure Mix(a b:Nat)(l l':List α):Prop where
 len:l'.length=l.length
 perm:l'.Perm l
 out:∀x,(x < a∨b≤x)→aw l' x=aw l x
 img:∀x,a≤x→x < b→∃y,a≤y∧y < b∧aw l' x=aw l y
theorem Mix.refl(a b:Nat)(l:List α):Mix a b l l:=⟨rfl,.refl _,λ_ _=>rfl,λx E F=>⟨x,E,F,rfl⟩⟩
def Mix.trans{a b:Nat}{l m n:List α}(h:Mix a b l m)(k:Mix a b m n):Mix a b l n:=by refine⟨k.len.trans h.len,k.perm.trans h.perm,λx hx=>(k.out x hx).trans (h.out x hx),λx E F=>?_⟩;obtain⟨y,I,J,O⟩:=k.img x E F;obtain⟨z,Q,T,U⟩:=h.img y I J;grind
def Mix.wide{a b c d:Nat}{l m:List α}(h:Mix a b l m)(I:c<=a)(J:b<=d):Mix c d l m:=by refine⟨h.len,h.perm,λx hx=>h.out x Om,λx E F=>?_⟩;by_cases hx:a<=x/\x<b;{obtain⟨y,O,Q,T⟩:=h.img x hx.1 hx.2;grind};{exact⟨x,E,F,h.out x Om⟩}
def Mix.swap{a b i j:Nat}{l:List α}(I:b<=l.length)(J:a<=i/\i<b)(O:a<=j/\j<b):Mix a b l (cj l i j):=by have E:i<l.length:=Om;have F:j<l.length:=Om;refine⟨d6 _ _ _,N4 E F,λx hx=>?_,λx Q T=>?_⟩;{rw[j3 E F,iN,iN]};{rw[j3 E F];grind}
variable (lt:α->α->Prop)
def Srt(l:List α)(a b:Nat):Prop:=∀i j,a<=i->i<j->j<b->lt (aw l i) (aw l j)
def Srt.part{lt:α->α->Prop}{l:List α}{a b c d:Nat}(h:Srt lt l a b)(J:a<=c)(O:d<=b):Srt lt l c d:=λi j F E I=>h i j Om E Om
def Srt.out{lt:α->α->Prop}{l E:List α}{a b c d:Nat}(h:Srt lt l a b)(k:Mix c d l E)(O:b<=c\/d<=a):Srt lt E a b:=λi j F I J=>by rw[k.out i Om,k.out j Om];exact h i j F I J
def X7{lt:α->α->Prop}{l l1 l2:List α}{a m b:Nat}(O:Mix a m l l1)(F:Mix m b l1 l2)(Q:Srt lt l1 a m)(T:Srt lt l2 m b)(U:∀x y,a<=x->x<m->m<=y->y<b->lt (aw l x) (aw l y)):Srt lt l2 a b:=by intro i j I E J;by_cases c1:j<m;{rw[F.out i Om,F.out j Om];exact Q i j I E c1};{by_cases c2:m<=i;{exact T i j c2 E J};{rw[F.out i Om];obtain⟨x,V,Z,x3⟩:=O.img i I Om;obtain⟨y,y1,y2,y3⟩:=F.img j Om J;rw[x3,y3,O.out y Om];exact U x y V Z y1 y2}}
def YQ{lt ord:α->α->Prop}{l l1:List α}{a m b mid start E:Nat}(h1:a<=start)(h2:start<=mid)(h3:start<=m)(h4:mid<=E)(h5:m<=E)(h6:E<=b)(he:start+E=mid+m)(sL:Srt lt l a m)(sR:Srt lt l m b)(J:∀i j,a<=i->i<m->m<=j->j<b->ord (aw l i) (aw l j))(pA:∀i j,a<=i->i<start->E<=j->j<b->lt (aw l i) (aw l j))(pB:∀i j,m<=i->i<E->start<=j->j<m->lt (aw l i) (aw l j))(Z:∀x,aw l1 x=qh (aw l) start m E x):(Srt lt l1 a start/\Srt lt l1 start mid/\Srt lt l1 mid E/\Srt lt l1 E b)/\(∀i j,a<=i->i<start->start<=j->j<mid->ord (aw l1 i) (aw l1 j))/\(∀i j,mid<=i->i<E->E<=j->j<b->ord (aw l1 i) (aw l1 j))/\ ∀x y,a<=x->x<mid->mid<=y->y<b->lt (aw l1 x) (aw l1 y):=by have T:∀x,x<start->aw l1 x=aw l x:=λx hx=>by{rw[Z];unfold qh;grind};have U:∀x,start<=x->x<mid->aw l1 x=aw l (x+(m - start)):=λx hx ad=>by{rw[Z];unfold qh;rw[iP]};have O:∀x,mid<=x->x<E->aw l1 x=aw l (x - (E - m)):=λx hx ad=>by{rw[Z];unfold qh;grind};have V:∀x,E<=x->aw l1 x=aw l x:=λx hx=>by{rw[Z];unfold qh;grind};refine⟨⟨λi j q1 I F=>?_,λi j q1 I F=>?_,λi j q1 I F=>?_,λi j q1 I F=>?_⟩,λi j q1 I F Q=>?_,λi j q1 I F Q=>?_,λx y q1 I F Q=>?_⟩;{rw[T i Om,T j F];exact sL i j q1 I Om};{rw[U i q1 Om,U j Om F];exact sR _ _ Om Om Om};{rw[O i q1 Om,O j Om F];exact sL _ _ Om Om Om};{rw[V i q1,V j Om];exact sR _ _ Om I F};{rw[T i I,U j F Q];exact J _ _ q1 Om Om Om};{rw[O i q1 I,V j F];exact J _ _ Om Om Om Q};{by_cases c1:x<start;{rw[T x c1];by_cases c2:y<E;{rw[O y F c2];exact sL _ _ q1 Om Om};grind};{rw[U x Om I];by_cases c2:y<E;{rw[O y F c2];exact pB _ _ Om Om Om Om};{rw[V y Om];exact sR _ _ Om Om Q}}}
def Jk{lt:α->α->Prop}{l:List α}(h:Srt lt l 0 l.length):l.Pairwise lt:=by rw[Fl];intro i j I F E;have:=h i j (cU _) E F;grind[aZ]
def lW{lt:α->α->Prop}{l:List α}(h:l.Pairwise lt)(a b:Nat)(J:b<=l.length):Srt lt l a b:=by rw[Fl] at h;intro i j E F I;grind[aZ]
end
theorem zA{α:Type}{lt:α->α->Prop}(E:∀a,¬lt a a)(J:∀a b c,lt a b->lt b c->lt a c):∀{l m:List α},l.Pairwise lt->m.Pairwise lt->(∀x,x∈l↔x∈m)->l=m|[],[],_,_,_=>rfl|[],b::m,_,_,h=>absurd ((h b).2 (by simp)) (by simp)|a::l,[],_,_,h=>absurd ((h a).1 (by simp)) (by simp)|a::l,b::m,hl,hm,h=>by rw[List.pairwise_cons] at hl hm;have I:a=b:=by{rcases List.mem_cons.1 ((h a).1 (by simp)) with e|e;{exact e};{rcases List.mem_cons.1 ((h b).2 (by simp)) with F|F;{exact F.symm};{exact absurd (J _ _ _ (hl.1 b F) (hm.1 a e)) (E a)}}};subst I;congr 1;refine zA E J hl.2 hm.2 λx=>⟨λhx=>?_,λhx=>?_⟩<;>grind
def R8{f:Fp}:bH .none f=true:=by cases f<;>rfl
def Fy{f:Fp}:bH f .none=true:=by cases f<;>rfl
def R5{b o n b' o' E:Nat}:bH (.rd b o n) (.rd b' o' E)=true:=rfl
def R4{b o n b' o' E:Nat}:bH (.rd b o n) (.wr b' o' E)=kQ b o n b' o' E:=rfl
def R3{b o n b' o' E:Nat}:bH (.wr b o n) (.rd b' o' E)=kQ b o n b' o' E:=rfl
def R2{b o n b' o' E:Nat}:bH (.wr b o n) (.wr b' o' E)=kQ b o n b' o' E:=rfl
def R7{b o n b':Nat}:bH (.rd b o n) (.wb b')=decide (b'≠b):=rfl
def Sa{b o n b':Nat}:bH (.wb b') (.rd b o n)=decide (b'≠b):=rfl
def OG{b o n b':Nat}:bH (.wr b o n) (.wb b')=decide (b'≠b):=rfl
def R9{b o n b':Nat}:bH (.wb b') (.wr b o n)=decide (b'≠b):=rfl
def Sb{b b':Nat}:bH (.wb b) (.wb b')=decide (b≠b'):=rfl
def bj{E:dF}{o:IOp}{xs:List IV}(h:ij o xs=some .none):bA (some E) o xs=some (some ((o.idx,.none)::E)):=by simp_all[bA,pg,if_pos,zJ,Fy]
section
variable {fc:dF}{dst:Option Nat}{args:List IA}{g:Option (Nat×Bool)}{amb:Bool}{idx mask:Nat}{xs:List IV}
def OS{o:IOp}:bA none o xs=some none:=rfl
def KI:bA (some fc) ⟨dst,.move,args,g,amb,idx,mask⟩ xs=some (some ((idx,.none)::fc)):=bj rfl
def OT{op:BinOp}:bA (some fc) ⟨dst,.bin op,args,g,amb,idx,mask⟩ xs=some (some ((idx,.none)::fc)):=bj rfl
def Sm{op:UnOp}:bA (some fc) ⟨dst,.un op,args,g,amb,idx,mask⟩ xs=some (some ((idx,.none)::fc)):=bj rfl
def KK{k:IntKind}:bA (some fc) ⟨dst,.conv k,args,g,amb,idx,mask⟩ xs=some (some ((idx,.none)::fc)):=bj rfl
def Iu{z:Nat}:bA (some fc) ⟨dst,.idxSl z,args,g,amb,idx,mask⟩ xs=some (some ((idx,.none)::fc)):=bj rfl
def yT{z:Nat}:bA (some fc) ⟨dst,.fieldAddr z,args,g,amb,idx,mask⟩ xs=some (some ((idx,.none)::fc)):=bj rfl
def Iv{z:Nat}{n:Option Nat}:bA (some fc) ⟨dst,.field z n,args,g,amb,idx,mask⟩ xs=some (some ((idx,.none)::fc)):=bj rfl
def It:bA (some fc) ⟨dst,.lenSl,args,g,amb,idx,mask⟩ xs=some (some ((idx,.none)::fc)):=bj rfl
def KH:bA (some fc) ⟨dst,.pick,args,g,amb,idx,mask⟩ xs=some (some ((idx,.none)::fc)):=bj rfl
def wT{l z:Nat}:bA (some fc) ⟨dst,.idxArrAddr l z,args,g,amb,idx,mask⟩ xs=some (some ((idx,.none)::fc)):=bj rfl
end
def agL(m k:Nat):Nat.testBit m k=decide (m / 2^k%2=1):=Nat.testBit_eq_decide_div_mod_eq
section
variable {α:Type}[Cell α]
def Gr(n0:Nat)(H:Heap)(e:Nat)(v:SV)(l:List α):Prop:=(v=.nil/\l=[])\/∃b,v=.sl b 0 l.length l.length false/\n0<=b/\l≠[]/\Own H b e l.length l
def Gr.nil{n0:Nat}{H:Heap}{e:Nat}:Gr n0 H e .nil ([]:List α):=.inl ⟨rfl,rfl⟩
def Gr.sl{n0:Nat}{H:Heap}{e:Nat}{v:SV}{l:List α}(h:Gr n0 H e v l):Sl H v l:=by rcases h with⟨rfl,rfl⟩|⟨b,rfl,_,_,E⟩;{exact cy};{exact E.sl false}
def Gr.blk{n0:Nat}{H:Heap}{e:Nat}{v:SV}{l:List α}(h:Gr n0 H e v l)(hl:l≠[]):H.get v.blk=some (.cells false e (Cell.z α) (az l)):=by rcases h with⟨_,rfl⟩|⟨b,rfl,_,_,E⟩;{exact absurd rfl hl};{exact E.full}
def Gr.keep{n0:Nat}{H H':Heap}{e:Nat}{v:SV}{l:List α}(h:Gr n0 H e v l)(k:Keep H.n H H'):Gr n0 H' e v l:=by rcases h with h|⟨b,E,F,I,J⟩;{exact .inl h};{exact .inr ⟨b,E,F,I,J.keep k⟩}
def KeepG(n0 e z:Nat)(H H':Heap):Prop:=H.n<=H'.n/\∀x,x<H.n->(x<n0\/∀cs,H.get x≠some (.cells false e z cs))->H'.get x=H.get x
def KeepG.refl(n0 e z:Nat)(H:Heap):KeepG n0 e z H H:=⟨an _,λ_ _ _=>rfl⟩
def KeepG.trans{n0 e z:Nat}{a b c:Heap}(h:KeepG n0 e z a b)(k:KeepG n0 e z b c):KeepG n0 e z a c:=by refine⟨du h.1 k.1,λx F I=>?_⟩;have E:=h.2 x F I;rw[<-E];exact k.2 x (cw F h.1) (by rw[E];exact I)
def KeepG.of{n0 e z:Nat}{H H':Heap}(k:Keep H.n H H'):KeepG n0 e z H H':=⟨k.1,λx h _=>k.2 x h h⟩
def KeepG.low{n0 e z:Nat}{H H':Heap}(k:KeepG n0 e z H H')(hn:n0<=H.n):Keep n0 H H':=⟨k.1,λx E F=>k.2 x F (.inl E)⟩
def KeepG.get{n0 e z x:Nat}{H H':Heap}{ob:IObj}(k:KeepG n0 e z H H')(hx:x<H.n)(F:H.get x=some ob)(E:∀cs,ob≠.cells false e z cs):H'.get x=some ob:=by rw[k.2 x hx (.inr λcs h=>E cs (by grind))];exact F
def Own.keepG{n0 e E z b cap:Nat}{H H':Heap}{l:List α}(h:Own H b e cap l)(k:KeepG n0 E z H H')(Q:e≠E):Own H' b e cap l:=by obtain⟨I,F,r,J,O⟩:=h;refine Own.same ⟨I,F,r,J,O⟩ k.1 (k.2 b F (.inr λcs T=>?_));grind
def OwnS(n0:Nat)(H:Heap)(e:Nat)(v:SV)(l:List α):Prop:=(v=.nil/\l=[])\/∃b cap ex,v=.sl b 0 l.length cap ex/\n0<=b/\Own H b e cap l
def OwnS.sl{n0:Nat}{H:Heap}{e:Nat}{v:SV}{l:List α}(h:OwnS n0 H e v l):Sl H v l:=by rcases h with⟨rfl,rfl⟩|⟨b,cap,ex,rfl,_,h⟩;{exact cy};{exact h.sl ex}
def OwnS.keep{n0:Nat}{H H':Heap}{e:Nat}{v:SV}{l:List α}(h:OwnS n0 H e v l)(k:Keep H.n H H'):OwnS n0 H' e v l:=by rcases h with h|⟨b,cap,ex,E,F,I⟩;{exact .inl h};{exact .inr ⟨b,cap,ex,E,F,I.keep k⟩}
def OwnS.keepG{n0 n1 e F z:Nat}{H H':Heap}{v:SV}{l:List α}(h:OwnS n0 H e v l)(k:KeepG n1 F z H H')(E:e≠F):OwnS n0 H' e v l:=by rcases h with h|⟨b,cap,ex,I,J,O⟩;{exact .inl h};{exact .inr ⟨b,cap,ex,I,J,O.keepG k E⟩}
def Fresh.own{n0:Nat}{H:Heap}{e:Nat}{v:SV}{l:List α}(h:Fresh n0 H e v l):OwnS n0 H e v l:=by rcases h with h|⟨b,E,F,I⟩;{exact .inl h};{exact .inr ⟨b,l.length,true,E,F,I⟩}
def Gr.own{n0:Nat}{H:Heap}{e:Nat}{v:SV}{l:List α}(h:Gr n0 H e v l):OwnS n0 H e v l:=by rcases h with h|⟨b,E,F,_,I⟩;{exact .inl h};{exact .inr ⟨b,l.length,false,E,F,I⟩}
def Gr.push{n0:Nat}{H:Heap}{e:Nat}{v:SV}{l:List α}(h:Gr n0 H e v l){a:α}{u:SV}(V:Sl H u [a]){z:Nat}(O:Cell.z α=z)(bytes lo:Nat)(ad:lo<=n0)(hn:n0<=H.n)(U:(l.length+1)*(bytes+1)<=2^40):∃E w,ev1 (.append e z bytes) [v.iv,u.iv] lo H=some (SV.iv w,E)/\KeepG n0 e z H E/\Gr n0 E e w (l++[a]):=by rcases h with⟨rfl,rfl⟩|⟨b,rfl,h2,h3,T⟩;{obtain⟨E,I,Z,J,Q⟩:=Eb (e:=e) V O bytes lo (by simp) (by simpa using U);exact⟨E,.sl H.n 0 1 1 false,I,KeepG.of J,.inr ⟨H.n,rfl,hn,by simp,Q⟩⟩};{obtain⟨E,I,Z,J,Q⟩:=te (n:=l.length) T rfl V O bytes lo (by simp) (by simpa using U) Om;refine⟨E,.sl H.n 0 (l.length+1) (l.length+1) false,I,⟨Om,λx h5 F=>J x ?_ h5⟩,.inr ⟨H.n,by simp,hn,by simp,by grind⟩⟩;rintro rfl;rcases F with F|F;{omega};{exact F _ (by rw[T.full,O])}}
def qm{H:Heap}{e z:Nat}(E:Cell.z α=z)(a:α):Own (H.new (.cells false e z (Cell.cs a))) H.n e 1 [a]:=by have:=cu (H:=H.new (.cells false e z (Cell.cs a))) (b:=H.n) (e:=e) (l:=[a]) (by rw[ac];omega) E (by rw[ak,if_pos rfl]) (Lj a).symm;exact this
def Gr.pushNew{n0:Nat}{H:Heap}{e:Nat}{v:SV}{l:List α}(h:Gr n0 H e v l)(a:α){z:Nat}(I:Cell.z α=z)(bytes lo:Nat)(F:lo<=n0)(hn:n0<=H.n)(O:(l.length+1)*(bytes+1)<=2^40):∃E w,ev1 (.append e z bytes) [v.iv,.slice H.n 0 1 1 true] lo (H.new (.cells false e z (Cell.cs a)))=some (SV.iv w,E)/\KeepG n0 e z H E/\Gr n0 E e w (l++[a]):=by obtain⟨E,w,J,Q,g1⟩:=(h.keep (.new _ (.cells false e z (Cell.cs a)))).push (a:=a) ((qm I a).sl true) I bytes lo F (by rw[ac];omega) O;exact⟨E,w,J,(KeepG.of (.new _ _)).trans Q,g1⟩
end
def EI{α:Type}(f:Nat->List α)(n:Nat):(List.range (n+1)).flatMap f=(List.range n).flatMap f++f n:=by rw[List.range_succ,CC];simp
end Go.Iso
section
namespace Go.Iso
def U0:iB []=.tuple []:=rfl
def UZ{v:IV}:iB [v]=v:=rfl
def UY{v w:IV}{l:List IV}:iB (v::w::l)=.tuple (v::w::l):=rfl
def BAS:=am @ac4 (am @afH (am @ac7 (am @kv (am @aaB (am @abf (am @ac8 (am @Mh (am @PM (am @ZY (am @ZZ (am @afI (am @aip (am @W3 (am @W4 (am @afA (am @afB (am @afz (am @afC (am @ac1 (am @ae4 (am @abP (am @Zs (am @eq_self.{1} (am @Nat.left_eq_add (am @Nat.add_eq_left (am @Nat.add_left_cancel_iff (am @Nat.add_assoc (am @Tm (am @Rs (am @Rq (am @YF (am @YE (am @acb (am @acd (am @aeJ (am @List.getD_cons_zero.{0} (am @List.getD_cons_succ.{0} (am @YN (am @YO (am @abQ (am @acX (am @acW (am @acY (am @aah (am @aai (am @abD (am @aaC (am @if_true.{1} (am @if_false.{1} (am @Option.map_some.{0,0} (am @Option.map_none.{0,0} (am @Option.bind_some.{0,0} (am @Option.bind_none.{0,0} (am @List.nil_append.{0} (am @List.append_nil.{0} (am @List.cons_append.{0} (am @List.length_cons.{0} (am @List.length_nil.{0} (am @Nat.zero_add (am @ab5 (am @ab6 (am @WE (am @YG (am @beq_self_eq_true.{0} (am @Bool.false_eq_true (am @Bool.not_true (am @Bool.not_false (am @Option.getD_some.{0} (am @Option.getD_none.{0} (am @PF (am @PE (am @LX (am @PA (am @PB (am @EM (am @Jf (am @Aw (am @PC (am @EN (am @Tf (am @Je (am @D2 (am @Jg (am @Ax (am @ak (am @ac (am @aa (am @af (am @List.drop_succ_cons.{0} (am @List.drop_zero.{0} (am @List.take_succ_cons.{0} (am @List.take_zero.{0} (am @Nat.add_zero (am @Nat.le_refl (am @Option.some.injEq.{0} (am @and_true (am @true_and (am @and_false (am @false_and (am @BEq.rfl.{0} (am @wQ (am @ub (am @Wb (am @Wd (am @Kz (am @OM (am @EB (am @We (am @KA (am @Zw (am @OL (am @Iq (am @ON (am @EC (am @List.all_cons.{0} (am @List.all_nil.{0} (am @Bool.and_self (am @Bool.and_true (am @Bool.true_and (am @Nat.le_add_right (am @Nat.add_sub_cancel (am @bne_self_eq_false.{0} (am @Bool.false_bne (am @Bool.bne_false (am @Bool.or_true (am @Bool.true_or (am @Int.toNat_natCast (am @Option.isSome_some.{0} (am @ac6 (am @ab2 (am @ab1 (am @Mg (am @TG (am @VU (am @VT (am @YK (am @YI (am @YJ (am @Zq (am @Zp (am @ne_eq.{1} (am @not_false_eq_true (am @ahC (am @ahB (am @cLe (am @ahA (am @cLt (am @ahz (am @iLe (am @ag9 (am @iLt (am @ag8 (am @iGe (am @ahb (am @iGt (am @aha (am @ahd (am @ae2 (am @ahc (am @ae1 (am @agI (am @wU8 (am @decide_true (am @decide_false (am @VW (am @VV (am @Zm (am @Ml (am @jC (am @Gu (am @pt (am @iL (am @bz (am @bV (am @Nat.zero_mul (am @Bool.true_eq_false (am @Bool.false_or (am @Bool.or_false (am @Bool.false_and (am @Bool.and_false (am @not_true_eq_false (am @Nat.sub_zero (am @List.getElem?_cons_zero.{0} (am @List.getElem?_cons_succ.{0} (am @bK.eq_1 (am @bK.eq_2 (am @IA.eval.eq_1 (am @IA.eval.eq_2 (am @IA.eval.eq_3 (am @Fr.put.eq_1 (am @Fr.put.eq_2 (am @di.eq_1 (am @di.eq_2 (am @cH.eq_1 (am @cH.eq_2 (am @aG.eq_1 (am @aG.eq_2 (am @jT.eq_1 (am @jT.eq_2 (am @ah.eq_1 (am @ah.eq_2 (am @List.set.eq_1.{0} (am @List.set.eq_2.{0} (am @List.set.eq_3.{0} (am @List.drop.eq_1.{0} (am @List.drop.eq_2.{0} (am @List.drop.eq_3.{0} (am @List.take.eq_1.{0} (am @List.take.eq_2.{0} (am @List.take.eq_3.{0} (am @List.append.eq_1.{0} (am @List.append.eq_2.{0} (am @aC.eq_1 (am @aC.eq_2 (am @aC.eq_3 (am @aC.eq_4 (am @fl.eq_1 (am @fl.eq_2 (am @bA.eq_1 (am @bA.eq_2 (am @U0 (am @UZ (am @UY (am @R8 (am @Fy (am @R5 (am @R4 (am @R3 (am @R2 (am @R7 (am @Sa (am @OG (am @R9 (am @Sb (@agL)))))))))))))))))))))))))))))))))))))))))))))))))))))))))))))))))))))))))))))))))))))))))))))))))))))))))))))))))))))))))))))))))))))))))))))))))))))))))))))))))))))))))))))))))))))))))))))))))))))))))))))))))))))))))))))))))))))))))))
def ai:=am @OS (am @KI (am @OT (am @Sm (am @KK (am @Iu (am @yT (am @Iv (am @It (am @KH (@wT))))))))))
end Go.Iso
end
namespace Go.Iso
def afE{b o n b' o' E:Nat}(h:b<b'):kQ b o n b' o' E=true:=by grind[kQ]
def afF{b o n b' o' E:Nat}(h:b'<b):kQ b o n b' o' E=true:=by grind[kQ]
def ag1:Fp->Bool|.none|.rd _ _ _=>true|_=>false
def si:dF->Bool|[]=>true|p::E=>ag1 p.2&&si E
def Si:si []=true:=rfl
def OP{i:Nat}{E:dF}:si ((i,.none)::E)=si E:=rfl
def Wm{i b o n:Nat}{E:dF}:si ((i,.rd b o n)::E)=si E:=rfl
def Wl{i b o n:Nat}{E:dF}:si ((i,.wr b o n)::E)=false:=rfl
def FF{b o n mask:Nat}:∀{E:dF},si E=true->(E.all λp=>mask.testBit p.1||bH p.2 (.rd b o n))=true|[],_=>rfl|(i,f)::E,h=>by simp only[si,bI] at h;rw[oU,FF h.2,yA];cases f with|none=>simp[bH]|rd=>simp[bH]|_=>cases h.1
section
variable {fc:dF}{dst:Option Nat}{args:List IA}{g:Option (Nat×Bool)}{amb:Bool}{idx mask:Nat}{xs:List IV}
def KL:bA (some fc) ⟨dst,.call,args,g,amb,idx,mask⟩ xs=some (some ((idx,.none)::fc)):=bj rfl
def Ix{e z:Nat}{zs:List IV}:bA (some fc) ⟨dst,.alloc e z zs,args,g,amb,idx,mask⟩ xs=some (some ((idx,.none)::fc)):=bj rfl
def Iw{zs:List IV}{os:List (Nat×Nat)}:bA (some fc) ⟨dst,.build zs os,args,g,amb,idx,mask⟩ xs=some (some ((idx,.none)::fc)):=bj rfl
def CZ{e z n:Nat}{zs:List IV}{os:List (Nat×Nat)}:bA (some fc) ⟨dst,.buildSl e z n zs os,args,g,amb,idx,mask⟩ xs=some (some ((idx,.none)::fc)):=bj rfl
def KJ{n:Option Nat}{b a:Nat}:bA (some fc) ⟨dst,.load n,args,g,amb,idx,mask⟩ [.ptr b a]=if si fc=true then some (some ((idx,.rd b a (n.getD 1))::fc)) else(pg fc ⟨dst,.load n,args,g,amb,idx,mask⟩ [.ptr b a]).map some:=by simp_all[bA,pg,ij,if_pos,FF]
end
def FR:=am @KL (am @Ix (am @Iw (am @CZ @KJ)))
def FW:=am @Si (am @OP (am @Wm (am @Wl (am @afE @afF))))
end Go.Iso
section
namespace Go.Iso
def J1{a b:Prop}(h:a)(k:b):a/\b:=⟨h,k⟩
def TB:=J1 @BAS (J1 @ij.eq_def (J1 @pg.eq_def (J1 @opW.eq_def (J1 @tc.eq_def (J1 @ev1.eq_def (J1 @gU.eq_def (J1 @unI.eq_def (J1 @jD.eq_def (J1 @Lu.eq_def @cR.eq_def)))))))))
def aj:=J1 TB @Heap.write.eq_def
def jn:=J1 aj FW
def ko:=J1 ai FR
def ar{H0 H1:Heap}(q:H0=H1)(x:Nat){v:Option IObj}(h:H0.get x=v:=by simp(disch:=omega)only[aj,↓ai,seval];rfl):H1.get x=v:=q▸h
def aL{n:Nat}{H H0 H1:Heap}(q:H0=H1)(a:H.n<=H1.n:=by omega)(h:∀x,x<n->x<H.n->H0.get x=H.get x:=by intros;simp(disch:=omega)only[aj,↓ai,seval]):Keep n H H1:=⟨a,q▸h⟩
end Go.Iso
end
namespace Go.Iso
section
variable {α:Type}[Cell α]
def eo(l:List α)(i:Nat)(h:i<l.length):az l=az (l.take i)++(Cell.cs l[i]++az (l.drop (i+1))):=by grind[bJ,ie,List.drop_eq_getElem_cons,List.take_append_drop]
end
section
variable {α:Type}[Cell α]
end
def SV.cut(z:Nat)(v:SV)(a n:Nat):SV:=match v with|.nil=>.nil|.sl b o _ c ex=>.sl b (o+a*z) n (c - a) ex
section
variable {α:Type}[Cell α]
end
open Classical
section
variable {P:Program}{g0 lo:Nat}{μ:Mu}{H H':Heap}{w:World}{ρ:Operand->Value}{xs:List IV}{v:IV}
variable {dst:Option Tmp}{type:TypeId}{pos:String}{after:Array Edge}{guard:Option (Tmp×Bool)}
def xR:∀{E:List (IV×IV×Nat)}{l:List MapEntry}{e:MapEntry},EsR μ E l->e∈l->∃k v,(k,v,e.born)∈E/\VR μ k e.key/\VR μ v e.val|[],_,_,h,O=>by cases h;cases O|(k,v,s)::E,_,x,Q,h=>by obtain⟨e,V,rfl,I,J,U,F⟩:=Q;cases h with|head=>exact⟨k,v,by grind,I,J⟩|tail _ h=>obtain⟨T,v',a,b,c⟩:=xR F h;exact⟨T,v',dv _ a,b,c⟩
def HC(h:Rel P g0 μ H.get H.n w){x:Operand}{r b E Q F:Nat}{seen:List Nat}{es:List (IV×IV×Nat)}(hg:H.get r=some (.iter (some b) E seen Q))(hm:aO H b=some (es,F))(cc:lo<=r)(a6:∀e∈es,e.2.2<Q)(a2:∀e∈es,e.2.2<E)(bt:∃e∈es,e.2.2∉seen)(hx:VRs μ [.ptr r 0] [ρ x]):∃k v s,(k,v,s)∈es/\s∉seen/\Gives P g0 lo μ H w (execOp ρ ⟨dst,.next x false,type,pos,after,guard⟩) (.tuple [.bool true,k,v]) (H.put r (.iter (some b) E (seen++[s]) F)):=by obtain⟨y,hy,hv⟩:=ut hx;injection hy with hy _;subst hy;obtain⟨a,a4,hl⟩:=hv;have b3:∀o,H.get r=some o->o≠.dead->∃c p ez z,μ r=.at c p ez z/\ObjR P μ o p ez z w.heap[c]?/\a=⟨c,p+0,none⟩:=by{intro o ho hd;unfold LocR at hl;cases hb:μ r with|no=>rw[hb] at hl;exact hl.elim|dead=>have:=h.ded r hb;rw[ho] at this;injection this with this;exact absurd this hd|«at» c p ez z=>rw[hb] at hl;obtain⟨ob,a0,ci⟩:=h.obj r c p ez z hb;rw[ho] at a0;injection a0 with a0;subst a0;exact⟨c,p,ez,z,rfl,ci,hl⟩};obtain⟨c,p,ez,z,hb,⟨rfl,m',T,b5⟩,ha⟩:=b3 _ hg (by simp);subst ha;obtain⟨rm,cm,z2,J,aE,co,V,ad⟩:=ol h hm b5;injection aE with aE;subst aE;have bd:=Ei (f:=λs=>decide (Q<=s)) ad;have bw:es≠[]:=by{obtain⟨e,he,_⟩:=bt;exact List.ne_nil_of_mem he};have bh:(!seen.toArray.isEmpty&&!J.isEmpty&&J.all λe=>decide (e.born>=Q))=false:=by{have:(J.all λe=>decide (e.born>=Q))=false:=by{rw[<-Array.all_toList,<-bd,Bool.eq_false_iff];intro hh;cases es with|nil=>exact bw rfl|cons e es=>simp only[oU,bI,decide_eq_true_eq] at hh;have:=a6 e (lr ..);omega};rw[this,HR]};have g1:(getObj c).run P w=.ok (.mapIter (some rm) E seen.toArray Q) w:=by{simp[getObj,Sem.run,T]};have ay:(J.filter λe=>!seen.toArray.contains e.born).toList=J.toList.filter λe=>!seen.contains e.born:=by{rw[Array.toList_filter];simp};have bl:=Eh (f:=λs=>!seen.contains s) ad;have f1:((J.filter λe=>!seen.toArray.contains e.born).filter λe=>decide (e.born<E))=J.filter λe=>!seen.toArray.contains e.born:=by{rw[Array.filter_eq_self];intro e he;obtain⟨k,v,O,_,_⟩:=xR ad (Array.mem_toList_iff.2 (Array.mem_filter.1 he).1);simpa using a2 _ O};have f2:((J.filter λe=>!seen.toArray.contains e.born).filter λe=>decide (e.born>=E))=#[]:=by{rw[Array.filter_eq_empty_iff];intro e he;obtain⟨k,v,O,_,_⟩:=xR ad (Array.mem_toList_iff.2 (Array.mem_filter.1 he).1);have:=a2 _ O;simp only at this;simp;omega};have a3:(J.filter λe=>!seen.toArray.contains e.born)≠#[]:=by{intro I;rw[I] at ay;obtain⟨e,he,hs⟩:=bt;rw[<-ay] at bl;have bo:=EsR.length bl;simp only[cQ] at bo;have:e∈es.filter λe=>!seen.contains e.2.2:=List.mem_filter.2 ⟨he,by simpa using hs⟩;rw[List.length_eq_zero_iff.1 bo] at this;cases this};generalize hL:(J.filter λe=>!seen.toArray.contains e.born)=L at *;have b7:c<w.heap.size:=(Array.getElem?_eq_some_iff.1 T).1;have a9:∀(i:Nat)(w1:World),w1.heap=w.heap->w1.os=w.os->w1.tape=w.tape->w1.output=w.output->w.drawn<=w1.drawn->i<L.size->∃I k0 v0,L[i]? =some I/\(k0,v0,I.born)∈es/\I.born∉seen/\ (∃U,Rel P g0 U (H.put r (.iter (some b) E (seen++[I.born]) F)).get (H.put r (.iter (some b) E (seen++[I.born]) F)).n {w1 with heap:=w1.heap.setIfInBounds c (.mapIter (some rm) E (seen.toArray.push I.born) F)}/\ Post lo μ H.get H.n w U (H.put r (.iter (some b) E (seen++[I.born]) F)).get (H.put r (.iter (some b) E (seen++[I.born]) F)).n {w1 with heap:=w1.heap.setIfInBounds c (.mapIter (some rm) E (seen.toArray.push I.born) F)}/\ VR U (.tuple [.bool true,k0,v0]) (.tuple #[.bool true,I.key,I.val])):=by{intro i w1 q1 q2 q3 q4 q5 hi;obtain⟨I,Z⟩:∃I,L[i]? =some I:=⟨L[i],by simp[hi]⟩;have O:I∈L:=Array.mem_of_getElem? Z;rw[<-hL] at O;obtain⟨ce,cf⟩:=Array.mem_filter.1 O;obtain⟨k0,v0,ag,ca,cl⟩:=xR ad (Array.mem_toList_iff.2 ce);obtain⟨hr,hp⟩:=h.update (lo:=lo) (w':={w1 with heap:=w1.heap.setIfInBounds c (.mapIter (some rm) E (seen.toArray.push I.born) F)}) (o:=.iter (some b) E (seen++[I.born]) F) hb cc ⟨_,hg,rfl⟩ (by simp[q1]) (λc' b6=>by simp only[q1];rw[OD (Ne.symm b6)]) (by simp only[q1];rw[Qn b7];exact⟨rfl,some rm,by simp,b5⟩) q2 q3 q4 q5;exact⟨I,k0,v0,Z,ag,by simpa using cf,μ,hr,hp,⟨_,rfl,_,_,rfl,rfl,_,_,rfl,ca,_,_,rfl,cl,rfl⟩⟩};have a1:L.isEmpty=false:=by{simpa [Array.isEmpty_iff] using a3};have b4:0<L.size:=Array.size_pos_iff.2 a3;by_cases b8:L.size<=1;{obtain⟨I,k0,v0,Z,ag,a5,U,h1,h2,h3⟩:=a9 0 w rfl rfl rfl rfl (an _) b4;refine⟨k0,v0,I.born,ag,a5,.value (.tuple #[.bool true,I.key,I.val]),.tuple #[.bool true,I.key,I.val],_,U,?_,.inl rfl,h1,h2,h3⟩;simp only[execOp,Instr.next,a4,Sem.run_bind,g1,Result.andThen_ok,bO V,bh,jX,if_false,hL,f1,f2,a1];simp[choose,Sem.run,Question.forced,setObj,T,b8,Z]};{have b9:(Question.mapNext L.size).forced=false:=by{simp[Question.forced];omega};have cd:(Question.mapNext L.size).cut (w.tape w.drawn (.mapNext L.size))<L.size:=rV _ b4;obtain⟨I,k0,v0,Z,ag,a5,U,h1,h2,h3⟩:=a9 _ {w with drawn:=w.drawn+1} rfl rfl rfl rfl (vt _) cd;refine⟨k0,v0,I.born,ag,a5,.value (.tuple #[.bool true,I.key,I.val]),.tuple #[.bool true,I.key,I.val],_,U,?_,.inl rfl,h1,h2,h3⟩;simp only[execOp,Instr.next,a4,Sem.run_bind,g1,Result.andThen_ok,bO V,bh,jX,if_false,hL,f1,f2,a1];have hd:w.drew.heap=w.heap:=rfl;simp[choose,Sem.run,b9,setObj,hd,T,Z];exact⟨rfl,rfl⟩}
end
open Classical
def CallSim.lower{P:Program}{g0:Nat}{f:FuncId}{args:List IV}{lo F:Nat}{H H':Heap}{v:IV}(hl:F<=lo)(h:CallSim P g0 f args lo H v H'):CallSim P g0 f args F H v H':=by intro μ w E V U;exact(h μ w E V U).mono λe w' ⟨v',I,J,O,Q,T⟩=>⟨v',I,J,O,Q.lower hl,T⟩
def NItem(P:Program)(g0 lo:Nat)(O:Item)(rd:Option Nat)(fr:Fr)(H:Heap)(Q:CJ):Prop:=∀(μ:Mu)(w:World)(t:Array Value)(r:Option Nat)(ds:List Deferred),Rel P g0 μ H.get H.n w->VRs μ fr.tm t.toList->RdR μ rd r->DsR μ fr.marks ds->∀(f:FuncId)(k:List Item)(cs:List Frame),∃e F H' E w' J I,Q (.ex e F) H'/\Rel P g0 E H'.get H'.n w'/\Post lo μ H.get H.n w E H'.get H'.n w'/\VRs E F.tm J.toList/\DsR E F.marks I/\ Arr P f r J I cs w' (lone (bP f r t ds (O::k)) cs w) k e
section
variable {P:Program}{E:Env}{g0 lo:Nat}{rd:Option Nat}{fr:Fr}{H:Heap}{Q Q':CJ}
def NItem.mono{O:Item}(h:NItem P g0 lo O rd fr H Q)(hq:∀e F H',Q (.ex e F) H'->Q' (.ex e F) H'):NItem P g0 lo O rd fr H Q':=by intro μ w t r ds U V J I f k cs;obtain⟨e,F,H',Z,w1,t1,T,a0,a1,a2,a3,a4,a5⟩:=h μ w t r ds U V J I f k cs;grind
def Mo{O:Item}{e:Ex}{F:Fr}{H':Heap}(h:ItemSim P g0 lo O rd fr H e F H')(hq:Q (.ex e F) H'):NItem P g0 lo O rd fr H Q:=by intro μ w t r ds U V J I f k cs;obtain⟨Z,w1,t1,T,a1,a2,a3,a4,a5⟩:=h μ w t r ds U V J I f k cs;grind
def kR(O:EnvOk P E){c:Code}{I:IC}(T:bi P c=some I)(h:W E lo (.code I rd fr) H Q):NItem P E.g0 lo (.code c) rd fr H Q:=by obtain⟨n,o,H',F,U⟩:=h;obtain⟨e,J,rfl,hs⟩:=D0 (Bl O n) n (an _) c I rd fr lo H o H' T F;exact Mo hs U
def NItem.seq{T U F:Item}(hs:∀f r t ds k cs w,step P (lone (bP f r t ds (T::k)) cs w)=.next (lone (bP f r t ds (U::F::k)) cs w))(aE:∀id k,exitTo id (F::k)=exitTo id k)(h1:NItem P g0 lo U rd fr H λo H1=>match o with|.ex .normal I=>NItem P g0 lo F rd I H1 Q|o=>Q o H1):NItem P g0 lo T rd fr H Q:=by intro μ w t r ds hr ht O ay f k cs;obtain⟨e,I,H1,V,w1,t1,J,a0,a1,Z,a3,a4,a5⟩:=h1 μ w t r ds hr ht O ay f (F::k) cs;cases e with|normal=>obtain⟨e2,ag,H2,a6,w2,t2,ad,b0,b1,b2,b3,b4,b5⟩:=a0 V w1 t1 r J a1 a3 (O.mono Z.le) a4 f k cs;exact⟨e2,ag,H2,a6,w2,t2,ad,b0,b1,Z.trans b2,b3,b4,b5.head (Steps.head (hs f r t ds k cs w) a5)⟩|jmp j=>exact⟨.jmp j,I,H1,V,w1,t1,J,a0,a1,Z,a3,a4,(a5.skipItem aE).head (.one (hs f r t ds k cs w))⟩
def NItem.seqC{a b:Code}(I:NItem P g0 lo (.code a) rd fr H λo H1=>match o with|.ex .normal F=>NItem P g0 lo (.code b) rd F H1 Q|o=>Q o H1):NItem P g0 lo (.code (.seq a b)) rd fr H Q:=NItem.seq (λf r t ds k cs w=>Ob) (zV b) I
def Jl{id:Nat}{c:Code}(h:NItem P g0 lo (.code c) rd fr H λo H'=>match o with|.ex (.jmp (.exit F)) ad=>Q (.ex (if F=id then .normal else .jmp (.exit F)) ad) H'|o=>Q o H'):NItem P g0 lo (.code (.block id c)) rd fr H Q:=by intro μ w t r ds hr ht ay ag f k cs;obtain⟨e1,J,H1,O,w1,t1,I,T,U,V,Z,a4,a5⟩:=h μ w t r ds hr ht ay ag f (.inBlock id::k) cs;have st:step P (lone (bP f r t ds (.code (.block id c)::k)) cs w)=.next (lone (bP f r t ds (.code c::.inBlock id::k)) cs w):=JT;cases e1 with|normal=>exact⟨.normal,J,H1,O,w1,t1,I,T,U,V,Z,a4,Steps.head st (Steps.trans a5 (.one BR))⟩|jmp j=>obtain⟨pre,b1,b2⟩:=a5;cases j with|ret=>exact⟨.jmp .ret,J,H1,O,w1,t1,I,T,U,V,Z,a4,pre++[.inBlock id],Steps.head st (by simpa using b1),λF e=>by cases e⟩|exit F=>refine⟨_,J,H1,O,w1,t1,I,T,U,V,Z,a4,?_⟩;have hx:=b2 F rfl;rw[sI] at hx;by_cases he:F=id;{subst he;simp only[if_true] at hx⊢;exact Steps.head st (b1.trans (.one (Qi hx)))};{rw[if_neg (Ne.symm he)] at hx;rw[if_neg he];refine⟨pre++[.inBlock id],Steps.head st (by simpa using b1),λaE e=>?_⟩;grind}
def NItem.inLoop{c:Code}(Inv:Nat->Fr->Heap->Prop)(T:∀n fr H,Inv n fr H->NItem P g0 lo (.code c) rd fr H λo H'=>match o with|.ex .normal F=>∃m,m<n/\Inv m F H'|o=>Q o H'):∀n fr H,Inv n fr H->NItem P g0 lo (.inLoop c) rd fr H Q:=by intro n;induction n using Nat.strongRecOn with|_ n U=>intro fr H O;refine NItem.seq (λf r t ds k cs w=>yi) (kV c) ((T n fr H O).mono λe F H' J=>?_);cases e with|normal=>obtain⟨m,hm,I⟩:=J;exact U m hm F H' I|jmp j=>exact J
def NItem.loopC{c:Code}(Inv:Nat->Fr->Heap->Prop)(n:Nat)(h0:Inv n fr H)(J:∀n fr H,Inv n fr H->NItem P g0 lo (.code c) rd fr H λo H'=>match o with|.ex .normal F=>∃m,m<n/\Inv m F H'|o=>Q o H'):NItem P g0 lo (.code (.loop c)) rd fr H Q:=by refine NItem.seq (λf r t ds k cs w=>Hx) (kV c) ((J n fr H h0).mono λe F H' O=>?_);cases e with|normal=>obtain⟨m,hm,I⟩:=O;exact NItem.inLoop Inv J m F H' I|jmp j=>exact O
def NOp(P:Program)(g0:Nat)(o:Oper)(lo:Nat)(xs:List IV)(H:Heap)(R:IV->Heap->Prop):Prop:=∀(μ:Mu)(w:World)(t:Array Value),Rel P g0 μ H.get H.n w->VRs μ xs (o.op.operands.toList.map (dQ t))->∀(f:FuncId)(rd:Option Nat)(ds:List Deferred)(k:List Item)(cs:List Frame)(ops:Array Oper)(i:Nat)(F:List Nat),∃(v:IV) (H':Heap) (v':Value) (w':World) (I:Mu),R v H'/\Rel P g0 I H'.get H'.n w'/\Post lo μ H.get H.n w I H'.get H'.n w'/\VR I v v'/\ (ops[i]? =some o->Region.wanted o (yielded ops t)=true->Steps P (lone (bP f rd t ds (.inRegion ops (i::F)::k)) cs w) (lone (bP f rd (qY t o.dst v') ds (.inRegion ops F::k)) cs w'))
def NItem.region(hE:EnvOk P E){id:Nat}{ops:Array Oper}{pre post:List IOp}{io:IOp}(U:de P ops false=some [(.seq,pre++io::post)])(hg:io.guard=none){R:IV->Heap->Prop}(a0:W E lo (.ops none pre rd fr) H λo H1=>∃F xs,o=.ex .normal F/\bK E.g0 F.tm io.args=some xs/\ (∀o,cW P o.op=some io.kd->NOp P E.g0 o lo xs H1 R)/\ ∀v H2,R v H2->W E lo (.ops none post rd (F.put io.dst v)) H2 λo H'=>∃ag,o=.ex .normal ag/\Q (.ex .normal ag) H'):NItem P E.g0 lo (.code (.region id ops false)) rd fr H Q:=by simp only[de] at U;cases h1:ops.toList.mapM (j8 P ops) with|none=>rw[h1] at U;cases U|some l=>rw[h1] at U;simp only[wG,bR,jX,if_false] at U;have U:l=pre++io::post:=by{grind};subst U;obtain⟨hl,ar⟩:=sm h1;obtain⟨n,o,H1,a5,F,xs,rfl,bh,bd,V⟩:=a0;obtain⟨bw,S1,e1,O⟩:=ua (N:=n) pre n (an _) _ _ _ _ _ a5;injection e1 with _ e1;subst e1;have aE:∀(j:Nat)(I:IOp),(pre++io::post)[j]? =some I->∃o,ops[j]? =some o/\OpOk P ops o I:=λj I hj=>by{obtain⟨o,q1,q2⟩:=ar j I hj;obtain⟨e3,e4,e5,e6⟩:=oA q2;exact⟨o,by simpa using q1,e3,e4,e5,e6⟩};have ay:ops.size=pre.length+(post.length+1):=by{grind};intro μ w t r ds hr ht b8 a9 f k cs;have dh:List.range ops.size=List.range' 0 pre.length++(pre.length::List.range' (pre.length+1) post.length):=by{rw[Oz,ay,<-List.range'_append_1,aW,HW]};obtain⟨bl,t1,w1,a1,a2,a3,a4⟩:=A3 (a:=0) (ops:=ops) (Bl hE n) (λj I hj=>by have b7:j<pre.length:=(List.getElem?_eq_some_iff.1 hj).1;simp_all[Fm,aW]) O hr ht f r ds k cs (pre.length::List.range' (pre.length+1) post.length);obtain⟨o,ho,J⟩:=aE pre.length io (by simp);have ad:Region.wanted o (yielded ops t1)=true:=by{rw[pz J.guard (by simpa using a3.length) (λd w' _=>j4 a3 d),hg];rfl};have a6:=fA a1 J.args bh (λi _=>j4 a3 i);obtain⟨v,H2,v',w2,bo,b0,b1,b2,b3,b4⟩:=bd o J.kd bl w1 t1 a1 a6 f r ds k cs ops pre.length (List.range' (pre.length+1) post.length);have b4:=b4 ho ad;have b5:VRs bo (F.put io.dst v).tm (qY t1 o.dst v').toList:=by{rw[J.dst];cases o.dst with|none=>exact VRs.mono b2.le _ _ a3|some d=>simp only[Fr.put,qY,zL];exact(VRs.mono b2.le _ _ a3).set d b3};obtain⟨n3,o3,H3,Z,fr3,rfl,hq⟩:=V v H2 b0;obtain⟨b6,S3,e3,T⟩:=ua (N:=n3) post n3 (an _) _ _ _ _ _ Z;injection e3 with _ e3;subst e3;obtain⟨bt,t3,w3,c1,c2,c3,c4⟩:=A3 (a:=pre.length+1) (ops:=ops) (Bl hE n3) (λj I hj=>by obtain⟨o,q1,q2⟩:=aE (pre.length+1+j) I (by grind);exact⟨o,q1,q2⟩) T b1 b5 f r ds k cs [];rw[dM] at c4;refine⟨.normal,fr3,H3,bt,w3,t3,ds,hq,c1,(a2.trans b2).trans c2,c3,?_,?_⟩;{have hm:fr3.marks=fr.marks:=by{rw[T.marks];have:(F.put io.dst v).marks=F.marks:=by{cases io.dst<;>rfl};rw[this,O.marks]};rw[hm];exact a9.mono ((a2.trans b2).trans c2).le};{refine Steps.head E5 ?_;rw[dh];exact a4.trans (b4.trans (c4.trans (.one nZ)))}
def NOp.next{o:Oper}(T:cW P o.op=some .nextM){r b F J I:Nat}{seen:List Nat}{U:List (IV×IV×Nat)}(hg:H.get r=some (.iter (some b) F seen J))(hm:aO H b=some (U,I))(ag:lo<=r)(O:∀e∈U,e.2.2<J)(V:∀e∈U,e.2.2<F)(ay:∃e∈U,e.2.2∉seen):NOp P g0 o lo [.ptr r 0] H λv H'=>∃k x s,(k,x,s)∈U/\s∉seen/\v=.tuple [.bool true,k,x]/\H'=H.put r (.iter (some b) F (seen++[s]) I):=by intro μ w t hr hx f rd ds k cs ops i a2;obtain⟨y,Z⟩:∃y,o.op=.next y false:=by{cases ho:o.op<;>rw[ho] at T<;>simp only[cW,K4,bc,iq,iu] at T;(all_goals (repeat' split at T));(all_goals (try simp only[iu,iq,reduceCtorEq,and_false,exists_false] at T));all_goals first|(cases T;done)|exact⟨_,rfl⟩|grind};obtain⟨dst,op,type,pos,after,guard⟩:=o;simp only at Z;subst Z;have hx:VRs μ [.ptr r 0] [dQ t y]:=by{simpa [Op.operands] using hx};obtain⟨k0,v0,s0,h1,h2,nx,v',w',a1,ad,aE,a0,hp,hv⟩:=HC (dst:=dst) (type:=type) (pos:=pos) (after:=after) (guard:=guard) (ρ:=dQ t) hr hg hm ag O V ay hx;exact⟨_,_,v',w',a1,⟨k0,v0,s0,h1,h2,Rr⟩,a0,hp,hv,λho hw=>.one (JS ho hw (Df T) ad aE)⟩
def Re(P:Program)(g0:Nat)(f:FuncId)(args:List IV)(lo:Nat)(H:Heap)(R:IV->Heap->Prop):Prop:=∀(μ:Mu)(w:World)(F:Array Value),Rel P g0 μ H.get H.n w->VRs μ args F.toList->Calls P f F w λe w'=>∃(v:IV) (H':Heap) (v':Value) (I:Mu),R v H'/\e=.returned v'/\Rel P g0 I H'.get H'.n w'/\Post lo μ H.get H.n w I H'.get H'.n w'/\VR I v v'
def NOp.call{o:Oper}(hk:cW P o.op=some .call){g:FuncId}{first cap args:List IV}{fn:Func}{body:Code}(hf:P.funcs[g]? =some fn)(hb:fn.body=some body)(hn:(fn.name=="runtime.NumGoroutine")=false){R:IV->Heap->Prop}(h:Re P g0 g (first++args++cap) lo H R):NOp P g0 o lo (.fn g first cap::args) H R:=by obtain⟨fo,F,ts,ho⟩:=QB hk;intro μ w t hr hx f rd ds k cs ops i Z;have U:o.op.operands.toList.map (dQ t)=dQ t fo::F.toList.map (dQ t):=by{rw[ho];simp[Op.operands,Call.operands]};rw[U] at hx;obtain⟨y,yl,hy,a0,O⟩:=hx;simp only[iH] at hy;obtain⟨rfl,rfl⟩:=hy;obtain⟨l',r',ad,hl,aE⟩:=a0;have O:VRs μ args (F.map (dQ t)).toList:=by{simpa using O};have a1:VRs μ (first++args++cap) ((l'++F.map (dQ t))++r').toList:=by{rw[Cn,Cn];exact(hl.append O).append aE};obtain⟨e,w',fr,⟨v,H',v',a2,hR,rfl,ay,hp,hv⟩,J,a3,I⟩:=h μ w _ hr a1 (bP f rd t ds (.inRegion ops (i::Z)::k)::cs);refine⟨v,H',v',w',a2,hR,ay,hp,hv,λT hw=>?_⟩;rw[<-qu T];have V:(execOp (dQ t) o).run P w=.ok (.enter g ((l'++F.map (dQ t))++r')) w:=by{have ag:¬fn.name="runtime.NumGoroutine":=by{simpa using hn};simp only[execOp,ho,resolve,ad];simp[Deferred.ofValue,invoke,callFunc,hf,ag,hb]};refine Steps.head (step_lone_go ?_) (Steps.trans J (.one (step_leave_returned I)));rw[rG T hw (λc e=>by rw[ho] at e;cases e),sD];simp only[stepG.apply,Sem.runT_eq,V,if_true,GStep.bare_after];simp_all[bP]
end
open Go.Sort Go.Proofs Go.Shelf
section
variable {P:Program}{g0 lo:Nat}{μ:Mu}{H:Heap}{w:World}
def RX{n n':Nat}{g g':Gt}{Q:Mu}{w':World}(E:Post n μ g n w Q g' n' w'):∃q os,w'=grow (w.drewN q) os:=by have U:w'.heap=w.heap++w'.heap.extract w.heap.size w'.heap.size:=by{apply Array.ext_getElem?;intro i;by_cases V:i<w.heap.size;{rw[Array.getElem?_append_left V];exact E.frame i V λb p ez z J O=>Om};grind};refine⟨w'.drawn - w.drawn,w'.heap.extract w.heap.size w'.heap.size,?_⟩;have J:=E.os;have O:=E.tape;have T:=E.output;have h4:=E.drawn;obtain⟨h,t,d,o,u⟩:=w;obtain⟨I,Z,F,o',u'⟩:=w';simp only at J O T h4 U⊢;subst J O T;show World.mk I Z F o' u'=World.mk (h++I.extract h.size I.size) Z (d+(F - d)) o' u';rw[<-U,show d+(F - d)=F by omega]
def Lc(os:Array Obj){c:Nat}(E:c<w.heap.size):(grow w os).heap[c]? =w.heap[c]?:=Array.getElem?_append_left E
def Rel.grown{g:Gt}{n:Nat}(h:Rel P g0 μ g n w)(os:Array Obj):Rel P g0 μ g n (grow w os):=⟨h.lt,h.inj,λb c p ez z E=>by rw[Lc os (h.clt E)];exact h.obj b c p ez z E,h.glob,h.ded⟩
def Post.grown{g:Gt}{n:Nat}(h:Rel P g0 μ g n w)(os:Array Obj):Post lo μ g n w μ g n (grow w os) where le:=μ.le_refl;hn:=an _;old:=λ_ _ h=>h;low:=λ_ _ _=>⟨rfl,rfl⟩;own:=λ_ _ h=>h;new:=λb c p ez z J e=>absurd (h.lt b (by grind)) Om;full:=λb F I=>Om;size:=by{simp_all};frame:=λc E _=>Lc os E;os:=rfl;tape:=rfl;output:=rfl;drawn:=an _
def toV:IV->Value|.int k n=>.int k n|_=>undef
def QC:IV->Bool|.int _ _=>true|_=>false
def xP:∀{L:List IV}{vs:List Value},L.all QC=true->(VRs μ L vs↔vs=L.map toV)|[],vs,_=>by constructor<;>exactλh=>h|x::L,vs,h=>by simp only[oU,bI] at h;have I:=λvs=>xP (L:=L) (vs:=vs) h.2;obtain⟨k,n,rfl⟩:∃k n,x=.int k n:=by{cases x with|int k n=>exact⟨k,n,rfl⟩|_=>exact absurd h.1 (by simp[QC])};constructor;{rintro⟨y,ys,rfl,E,F⟩;have E:y=.int k n:=E;rw[E,(I ys).1 F];rfl};{rintro rfl;exact⟨_,_,rfl,rfl,(I _).2 rfl⟩}
theorem EA(F:Array Value)(cs:Array Value)(h:F.size<=cs.size):(putCells id 0 F cs).toList.take F.size=F.toList:=by apply vz;intro i;rw[List.getElem?_take];by_cases E:i<F.size;{rw[if_pos E,Fh,Fh];unfold putCells;rw[Array.getElem?_mapIdx,Cs (by omega:i<cs.size)];simp only[dV];rw[iP,ql,getElem!_pos F i E,Cs E];rfl};grind
def Zk(h:Rel P g0 μ H.get H.n w){b c e ez z:Nat}{cs E:List IV}(T:μ b=.at c 0 ez z)(O:lo<=b)(U:H.get b=some (.cells false e ez cs)){F:Array Value}(V:VRs μ E F.toList)(hl:E.length=cs.length)(m:Nat):Rel P g0 μ (H.put b (.cells false e ez E)).get (H.put b (.cells false e ez E)).n (putRow id (Sort.ahead w m) c 0 F)/\Post lo μ H.get H.n w μ (H.put b (.cells false e ez E)).get (H.put b (.cells false e ez E)).n (putRow id (Sort.ahead w m) c 0 F):=by obtain⟨o,ho,Q⟩:=h.obj b c 0 ez z T;rw[U] at ho;injection ho with ho;subst ho;obtain⟨_,_,I,Z,hz,ad,hv⟩:=Q;have ag:F.size=E.length:=by{rw[<-uS,V.length]};refine h.update T O ⟨_,U,rfl⟩ (by show(w.heap.modify c _).size=_;rw[Array.size_modify]) (λc' J=>by show(w.heap.modify c _)[c']? =_;rw[Array.getElem?_modify,if_neg (Ne.symm J)]) ?_ rfl rfl rfl (Nat.le_add_right _ _);refine⟨rfl,rfl,putCells id 0 F I,?_,?_,Om,?_⟩;{show(w.heap.modify c _)[c]? =_;rw[Array.getElem?_modify,if_pos rfl,Z];rfl};{unfold putCells;rw[Array.size_mapIdx];exact hz};grind[EA]
section
variable {α:Type}[Inhabited α]
def Ck:∀(l:List Value),(List.range l.length).map (λt=>l[t]!)=l:=by intro l;apply jV (by simp);grind
def IG(enc:α->List Value)(k:Nat)(I:∀x,(enc x).length=k)(F:0<k):∀(l:List α),(flatK enc k l.toArray).toList=l.flatMap enc:=by have key:∀(l:List α),(List.range (l.length*k)).map (λt=>(enc l[t / k]!)[t%k]!)=l.flatMap enc:=by{intro l;induction l with|nil=>simp|cons a l J=>rw[bQ,gW,yx,List.range_add,im,List.flatMap_cons,<-J];congr 1;{(conv=>rhs;rw[<-Ck (enc a),I]);apply Ig;intro t E;have E:=List.mem_range.1 E;rw[Nat.div_eq_of_lt E,Nat.mod_eq_of_lt E];rfl};{rw[yw];apply Ig;intro t _;show(enc (a::l)[(k+t) / k]!)[(k+t)%k]! =_;rw[Nat.add_div_left _ F,Nat.add_mod_left];rfl}};simp_all[flatK,Array.toList_map,Array.toList_range]
end
section
variable {α:Type}[Inhabited α][Cell α]
def vQ(x:α):List Value:=(Cell.cs x).map toV
omit [Inhabited α] in theorem Lx(x:α):(vQ x).length=Cell.z α:=by unfold vQ;rw[aP,Cell.len]
omit [Inhabited α] in theorem SQ(l:List α):l.flatMap vQ=(az l).map toV:=by unfold az vQ;rw[List.map_flatMap]
def Mj(F:α->α->Int)(b e ez:Nat)(l:List α)(H:Heap)(v:IV)(H':Heap):Prop:=v=.tuple []/\∃E:List α,E.Perm l/\E.Pairwise (λx y=>ltOf F y x=false)/\H'.n=H.n/\(∀x,x≠b->H'.get x=H.get x)/\H'.get b=some (.cells false e ez (az E))
def BV{ρ:Ren}(L:SlLaysF0.n6 P ρ)(I:∀x:α,(Cell.cs x).all QC=true)(aE:∀w,(isAgg (ρ.t 24)).run P w=.ok true w)(zE:∀w,(Go.sizeOf (ρ.t 24)).run P w=.ok (Cell.z α) w)(cf:α->α->Int)(hO:SWO (ltOf cf)){g b e ez lb:Nat}{ex:Bool}{l:List α}(b4:lo<=b)(hg:H.get b=some (.cells false e ez (az l)))(b5:l.length<4611686018427387904)(eg:∀args w,(callFunc g args).run P w=.ok (.enter g args) w)(a6:∀(x y:α)(H':Heap),∃a4,CallSim P g0 g [.agg (Cell.cs x),.agg (Cell.cs y)] H'.n H' (.int .i64 (cf x y)) a4):Re P g0 (ρ.f 6) [.slice b 0 l.length lb ex,.fn g [] []] lo H (Mj cf b e ez l H):=by intro μ w a0 hr ha;obtain⟨v1,cc,e1,b6,v2,cd,rfl,b7,rfl⟩:=ha;obtain⟨a,cap,rfl,ag,Q⟩:=b6;obtain⟨l1,U,rfl,J,O⟩:=b7;have J:l1.toList=[]:=J;have O:U.toList=[]:=O;have J:l1=#[]:=Array.toList_eq_nil_iff.1 J;have O:U=#[]:=Array.toList_eq_nil_iff.1 O;subst J O;have a1:a0=#[.slice (some a) l.length cap,.func (.func g) #[] #[]]:=by{apply vr;rw[e1]};subst a1;have bh:∃c E z,μ b=.at c 0 E z/\E=ez/\(cap=0\/a=⟨c,0,none⟩):=by{unfold SlR at Q;cases hb:μ b with|no=>rw[hb] at Q;exact Q.elim|dead=>have:=hr.ded b hb;rw[hg] at this;injection this with this;cases this|«at» c p E z=>rw[hb] at Q;obtain⟨o,ho,a3⟩:=hr.obj b c p E z hb;rw[hg] at ho;injection ho with ho;subst ho;obtain⟨rfl,rfl,_⟩:=a3;exact⟨c,_,z,rfl,rfl,by simpa using Q.1⟩};obtain⟨c,E,z,hb,rfl,a2⟩:=bh;by_cases ay:l=[];{subst ay;exact(AnyF.slices_SortFunc_none L (some a) cap _ w).mono λe' w' ⟨Z,h2⟩=>by subst Z h2;exact⟨.tuple [],H,.tuple #[],μ,⟨rfl,[],.refl _,.nil,rfl,λ_ _=>rfl,hg⟩,rfl,hr,Post.refl hr,⟨#[],Rr⟩⟩};have b8:0<l.length:=List.length_pos_iff.2 ay;have ha:a=⟨c,0,none⟩:=by{rcases a2 with h|h;{have Z:=ag.1;have h2:=ag.2.1;omega};{exact h}};subst ha;have ad:∀l:List α,(az l).all QC=true:=λl=>by{unfold az;rw[List.all_flatMap,zJ];exactλx _=>I x};have hF:∀d:Array α,(flatK vQ (Cell.z α) d).toList=(az d.toList).map toV:=λd=>by{rw[<-SQ,<-IG vQ (Cell.z α) Lx Cell.pos]};have bd:∀d:Array α,VRs μ (az d.toList) (flatK vQ (Cell.z α) d).toList:=λd=>(xP (ad _)).2 (hF d);obtain⟨o,ho,a3⟩:=hr.obj b c 0 E z hb;rw[hg] at ho;injection ho with ho;subst ho;obtain⟨_,_,T,hc,hz,ca,hv⟩:=a3;have bo:T.toList.take (az l).length=(flatK vQ (Cell.z α) l.toArray).toList:=by{rw[hF];exact(xP (ad _)).1 hv};have a5:c<w.heap.size:=(Array.getElem?_eq_some_iff.1 hc).1;have hH:HoldsK vQ (Cell.z α) w c 0 l.toArray:=by{intro j hj;have b3:j<(az l).length:=by{rw[ax];simpa using hj};have b9:j<T.size:=Om;refine⟨?_,?_⟩;{unfold World.cell?;simp only[hc,yK,jX,if_false,aW];have Z:(T.toList.take (az l).length)[j]? =T[j]?:=by{rw[List.getElem?_take,if_pos b3,Fh]};rw[<-Z,bo,Fh,Cs hj,getElem!_pos _ j hj];rfl};{unfold World.frozen?;simp only[hc];simp}};have hW:∀(d:Array α)(m:Nat)(os:Array Obj),d.size=l.length->Rel P g0 μ (H.put b (.cells false e E (az d.toList))).get (H.put b (.cells false e E (az d.toList))).n (sortWorldK vQ (Cell.z α) w c 0 m d os)/\ Post lo μ H.get H.n w μ (H.put b (.cells false e E (az d.toList))).get (H.put b (.cells false e E (az d.toList))).n (sortWorldK vQ (Cell.z α) w c 0 m d os):=by{intro d m os hd;obtain⟨U,p1⟩:=Zk (lo:=lo) hr hb b4 hg (bd d) (by rw[ax,ax,uS,hd]) m;exact⟨U.grown os,p1.trans (Post.grown U os)⟩};have bl:CmpLays P g #[] vQ (Cell.z α) cf c 0 l.toArray.size w:=by{intro m os dk bt x y;obtain⟨U,_⟩:=hW dk m os (by simpa using bt);obtain⟨a4,hs⟩:=a6 x y (H.put b (.cells false e E (az dk.toList)));have hx:∀x:α,VR μ (.agg (Cell.cs x)) (.agg (vQ x).toArray):=λx=>⟨_,rfl,(xP (I x)).2 rfl⟩;refine(hs μ _ _ U ⟨_,_,rfl,hx x,_,_,rfl,hx y,rfl⟩).mono λe' w' ⟨v',ce,Z,_,h3,h4⟩=>?_;have h4:v'=.int .i64 (cf x y):=h4;subst Z h4;exact⟨rfl,RX h3⟩};have a9:∀x:α,∀v∈vQ x,v.oneCell'=true:=by{intro x v hv;obtain⟨y,hy,rfl⟩:=List.mem_map.1 hv;have:=List.all_eq_true.1 (I x) y hy;cases y<;>first|(cases this;done)|rfl};have F:=AnyQ.slices_SortFunc L (Cell.z α) aE zE vQ Lx a9 cf hO g #[] c 0 cap l.toArray w eg bl hH a5 (by simpa using b5);rw[CA] at F;refine F.mono λe' w' ⟨Z,V,m,os,hp,hs,hw⟩=>?_;subst Z hw;have hd:V.size=l.length:=by{simpa using hp.1};obtain⟨U,p1⟩:=hW V m os hd;refine⟨.tuple [],H.put b (.cells false e E (az V.toList)),.tuple #[],μ,⟨rfl,V.toList,?_,?_,rfl,λx hx=>by rw[aa,if_neg (Ne.symm hx)],by rw[aa,if_pos rfl]⟩,rfl,U,p1,⟨#[],Rr⟩⟩;{have:=hp.2.2;have e1:V.extract 0 l.length=V:=by{rw[<-hd];exact Array.extract_size};have e2:l.toArray.extract 0 l.length=l.toArray:=by{rw[<-CA];exact Array.extract_size};rw[e1,e2] at this;simpa using this};{rw[Fl];intro i j hi hj bw;have:=hs i j (cU _) bw (by rw[<-hd,<-uS];exact hj);rw[getElem!_pos V i (by simpa using hi),getElem!_pos V j (by simpa using hj)] at this;simpa using this}
end
end
open Classical
def Wg:IV->Bool|.int _ _=>true|.bool _=>true|.nilSlice=>true|.slice _ _ _ _ _=>true|_=>false
section
variable {P:Program}{g0 lo:Nat}
def jA{c:Code}{x y:IC}(h:bi P c=some (.seq x y)):∃a b,c=.seq a b/\bi P a=some x/\bi P b=some y:=by cases c<;>simp only[bi,iq,wG,iu,yE,nE,reduceCtorEq,and_false,exists_false] at h;grind
def zi{c:Code}{l:List (Sg×List IOp)}(h:bi P c=some (.ops l)):∃id ops E,c=.region id ops E/\de P ops E=some l:=by cases c<;>simp only[bi,iq,wG,iu,yE,nE,reduceCtorEq,and_false,exists_false] at h;grind
def LP{c:Code}{x:IC}{n:Nat}(h:bi P c=some (.block n x)):∃a,c=.block n a/\bi P a=some x:=by cases c<;>simp only[bi,iq,wG,iu,yE,nE,reduceCtorEq,and_false,exists_false] at h;grind
def Pv{c:Code}{x:IC}(h:bi P c=some (.loop x)):∃a,c=.loop a/\bi P a=some x:=by cases c<;>simp only[bi,iq,wG,iu,yE,nE,reduceCtorEq,and_false,exists_false] at h;grind
end
open Classical
def Cf(E:Nat->Nat):IV->IV|.slice b o n lb ex=>.slice (E b) o n lb ex|v=>v
def nmC(n:Nat):IV->Prop|.slice b _ _ _ _=>b<n|_=>True
def Ou{μ E:Mu}{F:Nat->Nat}{n:Nat}(hm:∀b,b<n->E b=μ (F b)\/E b=.dead):∀{v:IV}{v':Value},Wg v=true->nmC n v->VR μ (Cf F v) v'->VR E v v'|.int _ _,_,_,_,h=>h|.bool _,_,_,_,h=>h|.nilSlice,_,_,_,h=>h|.slice b o n lb ex,_,_,O,h=>by obtain⟨a,cap,e,I,J⟩:=h;refine⟨a,cap,e,I,?_⟩;unfold SlR at J⊢;rcases hm b O with e|e<;>grind
def nD{μ E:Mu}{J:Nat->Nat}{n:Nat}(hm:∀b,b<n->E b=μ (J b)\/E b=.dead):∀{cs:List IV}{l:List Value},cs.all Wg=true->(∀c∈cs,nmC n c)->VRs μ (cs.map (Cf J)) l->VRs E cs l|[],_,_,_,h=>h|c::cs,_,F,I,h=>by simp only[oU,bI] at F;obtain⟨y,ys,e,O,Q⟩:=h;exact⟨y,ys,e,Ou hm F.1 (I c lr) O,nD hm F.2 (λc T=>I c (dv _ T)) Q⟩
section
variable {μ μ1 μ':Mu}
def Ef(μ μ1 μ':Mu):Prop:=∀b,μ b≠.no->μ' b=μ1 b\/μ' b=.dead
def LocR.swap(hs:Ef μ μ1 μ'){b o:Nat}{E a:Addr}(h0:LocR μ b o E)(h:LocR μ1 b o a):LocR μ' b o a:=by have hn:μ b≠.no:=by{intro e;unfold LocR at h0;rw[e] at h0;exact h0};unfold LocR at h⊢;rcases hs b hn with e|e<;>grind
def SlR.swap(hs:Ef μ μ1 μ'){b o c0 cap:Nat}{ex:Bool}{E a:Addr}(h0:SlR μ b o ex c0 E)(h:SlR μ1 b o ex cap a):SlR μ' b o ex cap a:=by have hn:μ b≠.no:=by{intro e;unfold SlR at h0;rw[e] at h0;exact h0};unfold SlR at h⊢;rcases hs b hn with e|e<;>grind
mutual
def VR.swap(hs:Ef μ μ1 μ'):∀(x:IV)(U v:Value),VR μ x U->VR μ1 x v->VR μ' x v|.bool _,_,_,_,h=>h|.int _ _,_,_,_,h=>h|.str _,_,_,_,h=>h|.ptr _ _,_,_,h0,h=>by obtain⟨a,e,k⟩:=h;obtain⟨_,_,k0⟩:=h0;exact⟨a,e,k0.swap hs k⟩|.nilPtr,_,_,_,h=>h|.slice _ _ _ _ _,_,_,h0,h=>by obtain⟨a,c,e,k,l⟩:=h;obtain⟨_,_,_,_,Q⟩:=h0;exact⟨a,c,e,k,Q.swap hs l⟩|.nilSlice,_,_,_,h=>h|.map _,_,_,h0,h=>by obtain⟨a,e,k⟩:=h;obtain⟨_,_,k0⟩:=h0;exact⟨a,e,k0.swap hs k⟩|.nilMap,_,_,_,h=>h|.fn _ l r,_,_,h0,h=>by obtain⟨E,T,e,F,J⟩:=h;obtain⟨_,_,_,I,O⟩:=h0;exact⟨E,T,e,VRs.swap hs l _ _ I F,VRs.swap hs r _ _ O J⟩|.yield _,_,_,h0,h=>by obtain⟨a,e,k⟩:=h;obtain⟨_,_,k0⟩:=h0;exact⟨a,e,k0.swap hs k⟩|.nilFunc,_,_,_,h=>h|.iface _ x,_,_,h0,h=>by obtain⟨V,e,k⟩:=h;obtain⟨_,_,k0⟩:=h0;exact⟨V,e,VR.swap hs x _ _ k0 k⟩|.nilIface,_,_,_,h=>h|.agg l,_,_,h0,h=>by obtain⟨E,e,k⟩:=h;obtain⟨_,_,k0⟩:=h0;exact⟨E,e,VRs.swap hs l _ _ k0 k⟩|.tuple l,_,_,h0,h=>by obtain⟨E,e,k⟩:=h;obtain⟨_,_,k0⟩:=h0;exact⟨E,e,VRs.swap hs l _ _ k0 k⟩
def VRs.swap(hs:Ef μ μ1 μ'):∀(x:List IV)(F v:List Value),VRs μ x F->VRs μ1 x v->VRs μ' x v|[],_,_,_,h=>h|x::xs,_,_,h0,h=>by obtain⟨y,ys,e,k,ks⟩:=h;obtain⟨_,_,_,k0,E⟩:=h0;exact⟨y,ys,e,VR.swap hs x _ _ k0 k,VRs.swap hs xs _ _ E ks⟩
end
def EsR.swap(hs:Ef μ μ1 μ'):∀{E:List (IV×IV×Nat)}{I l:List MapEntry},EsR μ E I->EsR μ1 E l->EsR μ' E l|[],_,_,_,h=>h|(k,v,_)::_,_,_,h0,h=>by obtain⟨e,F,a,b,c,d,f⟩:=h;obtain⟨_,_,_,b0,c0,_,f0⟩:=h0;exact⟨e,F,a,VR.swap hs k _ _ b0 b,VR.swap hs v _ _ c0 c,d,EsR.swap hs f0 f⟩
def ObjR.swap{P:Program}(hs:Ef μ μ1 μ'){o:IObj}{p p0 ez O z z0:Nat}{h h0:Option Obj}(k0:ObjR P μ o p0 O z0 h0)(k:ObjR P μ1 o p ez z h):ObjR P μ' o p ez z h:=by cases o with|cells ro e Z cs=>cases ro;{obtain⟨a,b,E,c,d,I,f⟩:=k;obtain⟨_,_,_,_,_,_,f0⟩:=k0;exact⟨a,b,E,c,d,I,VRs.swap hs _ _ _ f0 f⟩};{obtain⟨a,E,I,fz,b,c,f⟩:=k;obtain⟨_,_,_,_,_,_,f0⟩:=k0;exact⟨a,E,I,fz,b,c,VRs.swap hs _ _ _ f0 f⟩}|map es F=>obtain⟨a,J,b,c⟩:=k;obtain⟨_,_,_,c0⟩:=k0;exact⟨a,J,b,EsR.swap hs c0 c⟩|loop st pend tm ps U body df=>obtain⟨a,L,b,c,d,e,f,g,i,j⟩:=k;obtain⟨_,_,_,_,_,V,_,_,_,j0⟩:=k0;exact⟨a,L,b,c,d,VRs.swap hs _ _ _ V e,f,g,i,j0.swap hs j⟩|deferred=>exact k|taken=>exact k|iter m Q seen T=>obtain⟨a,m',b,c⟩:=k;obtain⟨_,_,_,c0⟩:=k0;exact⟨a,m',b,VR.swap hs _ _ _ c0 c⟩|dead=>exact k
end
structure FixOk(lo:Nat)(H H1 Hs:Heap)(σ:Nat→Nat):Prop where
 hn:H.n≤Hs.n
 s0:∀b,b < H.n→σ b=b
 s1:∀b,H.n≤b→b < Hs.n→H.n≤σ b∧σ b < H1.n
 s2:∀b b',H.n≤b→b < Hs.n→H.n≤b'→b' < Hs.n→σ b=σ b'→b=b'
 low:∀b,b < lo→b < H.n→Hs.get b=H.get b
 old:∀b,b < H.n→(Hs.get b=H.get b∧H1.get b=H.get b)∨(lo≤b∧Hs.get b=some .dead)∨
  (lo≤b∧br H.get b∧∃e z cs,Hs.get b=some (.cells false e z cs)∧H1.get b=some (.cells false e z (cs.map (Cf σ)))∧cs.all Wg=true∧∀c∈cs,nmC Hs.n c)
 new:∀b,H.n≤b→b < Hs.n→∃e z cs,Hs.get b=some (.cells false e z cs)∧H1.get (σ b)=some (.cells false e z (cs.map (Cf σ)))∧cs.all Wg=true∧∀c∈cs,nmC Hs.n c
section
variable {P:Program}{g0 lo:Nat}
def Z3{μ I:Mu}{H H1 Q:Heap}{w w1:World}{Z:Nat->Nat}(ca:g0<=lo)(hr:Rel P g0 μ H.get H.n w)(r1:Rel P g0 I H1.get H1.n w1)(p1:Post lo μ H.get H.n w I H1.get H1.n w1)(F:FixOk lo H H1 Q Z):∃a5,Rel P g0 a5 Q.get Q.n w1/\Post lo μ H.get H.n w a5 Q.get Q.n w1/\∀b,b<Q.n->a5 b=I (Z b)\/a5 b=.dead:=by let m2:Mu:=λb=>if b<Q.n then(if Q.get b=some .dead/\I (Z b)≠.no then .dead else I (Z b)) else .no;have b4:∀b,Q.n<=b->m2 b=.no:=λb h=>by{grind};have b3:∀b,b<Q.n->Q.get b=some .dead->I (Z b)≠.no->m2 b=.dead:=λb J E h3=>by{grind};have bh:∀b,b<Q.n->¬(Q.get b=some .dead/\I (Z b)≠.no)->m2 b=I (Z b):=λb J E=>by{grind};have ag:∀b,b<Q.n->m2 b=I (Z b)\/m2 b=.dead:=λb h=>by{grind};have b8:∀b,b<Q.n->I (Z b)=.no->m2 b=.no:=λb J E=>by{grind};have aE:∀b c p ez z,m2 b=.at c p ez z->b<Q.n/\I (Z b)=.at c p ez z/\Q.get b≠some .dead:=by{grind};have bd:∀b b',b<Q.n->b'<Q.n->Z b=Z b'->b=b':=by{intro b b' J E he;rcases dG b H.n with c1|c1<;>rcases dG b' H.n with c2|c2;{rw[F.s0 b c1,F.s0 b' c2] at he;exact he};{have:=F.s0 b c1;have:=F.s1 b' c2 E;omega};{have:=F.s0 b' c2;have:=F.s1 b c1 J;omega};{exact F.s2 b b' c1 J c2 E he}};have bo:Ef μ I m2:=λb O=>by{have U:=hr.lt b O;have:=ag b (cw U F.hn);rwa [F.s0 b U] at this};have bl:∀b,b<Q.n->br Q.get b->br H1.get (Z b):=by{rintro b O ⟨o,J,E⟩;rcases dG b H.n with c|c;{rw[F.s0 b c];rcases F.old b c with⟨T,a2⟩|⟨_,T⟩|⟨_,_,e,z,cs,T,a2,_⟩;{exact⟨o,by rw[a2,<-T];exact J,E⟩};{rw[T] at J;injection J with J;subst J;cases E};{exact⟨_,a2,rfl⟩}};{obtain⟨e,z,cs,T,a2,_⟩:=F.new b c O;exact⟨_,a2,rfl⟩}};have b6:μ.le m2:=λb O=>by{have U:=hr.lt b O;rcases bo b O with e|e;{rw[e];exact p1.le b O};{exact .inr e}};refine⟨m2,⟨?_,?_,?_,?_,?_⟩,⟨b6,F.hn,?_,?_,?_,?_,?_,p1.size,p1.frame,p1.os,p1.tape,p1.output,p1.drawn⟩,ag⟩;{grind};{intro b b' c p ez z p' b9 z' O bt ho;obtain⟨J,E,_⟩:=aE _ _ _ _ _ O;obtain⟨h3,h4,_⟩:=aE _ _ _ _ _ bt;exact bd b b' J h3 (r1.inj _ _ _ _ _ _ _ _ _ E h4 (bl b J ho))};{intro b c p ez z O;obtain⟨J,E,h3⟩:=aE _ _ _ _ _ O;obtain⟨o1,g1,k1⟩:=r1.obj _ c p ez z E;rcases dG b H.n with cc|cc;{have e0:=F.s0 b cc;rw[e0] at g1 E;rcases F.old b cc with⟨T,a2⟩|⟨_,T⟩|⟨_,_,e,z',cs,T,a2,a3,a4⟩;{rw[a2] at g1;refine⟨o1,by rw[T];exact g1,?_⟩;have b7:μ b≠.no:=λh=>by{rw[p1.old b cc h] at E;cases E};obtain⟨c0,p0,ay,z0,bw⟩:∃c0 p0 ay z0,μ b=.at c0 p0 ay z0:=by{cases hm:μ b with|no=>exact absurd hm b7|dead=>have:=hr.ded b hm;rw[g1] at this;injection this with this;subst this;exact k1.elim|«at» c0 p0 ay z0=>exact⟨_,_,_,_,rfl⟩};obtain⟨o0,V,k0⟩:=hr.obj b _ _ _ _ bw;rw[g1] at V;injection V with V;subst V;exact k0.swap bo k1};{exact absurd T h3};{rw[a2] at g1;injection g1 with g1;subst g1;obtain⟨q1,q2,a6,q3,q4,q5,q6⟩:=k1;rw[aP] at q5 q6;exact⟨_,T,q1,q2,a6,q3,q4,q5,nD ag a3 a4 q6⟩}};{obtain⟨e,z',cs,T,a2,a3,a4⟩:=F.new b cc J;rw[a2] at g1;injection g1 with g1;subst g1;obtain⟨q1,q2,a6,q3,q4,q5,q6⟩:=k1;rw[aP] at q5 q6;exact⟨_,T,q1,q2,a6,q3,q4,q5,nD ag a3 a4 q6⟩}};{intro i hi;have b5:=hr.glob i hi;have U:=hr.lt i (by grind);have J:=r1.glob i hi;have e0:=F.s0 i U;rcases ag i (cw U F.hn) with e|e;{rw[e,e0];exact J};{have hd:Q.get i=some .dead:=by{grind};rw[F.low i Om U] at hd;obtain⟨o,g,k⟩:=hr.obj i _ _ _ _ b5;rw[hd] at g;injection g with g;subst g;exact k.elim}};{intro b O;have U:b<Q.n:=HU λh=>by{rw[b4 b h] at O;cases O};by_cases E:Q.get b=some .dead/\I (Z b)≠.no;{exact E.1};{rw[bh b U E] at O;have hd:=r1.ded _ O;rcases dG b H.n with cc|cc;{rw[F.s0 b cc] at hd;rcases F.old b cc with⟨T,a2⟩|⟨_,T⟩|⟨_,_,e,z',cs,T,a2,_⟩<;>grind};{obtain⟨e,z',cs,T,a2,_⟩:=F.new b cc U;grind}}};{intro b O h;exact b8 b (cw O F.hn) (by rw[F.s0 b O];exact p1.old b O h)};{intro b O ad;have hl:=p1.low b O ad;have hg:=F.low b O ad;refine⟨?_,hg⟩;have a9:=cw ad F.hn;by_cases E:Q.get b=some .dead/\I (Z b)≠.no;{rw[b3 b a9 E.1 E.2];have h3:=E.2;rw[F.s0 b ad,hl.1] at h3;cases hm:μ b with|no=>exact absurd hm h3|dead=>rfl|«at» c0 p0 ay z0=>obtain⟨o0,V,k0⟩:=hr.obj b _ _ _ _ hm;rw[<-hg,E.1] at V;injection V with V;subst V;exact k0.elim};{rw[bh b a9 E,F.s0 b ad];exact hl.1}};{rintro b O ⟨o,J,E⟩;rcases F.old b O with⟨T,_⟩|⟨_,T⟩|⟨_,a0,_⟩;{exact⟨o,by rw[<-T];exact J,E⟩};{rw[T] at J;injection J with J;subst J;cases E};{exact a0}};{intro b c p ez z O e;obtain⟨J,E,_⟩:=aE _ _ _ _ _ e;exact p1.new _ c p ez z (F.s1 b O J).1 E};{intro b J E;have:=F.s1 b J E;have h3:=p1.full _ this.1 this.2;grind}
def XP{f:FuncId}{fn:IFn}(F:iz P f=some fn){args:List IV}{H Hs:Heap}{v:List IV}(a6:g0<=lo){NC:Prop}(bl:∀(μ:Mu)(w:World)(E:Array Value),Rel P g0 μ H.get H.n w->VRs μ args E.toList->NC)(T:NC->∀J c,P.funcs[f]? =some J->J.body=some c->bi P c=some fn.body->NItem P g0 lo (.code c) none ⟨args++di (fn.ntmps - args.length),[]⟩ H λo H'=>∃e O,o=.ex e O/\(∀id,e≠.jmp (.exit id))/\O.marks=[]/\ ∃σ,aG H' O.tm fn.results=some [.agg (v.map (Cf σ))]/\v.all Wg=true/\(∀c∈v,nmC Hs.n c)/\FixOk lo H H' Hs σ):CallSim P g0 f args lo H (.agg v) Hs:=by unfold iz at F;cases hf:P.funcs[f]? with|none=>rw[hf] at F;cases F|some J=>rw[hf] at F;simp only at F;split at F;{cases F};{cases hb:J.body with|none=>rw[hb] at F;cases F|some c=>rw[hb] at F;simp only at F;cases I:J.results.toList.mapM (Ad P) with|none=>rw[I] at F;cases F|some b6=>cases U:bi P c with|none=>rw[I,U] at F;cases F|some ic=>rw[I,U] at F;injection F with F;subst F;intro μ w E hr ha cs;have hs:=T (bl μ w E hr ha) J c hf hb U;have ht:VRs μ (args++di (J.ntmps - args.length)) (E++Array.replicate (J.ntmps - E.size) undef).toList:=by{have hl:args.length=E.size:=by{have:=ha.length;simpa using this};rw[hl,Cn,Array.toList_replicate];exact ha.append (pX _)};obtain⟨e,b5,H1,b4,w1,t1,ay,⟨e',O,aE,he,bh,σ,hv,bt,bo,a0⟩,a1,a2,a3,a4,a5⟩:=hs μ w _ none [] hr ht rfl rfl f [] cs;injection aE with q1 q2;subst q1 q2;rw[bh] at a4;have a4:ay=[]:=a4;subst a4;have Q:Frame.enter P f E .normal=bP f none (E++Array.replicate (J.ntmps - E.size) undef) [] [.code c]:=by{simp[Frame.enter,bP,hf,hb]};have bd:∃todo,Steps P (lone (Frame.enter P f E .normal) cs w) (lone (Tz f t1 [] todo) cs w1):=by{rw[Q];cases e with|normal=>exact⟨[],Steps.trans a5 (.one (wo (.inl rfl)))⟩|jmp j=>cases j with|exit id=>exact absurd rfl (he id)|ret=>obtain⟨pre,b1,_⟩:=a5;exact⟨_,Steps.trans b1 (.one (wo (.inr ⟨_,rfl⟩)))⟩};obtain⟨todo,b3⟩:=bd;obtain⟨v',ag,Z⟩:=uM a1 a3 I hv;have Z:VR b4 (.agg (v.map (Cf σ))) v':=Z;obtain⟨m2,ad,V,bw⟩:=Z3 a6 hr a1 a2 a0;refine⟨.returned v',w1,Tz f t1 [] todo,⟨v',m2,rfl,ad,V,?_⟩,b3,rfl,rfl,rfl,rfl,J,hf,ag⟩;obtain⟨l',e',a9⟩:=Z;exact⟨l',e',nD bw bt bo a9⟩}
noncomputable def mX(P:Program)(g0:Nat)(f:FuncId)(C:List IV->Heap->Option (IV×Heap)):List IV->Nat->Heap->Option (IV×Heap):=λargs lo H=>match C args H with|some (v,H')=>if Keep lo H H'/\CallSim P g0 f args lo H v H' then some (v,H') else none|none=>none
def zT{f:FuncId}{C:List IV->Heap->Option (IV×Heap)}{args:List IV}{H H':Heap}{v:IV}(E:C args H=some (v,H'))(F:Keep lo H H')(hs:CallSim P g0 f args lo H v H'):mX P g0 f C args lo H=some (v,H'):=by simp_all[mX,if_pos]
def II{f:FuncId}{C:List IV->Heap->Option (IV×Heap)}{args:List IV}{H H':Heap}{v:IV}(h:mX P g0 f C args lo H=some (v,H')):Keep lo H H'/\∀E,E<=lo->mX P g0 f C args E H=some (v,H'):=by unfold mX at h;split at h;{rename_i Q H0 O;split at h;{rename_i F;injection h with h;injection h with I J;subst I J;exact⟨F.1,λE hl=>zT O (F.1.lower hl) (F.2.lower hl)⟩};{cases h}};{cases h}
def O7{f:FuncId}{C:List IV->Heap->Option (IV×Heap)}{args:List IV}{H H':Heap}{v:IV}(h:mX P g0 f C args lo H=some (v,H')):CallSim P g0 f args lo H v H':=by grind[mX]
end
end Go.Iso
