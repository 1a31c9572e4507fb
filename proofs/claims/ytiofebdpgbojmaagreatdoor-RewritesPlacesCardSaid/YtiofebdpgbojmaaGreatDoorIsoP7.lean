/-
  rules of runs over ranges, slices and lists.
-/
import Derived.Test.YtiofebdpgbojmaaGreatDoorIsoP6
import Derived.IntWalk
import Derived.Shelf.SlSortCmp.NoneTotal
set_option linter.unusedSimpArgs false
set_option linter.unusedVariables false
set_option maxRecDepth 100000
set_option linter.defProp false
namespace Go.Iso
section
variable {E:Env}{lo:Nat}{rd:Option Nat}{fr:Fr}{H:Heap}{Q:Out->Heap->Prop}
def Pr:Option Jmp->Ex|none=>.normal|some j=>.jmp j
def Yt:Pr none=.normal:=rfl
def Ys{j:Jmp}:Pr (some j)=.jmp j:=rfl
def Up(l lo:Nat)(marks:List Nat)(fr:Fr)(Q:Out->Heap->Prop)(F:Heap)(ob:Option IObj):Prop:=match ob with|some (.loop st pend tm J q body I)=>st≠.busy/\lo<=l/\Q (.ex (Pr pend) {fr with marks:=marks++fr.marks}) (F.put l (.loop .exhausted pend tm J q body I))|_=>False
def acm(l lo:Nat)(marks:List Nat)(fr:Fr)(Q:Out->Heap->Prop):Out->Heap->Prop:=λo q=>match o with|.val _=>Up l lo marks fr Q q (q.get l)|_=>False
def aho(E:Env)(lo:Nat)(F:List Nat)(q body:IC)(fr:Fr)(Q:Out->Heap->Prop)(g:IV)(e:Nat×List Nat×Heap):Prop:=W E lo (.apply g [.yield e.2.2.n]) (e.2.2.new (.loop .ready none fr.tm F q body e.1)) (acm e.2.2.n lo e.2.1 fr Q)
def acl{l:Nat}{marks:List Nat}{v:IV}:acm l lo marks fr Q (.val v) H=Up l lo marks fr Q H (H.get l):=rfl
def ack{l:Nat}{marks:List Nat}{st:LoopState}{pend:Option Jmp}{tm:List IV}{I:List Nat}{q body:IC}{F:Nat}:Up l lo marks fr Q H (some (.loop st pend tm I q body F))=(st≠.busy/\lo<=l/\Q (.ex (Pr pend) {fr with marks:=marks++fr.marks}) (H.put l (.loop .exhausted pend tm I q body F))):=rfl
def adl{f:IA}{ps:List Nat}{I body:IC}{g:IV}{e:Nat×List Nat×Heap}(hg:f.eval E.g0 fr.tm=some g)(he:kE rd H=some e):W E lo (.code (.rfn f ps I body) rd fr) H Q=aho E lo ps I body fr Q g e:=by obtain⟨df,marks,H1⟩:=e;refine propext ⟨?_,?_⟩;{rintro⟨n,o,H',h,hq⟩;cases n with|zero=>cases h|succ n=>rw[run] at h;simp only[hg,he] at h;cases V:run E n (.apply g [.yield H1.n]) lo (H1.new (.loop .ready none fr.tm ps I body df)) with|none=>rw[V] at h;cases h|some p=>rw[V] at h;obtain⟨o1,K⟩:=p;refine⟨n,o1,K,V,?_⟩;cases o1 with|ex e fr=>cases h|val v=>simp only at h;show Up _ _ _ _ _ _ _;cases T:K.get H1.n with|none=>rw[T] at h;cases h|some ob=>rw[T] at h;cases ob with|loop st pend tm U F q O=>(simp only at h;split at h;{cases h};{rename_i hn;refine⟨λe=>hn (.inl e),Nat.le_of_not_lt λe=>hn (.inr e),?_⟩;cases pend with|none=>injection h with h;injection h with Y Z;subst Y Z;exact hq|some j=>injection h with h;injection h with Y Z;subst Y Z;exact hq})|_=>cases h};{intro h;refine afi hg he (h.mono λo K h=>?_);cases o with|ex e fr=>exact h.elim|val v=>have J:Up H1.n lo marks fr Q K (K.get H1.n):=h;cases T:K.get H1.n with|none=>rw[T] at J;exact J.elim|some ob=>rw[T] at J;cases ob with|loop st pend tm U F q O=>exact⟨v,st,pend,tm,U,F,q,O,rfl,rfl,J.1,J.2.1,by cases pend<;>exact J.2.2⟩|_=>exact J.elim}
def adm{f:IA}{I:List Nat}{q body:IC}:W E lo (.code (.rfn f I q body) none fr) H Q=ji (f.eval E.g0 fr.tm) λg=>W E lo (.apply g [.yield (H.n+1)]) ((H.new .deferred).new (.loop .ready none fr.tm I q body H.n)) (acm (H.n+1) lo [H.n] fr Q):=by cases F:f.eval E.g0 fr.tm with|none=>(refine propext ⟨?_,λh=>h.elim⟩;rintro⟨n,o,H',h,J⟩;cases n with|zero=>cases h|succ n=>rw[run] at h;simp only[F] at h;cases h)|some g=>exact adl F (e:=(H.n,[H.n],H.new .deferred)) rfl
def Fc(l:Nat)(Q:Out->Heap->Prop)(e:Ex)(H:Heap)(ob:Option IObj):Prop:=match ob with|some (.loop _ _ tm I q body F)=>(match e with|.normal=>Q (.val (.bool true)) (H.put l (.loop .ready none tm I q body F))|.jmp j=>Q (.val (.bool false)) (H.put l (.loop .done (some j) tm I q body F)))|_=>False
def Tp(l:Nat)(Q:Out->Heap->Prop):Out->Heap->Prop:=λo H=>match o with|.ex e _=>Fc l Q e H (H.get l)|_=>False
def CU(E:Env)(lo l:Nat)(body:IC)(Q:Out->Heap->Prop)(fr:Fr)(H:Heap)(ob:Option IObj):Prop:=match ob with|some (.loop .ready pend tm J F q I)=>W E lo (.code body (some l) fr) (H.put l (.loop .busy pend tm J F q I)) (Tp l Q)|_=>False
def NA(E:Env)(lo l:Nat)(body:IC)(Q:Out->Heap->Prop):Out->Heap->Prop:=λo H=>match o with|.ex .normal fr=>CU E lo l body Q fr H (H.get l)|_=>False
def SB(E:Env)(lo l:Nat)(args:List IV)(Q:Out->Heap->Prop)(H:Heap)(ob:Option IObj):Prop:=match ob with|some (.loop _ _ tm F q body _)=>args.length=F.length/\lo<=l/\W E lo (.code q (some l) ⟨gu tm F args,[]⟩) H (NA E lo l body Q)|_=>False
def XL{l:Nat}{e:Ex}:Tp l Q (.ex e fr) H=Fc l Q e H (H.get l):=rfl
def XJ{l:Nat}{st:LoopState}{pend:Option Jmp}{tm:List IV}{I:List Nat}{q body:IC}{F:Nat}:Fc l Q .normal H (some (.loop st pend tm I q body F))=Q (.val (.bool true)) (H.put l (.loop .ready none tm I q body F)):=rfl
def XK{l:Nat}{j:Jmp}{st:LoopState}{pend:Option Jmp}{tm:List IV}{I:List Nat}{q body:IC}{F:Nat}:Fc l Q (.jmp j) H (some (.loop st pend tm I q body F))=Q (.val (.bool false)) (H.put l (.loop .done (some j) tm I q body F)):=rfl
def Uv{l:Nat}{body:IC}:NA E lo l body Q (.ex .normal fr) H=CU E lo l body Q fr H (H.get l):=rfl
def Uu{l:Nat}{body q:IC}{pend:Option Jmp}{tm:List IV}{J:List Nat}{F:IC}{I:Nat}:CU E lo l body Q fr H (some (.loop .ready pend tm J F q I))=W E lo (.code body (some l) fr) (H.put l (.loop .busy pend tm J F q I)) (Tp l Q):=rfl
def SA{l:Nat}{args:List IV}{st:LoopState}{pend:Option Jmp}{tm:List IV}{F:List Nat}{q body:IC}{I:Nat}:SB E lo l args Q H (some (.loop st pend tm F q body I))=(args.length=F.length/\lo<=l/\W E lo (.code q (some l) ⟨gu tm F args,[]⟩) H (NA E lo l body Q)):=rfl
def Md{l:Nat}{args:List IV}:W E lo (.apply (.yield l) args) H Q=SB E lo l args Q H (H.get l):=by refine propext ⟨?_,?_⟩;{rintro⟨n,o,H',h,hq⟩;cases n with|zero=>cases h|succ n=>rw[run] at h;(try simp only at h);cases hg:H.get l with|none=>rw[hg] at h;cases h|some ob=>rw[hg] at h;cases ob with|loop st pend tm ps ad body df=>simp only at h;split at h;{rename_i hl;refine⟨hl.1,hl.2,?_⟩;cases h1:run E n (.code ad (some l) ⟨gu tm ps args,[]⟩) lo H with|none=>rw[h1] at h;cases h|some p=>rw[h1] at h;obtain⟨o1,H1⟩:=p;refine⟨n,o1,H1,h1,?_⟩;cases o1 with|val v=>cases h|ex e fr=>cases e with|jmp j=>cases h|normal=>simp only at h;show CU _ _ _ _ _ _ _ _;simp only[lr] at h;cases hb:H1.get l with|none=>rw[hb] at h;cases h|some T=>rw[hb] at h;cases T with|loop Y I a1 a0 J F aE=>(cases Y with|ready=>(simp only at h;cases h2:run E n (.code body (some l) fr) lo (H1.put l (.loop .busy I a1 a0 J F aE)) with|none=>rw[h2] at h;cases h|some p=>rw[h2] at h;obtain⟨o3,Z⟩:=p;refine⟨n,o3,Z,h2,?_⟩;cases o3 with|val v=>cases h|ex e fr3=>simp only[E3] at h;show Fc _ _ _ _ _;cases O:Z.get l with|none=>rw[O] at h;cases h|some U=>rw[O] at h;cases U with|loop a4 V M7 a3 ag K a2=>(cases e with|normal=>injection h with h;injection h with h3 h4;subst h3 h4;exact hq|jmp j=>injection h with h;injection h with h3 h4;subst h3 h4;exact hq)|_=>cases h)|_=>cases h)|_=>cases h};{cases h}|_=>cases h};{intro h;cases hg:H.get l with|none=>rw[hg] at h;exact h.elim|some ob=>rw[hg] at h;cases ob with|loop st pend tm ps ad body df=>(obtain⟨h1,h2,h3⟩:=h;refine Zp hg h1 h2 (h3.mono λo H1 h=>?_);cases o with|val v=>exact h.elim|ex e fr=>cases e with|jmp j=>exact h.elim|normal=>have h':CU E lo l body Q fr H1 (H1.get l):=h;cases hb:H1.get l with|none=>rw[hb] at h';exact h'.elim|some T=>rw[hb] at h';cases T with|loop Y I a1 a0 J F aE=>(cases Y with|ready=>(refine⟨fr,_,rfl,by simp only[lr,hb],W.mono h' λo Z h=>?_⟩;cases o with|val v=>exact h.elim|ex e fr3=>have q:Fc l Q e Z (Z.get l):=h;cases O:Z.get l with|none=>rw[O] at q;exact q.elim|some U=>rw[O] at q;cases U with|loop a4 V M7 a3 ag K a2=>(cases e with|normal=>exact⟨_,_,(_,_),rfl,by simp only[E3,O];rfl,q⟩|jmp j=>exact⟨_,_,(_,_),rfl,by simp only[E3,O];rfl,q⟩)|_=>exact q.elim)|_=>exact h'.elim)|_=>exact h'.elim)|_=>exact h.elim}
def aez(I:Nat->Fr->Heap->Prop)(k:Nat)(Q:Out->Heap->Prop):Out->Heap->Prop:=λo H=>match o with|.ex .normal fr=>∃q,q<k/\I q fr H|o=>Q o H
def aG{c:IC}(I:Nat->Fr->Heap->Prop)(h:∀k fr H,I k fr H->∀L:Out->Heap->Prop,(∀q fr H,q<k->I q fr H->L (.ex .normal fr) H)->(∀j fr H,L (.ex (.jmp j) fr) H=Q (.ex (.jmp j) fr) H)->W E lo (.code c rd fr) H L):∀(k:Nat){fr:Fr}{H:Heap},I k fr H->W E lo (.code (.loop c) rd fr) H Q:=by intro k;induction k using Nat.strongRecOn with|ind k V=>intro fr H hi;rw[qV];refine(h k fr H hi (aez I k Q) (λq fr H O T=>⟨q,O,T⟩) (λj fr H=>rfl)).mono λo H' F=>?_;cases o with|val v=>exact F|ex e K=>cases e with|jmp j=>exact F|normal=>obtain⟨q,U,J⟩:=F;exact V q U J
end
def akp{a b:Nat}(h:b<a):(a=b)=False:=by simp;omega
def ako{a b:Nat}(h:a<b):(a=b)=False:=by simp;omega
def cLe{a b:Nat}(h:a<=b):(a<=b)=True:=by simp[h]
def akn{a b:Nat}(h:b<a):(a<=b)=False:=by simp;omega
def cLt{a b:Nat}(h:a<b):(a<b)=True:=by simp[h]
def akm{a b:Nat}(h:b<=a):(a<b)=False:=by simp;omega
def iLe{a b:Int}(h:a<=b):(a<=b)=True:=by simp[h]
def ajT{a b:Int}(h:b<a):(a<=b)=False:=by simp;omega
def iLt{a b:Int}(h:a<b):(a<b)=True:=by simp[h]
def ajS{a b:Int}(h:b<=a):(a<b)=False:=by simp;omega
def iGe{a b:Int}(h:a>=b):(a>=b)=True:=by simp;omega
def ajV{a b:Int}(h:a<b):(a>=b)=False:=by simp;omega
def iGt{a b:Int}(h:a>b):(a>b)=True:=by simp;omega
def ajU{a b:Int}(h:a<=b):(a>b)=False:=by simp;omega
def ajX{a b:Int}(h:a=b):(a==b)=true:=by simp[h]
def aeN{a b:Int}(h:a<b\/b<a):(a==b)=false:=by simp;omega
def ajW{a b:Int}(h:a<b\/b<a):(a !=b)=true:=by simp;omega
def aeM{a b:Int}(h:a=b):(a !=b)=false:=by simp[h]
def ahe{a:Int}(h: -9223372036854775808<=a/\a<=9223372036854775807):IntKind.i64.wrap a=a:=IntWalk.i64_in a Om
def wU8{a:Int}(h:0<=a/\a<=255):IntKind.u8.wrap a=a:=IntWalk.u8_in a h
def ON{l:List IV}:(IV.agg l).cells=l:=rfl
def OM{k:IntKind}{n:Int}:(IV.int k n).cells=[.int k n]:=rfl
def LY{b:Bool}:(IV.bool b).cells=[.bool b]:=rfl
def OJ{s:List UInt8}:(IV.str s).cells=[.str s]:=rfl
def OK{b o:Nat}:(IV.ptr b o).cells=[.ptr b o]:=rfl
def E6:IV.nilPtr.cells=[.nilPtr]:=rfl
def JB{b o n c:Nat}{ex:Bool}:(IV.slice b o n c ex).cells=[.slice b o n c ex]:=rfl
def AU:IV.nilSlice.cells=[.nilSlice]:=rfl
def OL{b:Nat}:(IV.map b).cells=[.map b]:=rfl
def E7:IV.nilMap.cells=[.nilMap]:=rfl
def Sc{f:FuncId}{a b:List IV}:(IV.fn f a b).cells=[.fn f a b]:=rfl
def JA{b:Nat}:(IV.yield b).cells=[.yield b]:=rfl
def Es:IV.nilFunc.cells=[.nilFunc]:=rfl
def JC{t:TypeId}{v:IV}:(IV.iface t v).cells=[.iface t v]:=rfl
def AV:IV.nilIface.cells=[.nilIface]:=rfl
def xt{k:IntKind}{n:Int}:(IV.int k n).one=true:=rfl
def uD{b:Bool}:(IV.bool b).one=true:=rfl
def UO{s:List UInt8}:(IV.str s).one=true:=rfl
def UP{b o:Nat}:(IV.ptr b o).one=true:=rfl
def KD:IV.nilPtr.one=true:=rfl
def NT{b o n c:Nat}{ex:Bool}:(IV.slice b o n c ex).one=true:=rfl
def ET:IV.nilSlice.one=true:=rfl
def UQ{b:Nat}:(IV.map b).one=true:=rfl
def KE:IV.nilMap.one=true:=rfl
def Yx{f:FuncId}{a b:List IV}:(IV.fn f a b).one=true:=rfl
def NS{b:Nat}:(IV.yield b).one=true:=rfl
def IP:IV.nilFunc.one=true:=rfl
def NU{t:TypeId}{v:IV}:(IV.iface t v).one=true:=rfl
def EU:IV.nilIface.one=true:=rfl
def Uy(ob:IObj)(o n:Nat):Option (List IV):=match ob with|.cells _ _ _ cs=>if o+n<=cs.length then some ((cs.drop o).take n) else none|_=>none
def Yo{q:Bool}{e ez:Nat}{cs:List IV}{o n:Nat}:Uy (.cells q e ez cs) o n=if o+n<=cs.length then some ((cs.drop o).take n) else none:=rfl
def Ux{H:Heap}{ob:IObj}{b o n:Nat}:(H.new ob).read b o n=if H.n=b then Uy ob o n else H.read b o n:=by unfold Heap.read;rw[ak];by_cases h:H.n=b;{simp only[h,if_true];cases ob<;>rfl};{simp[h]}
def Uw{H:Heap}{ob:IObj}{b' b o n:Nat}:(H.put b' ob).read b o n=if b'=b then Uy ob o n else H.read b o n:=by unfold Heap.read;rw[aa];by_cases h:b'=b;{simp only[h,if_true];cases ob<;>rfl};{simp[h]}
def ae{H:Heap}{q:Bool}{e ez:Nat}{cs:List IV}{b:Nat}(h:H.get b=some (.cells q e ez cs))(o n:Nat):H.read b o n=if o+n<=cs.length then some ((cs.drop o).take n) else none:=by unfold Heap.read;rw[h]
def Ik{H H':Heap}{b:Nat}(h:H'.get b=H.get b)(o n:Nat):H'.read b o n=H.read b o n:=by unfold Heap.read;rw[h]
def Keep.read{lo:Nat}{H H':Heap}(k:Keep lo H H')(b o n:Nat)(q:b<lo)(E:b<H.n):H'.read b o n=H.read b o n:=Ik (k.2 b q E) o n
inductive SV where
 | nil
 | sl (b o n c:Nat) (ex:Bool)
 deriving Inhabited
def SV.iv:SV->IV|.nil=>.nilSlice|.sl b o n c ex=>.slice b o n c ex
def SV.blk:SV->Nat|.nil=>0|.sl b _ _ _ _=>b
def SV.off:SV->Nat|.nil=>0|.sl _ o _ _ _=>o
def SV.tight:SV->Prop|.nil=>True|.sl _ _ n c ex=>c=n/\ex=true
def ly(v:SV):v.iv.one=true:=by cases v<;>rfl
def Mj(v:SV):v.iv.cells=[v.iv]:=by cases v<;>rfl
def GQ:SV.nil.iv=.nilSlice:=rfl
def qg{b o n c:Nat}{ex:Bool}:(SV.sl b o n c ex).iv=.slice b o n c ex:=rfl
class Cell (α:Type) where
 z:Nat
 cs:α→List IV
 len:∀a,(cs a).length=z
 one:∀a,(cs a).all IV.one=true
 pos:0 < z
instance:Cell SV where
 z:=1
 cs v:=[v.iv]
 len _:=rfl
 one v:=by simp[ly]
 pos:=by omega
theorem iC(v:SV):Cell.cs v=[v.iv]:=rfl
def dC:Cell.z SV=1:=rfl
def mR{b o n c:Nat}{ex:Bool}:(SV.sl b o n c ex).blk=b:=rfl
def zR{b o n c:Nat}{ex:Bool}:(SV.sl b o n c ex).off=o:=rfl
section
variable {α:Type}[Cell α]
def az(l:List α):List IV:=l.flatMap Cell.cs
theorem bC(a:α)(l:List α):az (a::l)=Cell.cs a++az l:=rfl
theorem gH(a b:List α):az (a++b)=az a++az b:=by simp[az]
def Le(a:α):az [a]=Cell.cs a:=by simp[az]
def ay(l:List α):(az l).length=l.length*Cell.z α:=by induction l with|nil=>simp[az]|cons p l q=>rw[bC,bE,q,Cell.len,dh,gv];omega
def iB(l:List α):(az l).all IV.one=true:=by induction l with|nil=>rfl|cons p l q=>rw[bC,List.all_append,q,Cell.one];rfl
theorem uI(l:List α)(k:Nat):(az l).drop (k*Cell.z α)=az (l.drop k):=by induction l generalizing k with|nil=>simp[az]|cons p l q=>cases k with|zero=>simp|succ k=>rw[bC,List.drop_succ_cons,gv,Nat.add_comm,<-Cell.len p,List.drop_length_add_append,Cell.len,q]
theorem Gu(l:List α)(k:Nat):(az l).take (k*Cell.z α)=az (l.take k):=by induction l generalizing k with|nil=>simp[az]|cons p l q=>cases k with|zero=>simp[az]|succ k=>rw[bC,List.take_succ_cons,bC,gv,Nat.add_comm,<-Cell.len p,List.take_length_add_append,Cell.len,q]
def Y2(l:List α)(i:Nat)(h:i<l.length):((az l).drop (i*Cell.z α)).take (Cell.z α)=Cell.cs l[i]:=by grind[uI,List.drop_eq_getElem_cons,bC,Cell.len,List.take_left]
def eK{H:Heap}{b o n a m:Nat}{cs:List IV}(h:H.read b o n=some cs)(F:a+m<=n):H.read b (o+a) m=some ((cs.drop a).take m):=by unfold Heap.read at h⊢;cases q:H.get b with|none=>rw[q] at h;cases h|some ob=>rw[q] at h;cases ob with|cells I e ez E=>simp only at h⊢;split at h;{injection h with h;rw[iP,<-h,List.drop_take,List.take_take,vg,show min m (n - a)=m from by omega]};{cases h}|_=>cases h
def Sl(H:Heap)(v:SV)(l:List α):Prop:=match v with|.nil=>l=[]|.sl b o n c _=>n=l.length/\n<=c/\(l≠[]->b<H.n/\H.read b o (l.length*Cell.z α)=some (az l))
def Sl.keep{H H':Heap}{v:SV}{l:List α}(h:Sl H v l)(k:Keep H.n H H'):Sl H' v l:=by cases v with|nil=>exact h|sl b o n c ex=>exact⟨h.1,h.2.1,λq=>⟨bU (h.2.2 q).1 k.1,(k.read b o _ (h.2.2 q).1 (h.2.2 q).1).trans (h.2.2 q).2⟩⟩
def Sl.same{H H':Heap}{v:SV}{l:List α}(h:Sl H v l)(hn:H.n<=H'.n)(E:l≠[]->H'.get v.blk=H.get v.blk):Sl H' v l:=by cases v with|nil=>exact h|sl b o n c ex=>exact⟨h.1,h.2.1,λq=>⟨bU (h.2.2 q).1 hn,(Ik (E q) o _).trans (h.2.2 q).2⟩⟩
def Sl.blk_lt{H:Heap}{v:SV}{l:List α}(h:Sl H v l)(q:l≠[]):v.blk<H.n:=by cases v with|nil=>exact absurd h q|sl b o n c ex=>exact(h.2.2 q).1
def Sl.blk_lt'{H:Heap}{v:SV}{l:List α}(h:Sl H v l){i:Nat}(q:i<l.length):v.blk<H.n:=h.blk_lt (by grind)
def Sl.empty{H:Heap}:Sl H .nil ([]:List α):=rfl
def Sl.ln{H:Heap}{v:SV}{l:List α}(h:Sl H v l)(lo:Nat)(H':Heap):ev1 .lenSl [v.iv] lo H'=some (.int .i64 l.length,H'):=by cases v with|nil=>have h:l=[]:=h;subst h;rfl|sl b o n c ex=>rw[<-h.1];rfl
def Sl.lenI{H:Heap}{v:SV}{l:List α}(h:Sl H v l):pu v.iv=some l.length:=by cases v with|nil=>have h:l=[]:=h;subst h;rfl|sl b o n c ex=>rw[<-h.1];rfl
def Sl.srcI{H:Heap}{v:SV}{l:List α}(h:Sl H v l){z:Nat}(E:Cell.z α=z):jd H z l.length v.iv=some (az l):=by subst E;cases v with|nil=>have h:l=[]:=h;subst h;rfl|sl b o n c ex=>show(if l.length=0 then some [] else H.read b o (l.length*Cell.z α))=_;by_cases q:l=[];{subst q;rfl};{rw[if_neg (by grind)];exact(h.2.2 q).2}
def Sl.idx{H:Heap}{v:SV}{l:List α}(h:Sl H v l)(z:Nat)(x:Int)(lo:Nat)(H':Heap)(h0:0<=x)(q:x<l.length):ev1 (.idxSl z) [v.iv,.int .i64 x] lo H'=some (.ptr v.blk (v.off+x.toNat*z),H'):=by cases v with|nil=>have h:l=[]:=h;subst h;simp at q;omega|sl b o n c ex=>have hn:=h.1;simp only[ev1,SV.iv,SV.blk,SV.off];rw[if_pos ⟨h0,Om⟩]
def Sl.read{H:Heap}{v:SV}{l:List α}(h:Sl H v l){z:Nat}(E:Cell.z α=z)(i:Nat)(hi:i<l.length):H.read v.blk (v.off+i*z) z=some (Cell.cs l[i]):=by subst E;have q:l≠[]:=by{grind};cases v with|nil=>exact absurd h q|sl b o n c ex=>have:=eK (a:=i*Cell.z α) (m:=Cell.z α) (h.2.2 q).2 (by rw[<-gv];exact pR _ hi);rw[Y2 l i hi] at this;exact this
def Sl.part{H:Heap}{b o n c:Nat}{ex:Bool}{l:List α}(h:Sl H (.sl b o n c ex) l){z:Nat}(J:Cell.z α=z){a m c':Nat}{ex':Bool}(hm:a+m<=l.length)(I:m<=c'):Sl H (.sl b (o+a*z) m c' ex') ((l.drop a).take m):=by subst J;have E:((l.drop a).take m).length=m:=by{rw[gM,nF];omega};refine⟨E.symm,I,λF=>?_⟩;have q:l≠[]:=by{intro e;rw[e] at F;simp at F};refine⟨(h.2.2 q).1,?_⟩;have:=eK (a:=a*Cell.z α) (m:=m*Cell.z α) (h.2.2 q).2 (by rw[<-so];exact pR _ hm);grind[uI,Gu]
def CO(n:Nat)(a:α):oo n (Cell.cs a)=az (List.replicate n a):=by induction n with|zero=>rfl|succ n q=>rw[oo,q,IE,bC]
def Ld(l:List α)(i:Nat)(a:α)(h:i<l.length):aB (az l) (i*Cell.z α) (Cell.cs a)=az (l.set i a):=by have q:i*Cell.z α+Cell.z α<=(az l).length:=by{rw[ay,<-gv];exact pR _ h};rw[dm _ _ _ (by rw[Cell.len];exact q),Gu,Cell.len,<-gv,uI,List.set_eq_take_append_cons_drop,if_pos h];rw[gH,bC,cy]
def bN(tm:List IV)(n:Nat)(h:tm.length=n):tm=(List.range n).map λi=>tm.getD i UN:=by subst h;apply kR<;>grind
def Own(H:Heap)(b e cap:Nat)(l:List α):Prop:=l.length<=cap/\b<H.n/\∃r,H.get b=some (.cells false e (Cell.z α) (az l++r))/\r.length=(cap - l.length)*Cell.z α
def Own.sl{H:Heap}{b e cap:Nat}{l:List α}(h:Own H b e cap l)(ex:Bool):Sl H (.sl b 0 l.length cap ex) l:=by obtain⟨q,E,r,F,I⟩:=h;refine⟨rfl,q,λ_=>⟨E,?_⟩⟩;rw[ae F,aX,if_pos (by rw[bE,ay];omega),vF,<-ay,List.take_left]
def Own.same{H H':Heap}{b e cap:Nat}{l:List α}(h:Own H b e cap l)(hn:H.n<=H'.n)(J:H'.get b=H.get b):Own H' b e cap l:=by obtain⟨q,E,r,F,I⟩:=h;exact⟨q,bU E hn,r,J.trans F,I⟩
def Own.keep{H H':Heap}{b e cap:Nat}{l:List α}(h:Own H b e cap l)(k:Keep H.n H H'):Own H' b e cap l:=h.same k.1 (k.2 b h.2.1 h.2.1)
def Own.full{H:Heap}{b e:Nat}{l:List α}(h:Own H b e l.length l):H.get b=some (.cells false e (Cell.z α) (az l)):=by obtain⟨q,E,r,F,I⟩:=h;grind
def bM{H:Heap}{b e:Nat}{l:List α}(q:b<H.n){z:Nat}(I:Cell.z α=z){cs:List IV}(F:H.get b=some (.cells false e z cs))(E:cs=az l):Own H b e l.length l:=by subst I E;exact⟨ao _,q,[],by rw[F,iy],by simp⟩
def Own.mksl{H:Heap}{e n:Nat}{z:Nat}(q:Cell.z α=z)(a:α):Own (H.new (.cells false e z (oo n (Cell.cs a)))) H.n e n (List.replicate n a):=by subst q;refine⟨by simp,by rw[ac];omega,[],by rw[ak,if_pos rfl,iy,CO],by simp⟩
def uR{H:Heap}{e n:Nat}{z:Nat}(E:Cell.z α=z){cs:List IV}(q:cs.length=n*z):Own (H.new (.cells false e z cs)) H.n e n ([]:List α):=by subst E;exact⟨by simp,by rw[ac];omega,cs,by rw[ak,if_pos rfl];rfl,by simp[q]⟩
def Own.set{H:Heap}{b e cap:Nat}{l:List α}(h:Own H b e cap l){z:Nat}(O:Cell.z α=z)(i:Nat)(hi:i<l.length)(a:α)(lo:Nat)(q:lo<=b):∃cs,H.write lo b (i*z) (Cell.cs a)=some (H.put b (.cells false e z cs))/\Own (H.put b (.cells false e z cs)) b e cap (l.set i a):=by subst O;obtain⟨E,F,r,I,J⟩:=h;have K:=ay l;have Q:i*Cell.z α+Cell.z α<=l.length*Cell.z α:=by{rw[<-gv];exact pR _ hi};refine⟨aB (az l++r) (i*Cell.z α) (Cell.cs a),?_,?_⟩;{unfold Heap.write;rw[I];simp only;rw[if_pos ⟨q,by rw[Cell.len,bE];omega,Cell.one a⟩]};{refine⟨by simp[E],F,r,?_,by simp[J]⟩;rw[aa,if_pos rfl,<-Ld l i a hi,dm _ _ _ (by rw[Cell.len,bE];omega),dm _ _ _ (by rw[Cell.len];omega),Cell.len];grind}
def Own.push{H:Heap}{b e cap:Nat}{l m:List α}(h:Own H b e cap l){z:Nat}(K:Cell.z α=z)(T:l.length+m.length<=cap)(lo:Nat)(J:lo<=b):∃cs,H.write lo b (l.length*z) (az m)=some (H.put b (.cells false e z cs))/\Own (H.put b (.cells false e z cs)) b e cap (l++m):=by subst K;obtain⟨O,I,r,Q,F⟩:=h;have E:=ay l;have q:=ay m;have U:(az m).length<=r.length:=by{rw[q,F];exact pR _ Om};refine⟨aB (az l++r) (l.length*Cell.z α) (az m),?_,?_⟩;{simp_all[Heap.write,if_pos,bE,iB]};{refine⟨by simp;omega,I,r.drop (az m).length,?_,?_⟩;{rw[aa,if_pos rfl,dm _ _ _ (by grind),gH,<-E,List.take_left,List.drop_length_add_append]};{rw[nF,F,q,bE,<-Nat.sub_mul];congr 1;omega}}
end
section
variable {α:Type}[Cell α]
def Sl.cap{H:Heap}{v:SV}{l:List α}(h:Sl H v l)(q:v.tight)(lo:Nat)(H':Heap):ev1 .cap [v.iv] lo H'=some (.int .i64 l.length,H'):=by cases v with|nil=>have h:l=[]:=h;subst h;rfl|sl b o n c ex=>obtain⟨rfl,rfl⟩:=q;rw[<-h.1];rfl
theorem Keep.newPut{H:Heap}{o o':IObj}:Keep H.n H ((H.new o).put H.n o'):=(Keep.new _ _).trans (.put _ _ (ao _))
def eR{H:Heap}{v:SV}{l:List α}(F:Sl H v l){z:Nat}(Q:Cell.z α=z)(e lo:Nat)(zs:List IV)(J:zs.length=z)(E:lo<=H.n):∃q,ev1 (.copy z) [.slice H.n 0 l.length l.length true,v.iv] lo (H.new (.cells false e z (oo l.length zs)))=some (.int .i64 l.length,q)/\q.n=H.n+1/\Keep H.n H q/\Own q H.n e l.length l:=by subst Q;have I:=F.keep (H':=H.new (.cells false e (Cell.z α) (oo l.length zs))) (Keep.new _ _);have K:qL (.slice H.n 0 l.length l.length true)=some l.length:=rfl;by_cases h0:l=[];{subst h0;refine⟨H.new (.cells false e (Cell.z α) []),?_,ac _ _,Keep.new _ _,bM (l:=[]) (cs:=[]) (by rw[ac];omega) rfl (by rw[ak,if_pos rfl]) rfl⟩;simp only[ev1,K,F.lenI];rfl};{have O:0<l.length:=List.length_pos_iff.2 h0;refine⟨(H.new (.cells false e (Cell.z α) (oo l.length zs))).put H.n (.cells false e (Cell.z α) (az l)),?_,by rw[af,ac],Keep.newPut,bM (by rw[af,ac];omega) rfl (by rw[aa,if_pos rfl]) rfl⟩;simp only[ev1,K,F.lenI];rw[Nat.min_self,iN,I.srcI rfl];simp only[bA,Heap.write];rw[ak,if_pos rfl];simp only;have T:(oo l.length zs).length=(az l).length:=by{rw[dD,J,ay]};rw[if_pos ⟨E,Om,iB l⟩,dm _ _ _ Om];grind}
def Own.put{H:Heap}{b e:Nat}{l:List α}(h:Own H b e l.length l){z:Nat}(q:Cell.z α=z)(i:Nat)(hi:i<l.length)(a:α):Own (H.put b (.cells false e z (aB (az l) (i*z) (Cell.cs a)))) b e l.length (l.set i a):=by subst q;rw[Ld l i a hi];have:=bM (H:=H.put b (.cells false e (Cell.z α) (az (l.set i a)))) (l:=l.set i a) (b:=b) (e:=e) h.2.1 rfl (by rw[aa,if_pos rfl]) rfl;grind
def Wd{H:Heap}{b e n:Nat}{ex:Bool}{d l:List α}{v:SV}(E:Own H b e n d)(hd:d.length=n)(F:Sl H v l){z:Nat}(Z:Cell.z α=z)(lo:Nat)(U:l.length<=n)(Y:lo<=b):∃q,ev1 (.copy z) [.slice b 0 n n ex,v.iv] lo H=some (.int .i64 l.length,q)/\q.n=H.n/\(∀x,x≠b->q.get x=H.get x)/\Own q b e n (l++d.drop l.length):=by subst Z hd;have I:qL (.slice b 0 d.length d.length ex)=some d.length:=rfl;have O:=E.full;by_cases h0:l=[];{subst h0;refine⟨H,?_,rfl,λ_ _=>rfl,by simpa using E⟩;simp only[ev1,I,F.lenI];rw[if_pos (by simp)];rfl};{have K:0<l.length:=List.length_pos_iff.2 h0;have T:=ay l;have Q:=ay d;have V:(az l).length<=(az d).length:=by{simp_all[pR]};refine⟨H.put b (.cells false e (Cell.z α) (az (l++d.drop l.length))),?_,af _ _ _,λx hx=>by rw[aa,if_neg (Ne.symm hx)],?_⟩;{simp only[ev1,I,F.lenI];rw[Ag U,iN,F.srcI rfl];simp only[bA,Heap.write,O];simp_all[if_pos,iB,dm,Af,kQ,aX,uI,gH]};{have J:(l++d.drop l.length).length=d.length:=by{rw[bE,nF];omega};have:=bM (H:=H.put b (.cells false e (Cell.z α) (az (l++d.drop l.length)))) (l:=l++d.drop l.length) (b:=b) (e:=e) E.2.1 rfl (by rw[aa,if_pos rfl]) rfl;grind}}
def gI{H:Heap}{b e cap:Nat}{ex:Bool}{l m:List α}{v:SV}(K:Own H b e cap l)(I:Sl H v m){z:Nat}(J:Cell.z α=z)(bytes lo:Nat)(Q:l.length+m.length<=cap)(E:lo<=b):∃q,ev1 (.append e z bytes) [.slice b 0 l.length cap ex,v.iv] lo H=some (.slice b 0 (l.length+m.length) cap ex,q)/\q.n=H.n/\(∀b',b'≠b->q.get b'=H.get b')/\Own q b e cap (l++m):=by simp only[ev1,I.lenI,I.srcI J,bA,cx];rw[if_neg (by rw[iB];decide)];by_cases h0:m=[];{grind};{have F:0<m.length:=List.length_pos_iff.2 h0;obtain⟨cs,T,O⟩:=K.push J Q lo E;simp_all[af,aa,if_neg,Ne.symm,if_pos,aX]}
def lU{H:Heap}{b e n:Nat}{l m:List α}{v:SV}(T:Own H b e n l)(hn:n=l.length)(J:Sl H v m){z:Nat}(U:Cell.z α=z)(bytes lo:Nat)(hm:m≠[])(O:(l.length+m.length)*(bytes+1)<=2^40)(F:lo<=b):∃q,ev1 (.append e z bytes) [.slice b 0 l.length n false,v.iv] lo H=some (.slice H.n 0 (l.length+m.length) (l.length+m.length) false,q)/\q.n=H.n+1/\(∀b',b'≠b->b'<H.n->q.get b'=H.get b')/\Own q H.n e (l.length+m.length) (l++m):=by subst hn U;have I:0<m.length:=List.length_pos_iff.2 hm;have Q:=T.full;simp only[ev1,J.lenI,J.srcI rfl,bA,cx];rw[if_neg (by rw[iB];decide)];rw[iN,iN,if_pos O,Q];simp only[kT,if_false];have E:=ay l;rw[if_pos ⟨trivial,trivial,Cell.pos,trivial,F,Om⟩];refine⟨_,rfl,by rw[ac,af],λb' K V=>by rw[ak,if_neg (by rw[af];omega),aa,if_neg (Ne.symm K)],?_⟩;rw[<-E,zb,<-gH,<-bE];exact bM (by rw[ac,af];omega) rfl (by rw[ak,if_pos (af _ _ _)]) rfl
def qT{H:Heap}{e:Nat}{m:List α}{v:SV}(F:Sl H v m){z:Nat}(J:Cell.z α=z)(bytes lo:Nat)(hm:m≠[])(I:m.length*(bytes+1)<=2^40):∃q,ev1 (.append e z bytes) [.nilSlice,v.iv] lo H=some (.slice H.n 0 m.length m.length false,q)/\q.n=H.n+1/\Keep H.n H q/\Own q H.n e m.length m:=by subst J;have E:0<m.length:=List.length_pos_iff.2 hm;simp only[ev1,F.lenI,F.srcI rfl,bA,cx];rw[if_neg (by rw[iB];decide)];rw[iN,if_pos I];exact⟨_,rfl,ac _ _,Keep.new _ _,bM (by rw[ac];omega) rfl (by rw[ak,if_pos rfl]) rfl⟩
def lV{H:Heap}{b o n e:Nat}{l m:List α}{v:SV}(hs:Sl H (.sl b o l.length n true) l)(I:Sl H v m){z:Nat}(K:Cell.z α=z)(bytes lo:Nat)(hm:m≠[])(hn:n<l.length+m.length)(J:(l.length+m.length)*(bytes+1)<=2^40):∃E,ev1 (.append e z bytes) [.slice b o l.length n true,v.iv] lo H=some (.slice H.n 0 (l.length+m.length) (l.length+m.length) false,E)/\E.n=H.n+1/\Keep H.n H E/\Own E H.n e (l.length+m.length) (l++m):=by subst K;have F:0<m.length:=List.length_pos_iff.2 hm;have q:=hs.srcI rfl;simp only[SV.iv] at q;simp only[ev1,I.lenI,I.srcI rfl,bA,cx];rw[if_neg (by rw[iB];decide)];rw[iN,iN,if_pos J,if_pos trivial,q];refine⟨_,rfl,ac _ _,Keep.new _ _,?_⟩;rw[<-gH,<-bE];exact bM (by rw[ac];omega) rfl (by rw[ak,if_pos rfl]) rfl
end
section
variable {α:Type}[Cell α]
def Sl2(H:Heap)(v:SV)(ls:List (List α)):Prop:=∃vs:List SV,Sl H v vs/\vs.length=ls.length/\∀(i:Nat)(h:i<ls.length)(q:i<vs.length),Sl H vs[i] ls[i]
def Sl2.keep{H H':Heap}{v:SV}{ls:List (List α)}(h:Sl2 H v ls)(k:Keep H.n H H'):Sl2 H' v ls:=by obtain⟨vs,q,E,F⟩:=h;exact⟨vs,q.keep k,E,λi a b=>(F i a b).keep k⟩
def Sl2.ln{H:Heap}{v:SV}{ls:List (List α)}(h:Sl2 H v ls)(lo:Nat)(H':Heap):ev1 .lenSl [v.iv] lo H'=some (.int .i64 ls.length,H'):=by obtain⟨vs,q,E,F⟩:=h;rw[q.ln,E]
def Sl2.idx{H:Heap}{v:SV}{ls:List (List α)}(h:Sl2 H v ls)(z:Nat)(x:Int)(lo:Nat)(H':Heap)(h0:0<=x)(E:x<ls.length):ev1 (.idxSl z) [v.iv,.int .i64 x] lo H'=some (.ptr v.blk (v.off+x.toNat*z),H'):=by obtain⟨vs,g1,g2,q⟩:=h;exact g1.idx z x lo H' h0 Om
def Sl2.elem{H:Heap}{v:SV}{ls:List (List α)}(h:Sl2 H v ls)(i:Nat)(hi:i<ls.length):∃w:SV,H.read v.blk (v.off+i*1) 1=some [w.iv]/\Sl H w ls[i]/\v.blk<H.n:=by obtain⟨vs,g1,g2,q⟩:=h;exact⟨vs[i]'Om,g1.read (α:=SV) rfl i Om,q i hi Om,g1.blk_lt' (i:=i) Om⟩
def Sl2.nil{H:Heap}:Sl2 H .nil ([]:List (List α)):=⟨[],rfl,rfl,λi h=>by simp at h⟩
def Fresh(n0:Nat)(H:Heap)(e:Nat)(v:SV)(l:List α):Prop:=(v=.nil/\l=[])\/∃b,v=.sl b 0 l.length l.length true/\n0<=b/\Own H b e l.length l
def Fresh.sl{n0:Nat}{H:Heap}{e:Nat}{v:SV}{l:List α}(h:Fresh n0 H e v l):Sl H v l:=by rcases h with⟨rfl,rfl⟩|⟨b,rfl,E,q⟩;{exact Sl.empty};{exact q.sl true}
def Fresh.tight{n0:Nat}{H:Heap}{e:Nat}{v:SV}{l:List α}(h:Fresh n0 H e v l):v.tight:=by rcases h with⟨rfl,rfl⟩|⟨b,rfl,q,E⟩;{trivial};{exact⟨rfl,rfl⟩}
def Fresh.keep{n0:Nat}{H H':Heap}{e:Nat}{v:SV}{l:List α}(h:Fresh n0 H e v l)(k:Keep H.n H H'):Fresh n0 H' e v l:=by rcases h with⟨rfl,rfl⟩|⟨b,rfl,q,E⟩;{exact .inl ⟨rfl,rfl⟩};{exact .inr ⟨b,rfl,q,E.keep k⟩}
end
def Sl.cellsAt{α:Type}[Cell α]{H:Heap}{v:SV}{l:List α}(h:Sl H v l)(I:l≠[]):∃E e ez cs,H.get v.blk=some (.cells E e ez cs):=by cases v with|nil=>exact absurd h I|sl b o n c ex=>have q:=(h.2.2 I).2;unfold Heap.read at q;show ∃E e ez cs,H.get b=_;cases F:H.get b with|none=>rw[F] at q;cases q|some ob=>rw[F] at q;cases ob with|cells E e ez cs=>exact⟨_,_,_,_,rfl⟩|_=>cases q
def Sl.off{α:Type}[Cell α]{H:Heap}{v:SV}{l:List α}(h:Sl H v l)(E:l≠[]){x:Nat}{ob:IObj}(hx:H.get x=some ob)(F:∀q e ez cs,ob≠.cells q e ez cs):v.blk≠x:=by intro e;obtain⟨q,a,b,c,I⟩:=h.cellsAt E;grind
def bj{α:Type}:List (List α)->Nat|[]=>0|a::l=>if bj l=0/\a=[] then 0 else bj l+1
theorem jk{α:Type}:∀l:List (List α),bj l<=l.length|[]=>ao _|a::l=>by have:=jk l;grind[bj,List.length_cons]
def iw{α:Type}:∀(l:List (List α))(i:Nat)(h:i<l.length),bj l<=i->l[i]=[]|[],_,h,_=>by simp at h|a::l,0,h,k=>by grind[bj]|a::l,i+1,h,k=>by have:bj l<=i:=by{grind[bj]};exact iw l i (by simpa using h) this
theorem oK{α:Type}:∀(l:List (List α))(n:Nat)(h:n<l.length),bj l=n+1->l[n]≠[]|[],_,h,_=>by simp at h|a::l,n,h,k=>by unfold bj at k;split at k;{omega};{rename_i hn;cases n with|zero=>simp only[List.getElem_cons_zero];exactλe=>hn ⟨Om,e⟩|succ n=>exact oK l n (by simpa using h) Om}
def sa{α:Type}{l:List (List α)}{n:Nat}(hn:n<=l.length)(q:∀i (h:i<l.length),n<=i->l[i]=[])(E:∀m (h:m<l.length),n=m+1->l[m]≠[]):n=bj l:=by rcases C9 n (bj l) with h|h|h;{exfalso;have F:=jk l;exact oK l (bj l - 1) Om Om (q _ Om Om)};{exact h};{exfalso;exact E (n - 1) Om Om (iw l _ Om Om)}
section
variable {α:Type}
def ki(f:Nat->α)(a b n x:Nat):α:=if a<=x/\x<a+n then f (x+b - a) else if b<=x/\x<b+n then f (x+a - b) else f x
def qu(f:Nat->α)(a m b x:Nat):α:=if a<=x/\x<a+(b - m) then f (x+(m - a)) else if a+(b - m)<=x/\x<b then f (x - (b - m)) else f x
def Ng(f:Nat->α)(a b x:Nat):ki f a b 0 x=f x:=by simp_all[ki,if_neg]
def Nh{f g:Nat->α}{a b n:Nat}(q:a+n<b)(E:∀x,g x=if x=b+n then ki f a b n (a+n) else if x=a+n then ki f a b n (b+n) else ki f a b n x)(x:Nat):g x=ki f a b (n+1) x:=by rw[E];unfold ki;grind
theorem Um{f g:Nat->α}{m i j:Nat}(hi:i<=m)(J:0<j)(I:j<i)(E:∀x,g x=ki f (m - i) m j x)(x:Nat):qu g (m - (i - j)) m (m+j) x=qu f (m - i) m (m+j) x:=by unfold qu;by_cases F:m - (i - j)<=x/\x<m - (i - j)+(m+j - m);{rw[if_pos F,E];unfold ki;by_cases q:m<=x+(m - (m - (i - j)))<;>grind};{rw[if_neg F];by_cases q:m - (i - j)+(m+j - m)<=x/\x<m+j;{rw[if_pos q,E];unfold ki;grind};{rw[if_neg q,E];unfold ki;grind}}
theorem QZ{f g:Nat->α}{m i j:Nat}(hi:i<=m)(I:0<i)(J:i<j)(q:∀x,g x=ki f (m - i) (m+j - i) i x)(x:Nat):qu g (m - i) m (m+(j - i)) x=qu f (m - i) m (m+j) x:=by unfold qu;by_cases E:m - i<=x/\x<m - i+(m+(j - i) - m);{rw[if_pos E,q,iP];unfold ki;grind};{rw[if_neg E];by_cases F:m - i+(m+(j - i) - m)<=x/\x<m+(j - i);{rw[if_pos F,q];unfold ki;grind};{rw[if_neg F,q];unfold ki;grind}}
def Ul{f g:Nat->α}{m i:Nat}(hi:i<=m)(q:∀x,g x=ki f (m - i) m i x)(x:Nat):g x=qu f (m - i) m (m+i) x:=by rw[q];unfold ki qu;grind
def Kn(f:Nat->α){a m b:Nat}(q:a<=m)(E:m<=b)(h:a=m\/m=b)(x:Nat):qu f a m b x=f x:=by unfold qu;grind
end
section
variable {α:Type}[Inhabited α]
def aW(l:List α)(x:Nat):α:=l.getD x default
theorem lY{l:List α}{x:Nat}(h:x<l.length):aW l x=l[x]:=by unfold aW;grind
def kh(l:List α)(i j:Nat):List α:=(l.set i (aW l j)).set j (aW l i)
def mI(l:List α)(i j:Nat):(kh l i j).length=l.length:=by simp[kh]
def Nf{l:List α}{i j:Nat}(hi:i<l.length)(q:j<l.length):(kh l i j).Perm l:=by grind[kh,lY,List.set_set_perm]
theorem ku{l:List α}{i j:Nat}(hi:i<l.length)(F:j<l.length)(x:Nat):aW (kh l i j) x=if x=j then aW l i else if x=i then aW l j else aW l x:=by unfold kh;by_cases q:x=j;{subst q;rw[if_pos rfl,lY (by simpa using F)];simp};{rw[if_neg q];by_cases E:x=i;{subst E;rw[if_pos rfl,lY (by simpa using hi)];rw[kU (Ne.symm q),nH]};simp_all[if_neg,aW,cI,List.getElem?_set_ne,Ne.symm]}
structure Mix(a b:Nat)(l l':List α):Prop where
 len:l'.length=l.length
 perm:l'.Perm l
 out:∀x,(x < a∨b≤x)→aW l' x=aW l x
 img:∀x,a≤x→x < b→∃y,a≤y∧y < b∧aW l' x=aW l y
theorem Mix.refl(a b:Nat)(l:List α):Mix a b l l:=⟨rfl,.refl _,λ_ _=>rfl,λx q E=>⟨x,q,E,rfl⟩⟩
def Mix.trans{a b:Nat}{l m n:List α}(h:Mix a b l m)(k:Mix a b m n):Mix a b l n:=by refine⟨k.len.trans h.len,k.perm.trans h.perm,λx hx=>(k.out x hx).trans (h.out x hx),λx q E=>?_⟩;obtain⟨y,F,I,J⟩:=k.img x q E;obtain⟨z,K,O,Q⟩:=h.img y F I;grind
def Mix.wide{a b c d:Nat}{l m:List α}(h:Mix a b l m)(F:c<=a)(hd:b<=d):Mix c d l m:=by refine⟨h.len,h.perm,λx hx=>h.out x Om,λx q E=>?_⟩;by_cases hx:a<=x/\x<b;{obtain⟨y,I,J,K⟩:=h.img x hx.1 hx.2;grind};{exact⟨x,q,E,h.out x Om⟩}
def Mix.swap{a b i j:Nat}{l:List α}(F:b<=l.length)(hi:a<=i/\i<b)(I:a<=j/\j<b):Mix a b l (kh l i j):=by have q:i<l.length:=Om;have E:j<l.length:=Om;refine⟨mI _ _ _,Nf q E,λx hx=>?_,λx J K=>?_⟩;{rw[ku q E,iN,iN]};{rw[ku q E];grind}
variable (lt:α->α->Prop)
def Srt(l:List α)(a b:Nat):Prop:=∀i j,a<=i->i<j->j<b->lt (aW l i) (aW l j)
def Srt.part{lt:α->α->Prop}{l:List α}{a b c d:Nat}(h:Srt lt l a b)(I:a<=c)(hd:d<=b):Srt lt l c d:=λi j E q F=>h i j Om q Om
def Srt.out{lt:α->α->Prop}{l q:List α}{a b c d:Nat}(h:Srt lt l a b)(k:Mix c d l q)(hd:b<=c\/d<=a):Srt lt q a b:=λi j E F I=>by rw[k.out i Om,k.out j Om];exact h i j E F I
def WK{lt:α->α->Prop}{l l1 l2:List α}{a m b:Nat}(I:Mix a m l l1)(E:Mix m b l1 l2)(J:Srt lt l1 a m)(K:Srt lt l2 m b)(O:∀x y,a<=x->x<m->m<=y->y<b->lt (aW l x) (aW l y)):Srt lt l2 a b:=by intro i j hi q F;by_cases c1:j<m;{rw[E.out i Om,E.out j Om];exact J i j hi q c1};{by_cases c2:m<=i;{exact K i j c2 q F};{rw[E.out i Om];obtain⟨x,Q,T,U⟩:=I.img i hi Om;obtain⟨y,V,Y,Z⟩:=E.img j Om F;rw[U,Z,I.out y Om];exact O x y Q T V Y}}
def XQ{lt ord:α->α->Prop}{l l1:List α}{a m b mid start q:Nat}(h1:a<=start)(h2:start<=mid)(h3:start<=m)(h4:mid<=q)(h5:m<=q)(h6:q<=b)(he:start+q=mid+m)(Y:Srt lt l a m)(Z:Srt lt l m b)(I:∀i j,a<=i->i<m->m<=j->j<b->ord (aW l i) (aW l j))(pA:∀i j,a<=i->i<start->q<=j->j<b->lt (aW l i) (aW l j))(pB:∀i j,m<=i->i<q->start<=j->j<m->lt (aW l i) (aW l j))(U:∀x,aW l1 x=qu (aW l) start m q x):(Srt lt l1 a start/\Srt lt l1 start mid/\Srt lt l1 mid q/\Srt lt l1 q b)/\(∀i j,a<=i->i<start->start<=j->j<mid->ord (aW l1 i) (aW l1 j))/\(∀i j,mid<=i->i<q->q<=j->j<b->ord (aW l1 i) (aW l1 j))/\ ∀x y,a<=x->x<mid->mid<=y->y<b->lt (aW l1 x) (aW l1 y):=by have O:∀x,x<start->aW l1 x=aW l x:=λx hx=>by{rw[U];unfold qu;grind};have Q:∀x,start<=x->x<mid->aW l1 x=aW l (x+(m - start)):=λx hx V=>by{rw[U];unfold qu;rw[iP]};have J:∀x,mid<=x->x<q->aW l1 x=aW l (x - (q - m)):=λx hx V=>by{rw[U];unfold qu;grind};have T:∀x,q<=x->aW l1 x=aW l x:=λx hx=>by{rw[U];unfold qu;grind};refine⟨⟨λi j q1 F E=>?_,λi j q1 F E=>?_,λi j q1 F E=>?_,λi j q1 F E=>?_⟩,λi j q1 F E K=>?_,λi j q1 F E K=>?_,λx y q1 F E K=>?_⟩;{rw[O i Om,O j E];exact Y i j q1 F Om};{rw[Q i q1 Om,Q j Om E];exact Z _ _ Om Om Om};{rw[J i q1 Om,J j Om E];exact Y _ _ Om Om Om};{rw[T i q1,T j Om];exact Z _ _ Om F E};{rw[O i F,Q j E K];exact I _ _ q1 Om Om Om};{rw[J i q1 F,T j E];exact I _ _ Om Om Om K};{by_cases c1:x<start;{rw[O x c1];by_cases c2:y<q;{rw[J y E c2];exact Y _ _ q1 Om Om};grind};{rw[Q x Om F];by_cases c2:y<q;{rw[J y E c2];exact pB _ _ Om Om Om Om};{rw[T y Om];exact Z _ _ Om Om K}}}
def JH{lt:α->α->Prop}{l:List α}(h:Srt lt l 0 l.length):l.Pairwise lt:=by rw[FN];intro i j hi E q;have:=h i j (dp _) q E;grind[lY]
def mh{lt:α->α->Prop}{l:List α}(h:l.Pairwise lt)(a b:Nat)(I:b<=l.length):Srt lt l a b:=by rw[FN] at h;intro i j q E F;grind[lY]
end
theorem zW{α:Type}{lt:α->α->Prop}(q:∀a,¬lt a a)(J:∀a b c,lt a b->lt b c->lt a c):∀{l m:List α},l.Pairwise lt->m.Pairwise lt->(∀x,x∈l↔x∈m)->l=m|[],[],_,_,_=>rfl|[],b::m,_,_,h=>absurd ((h b).2 (by simp)) (by simp)|a::l,[],_,_,h=>absurd ((h a).1 (by simp)) (by simp)|a::l,b::m,I,hm,h=>by rw[List.pairwise_cons] at I hm;have F:a=b:=by{rcases List.mem_cons.1 ((h a).1 (by simp)) with e|e;{exact e};{rcases List.mem_cons.1 ((h b).2 (by simp)) with E|E;{exact E.symm};{exact absurd (J _ _ _ (I.1 b E) (hm.1 a e)) (q a)}}};subst F;congr 1;refine zW q J I.2 hm.2 λx=>⟨λhx=>?_,λhx=>?_⟩<;>grind
def uB{f:Fp}:a7 .none f=true:=by cases f<;>rfl
def FX{f:Fp}:a7 f .none=true:=by cases f<;>rfl
def Re{b o n b' o' q:Nat}:a7 (.rd b o n) (.rd b' o' q)=true:=rfl
def Rb{b o n b' o' q:Nat}:a7 (.rd b o n) (.wr b' o' q)=lx b o n b' o' q:=rfl
def Ra{b o n b' o' q:Nat}:a7 (.wr b o n) (.rd b' o' q)=lx b o n b' o' q:=rfl
def Q9{b o n b' o' q:Nat}:a7 (.wr b o n) (.wr b' o' q)=lx b o n b' o' q:=rfl
def Rg{b o n b':Nat}:a7 (.rd b o n) (.wb b')=decide (b'≠b):=rfl
def Ri{b o n b':Nat}:a7 (.wb b') (.rd b o n)=decide (b'≠b):=rfl
def NN{b o n b':Nat}:a7 (.wr b o n) (.wb b')=decide (b'≠b):=rfl
def Rh{b o n b':Nat}:a7 (.wb b') (.wr b o n)=decide (b'≠b):=rfl
def Rj{b b':Nat}:a7 (.wb b) (.wb b')=decide (b≠b'):=rfl
def bg{q:dg}{o:IOp}{xs:List IV}(h:gG o xs=some .none):bx (some q) o xs=some (some ((o.idx,.none)::q)):=by simp_all[bx,pZ,if_pos,CZ,FX]
section
variable {fc:dg}{dst:Option Nat}{args:List IA}{g:Option (Nat×Bool)}{amb:Bool}{idx mask:Nat}{xs:List IV}
def N0{o:IOp}:bx none o xs=some none:=rfl
def KL:bx (some fc) ⟨dst,.move,args,g,amb,idx,mask⟩ xs=some (some ((idx,.none)::fc)):=bg rfl
def N2{op:BinOp}:bx (some fc) ⟨dst,.bin op,args,g,amb,idx,mask⟩ xs=some (some ((idx,.none)::fc)):=bg rfl
def Ru{op:UnOp}:bx (some fc) ⟨dst,.un op,args,g,amb,idx,mask⟩ xs=some (some ((idx,.none)::fc)):=bg rfl
def KN{k:IntKind}:bx (some fc) ⟨dst,.conv k,args,g,amb,idx,mask⟩ xs=some (some ((idx,.none)::fc)):=bg rfl
def IS{z:Nat}:bx (some fc) ⟨dst,.idxSl z,args,g,amb,idx,mask⟩ xs=some (some ((idx,.none)::fc)):=bg rfl
def zj{z:Nat}:bx (some fc) ⟨dst,.fieldAddr z,args,g,amb,idx,mask⟩ xs=some (some ((idx,.none)::fc)):=bg rfl
def IT{z:Nat}{n:Option Nat}:bx (some fc) ⟨dst,.field z n,args,g,amb,idx,mask⟩ xs=some (some ((idx,.none)::fc)):=bg rfl
def IR:bx (some fc) ⟨dst,.lenSl,args,g,amb,idx,mask⟩ xs=some (some ((idx,.none)::fc)):=bg rfl
def KK:bx (some fc) ⟨dst,.pick,args,g,amb,idx,mask⟩ xs=some (some ((idx,.none)::fc)):=bg rfl
def xv{l z:Nat}:bx (some fc) ⟨dst,.idxArrAddr l z,args,g,amb,idx,mask⟩ xs=some (some ((idx,.none)::fc)):=bg rfl
end
def ahh(m k:Nat):Nat.testBit m k=decide (m / 2^k%2=1):=Nat.testBit_eq_decide_div_mod_eq
section
variable {α:Type}[Cell α]
def Gr(n0:Nat)(H:Heap)(e:Nat)(v:SV)(l:List α):Prop:=(v=.nil/\l=[])\/∃b,v=.sl b 0 l.length l.length false/\n0<=b/\l≠[]/\Own H b e l.length l
def Gr.nil{n0:Nat}{H:Heap}{e:Nat}:Gr n0 H e .nil ([]:List α):=.inl ⟨rfl,rfl⟩
def Gr.sl{n0:Nat}{H:Heap}{e:Nat}{v:SV}{l:List α}(h:Gr n0 H e v l):Sl H v l:=by rcases h with⟨rfl,rfl⟩|⟨b,rfl,_,_,q⟩;{exact Sl.empty};{exact q.sl false}
def Gr.blk{n0:Nat}{H:Heap}{e:Nat}{v:SV}{l:List α}(h:Gr n0 H e v l)(E:l≠[]):H.get v.blk=some (.cells false e (Cell.z α) (az l)):=by rcases h with⟨_,rfl⟩|⟨b,rfl,_,_,q⟩;{exact absurd rfl E};{exact q.full}
def Gr.lower{n0 n1:Nat}{H:Heap}{e:Nat}{v:SV}{l:List α}(h:Gr n0 H e v l)(hn:n1<=n0):Gr n1 H e v l:=by rcases h with h|⟨b,q,I,E,F⟩;{exact .inl h};{exact .inr ⟨b,q,Om,E,F⟩}
def Gr.keep{n0:Nat}{H H':Heap}{e:Nat}{v:SV}{l:List α}(h:Gr n0 H e v l)(k:Keep H.n H H'):Gr n0 H' e v l:=by rcases h with h|⟨b,q,E,F,I⟩;{exact .inl h};{exact .inr ⟨b,q,E,F,I.keep k⟩}
def KeepG(n0 e z:Nat)(H H':Heap):Prop:=H.n<=H'.n/\∀x,x<H.n->(x<n0\/∀cs,H.get x≠some (.cells false e z cs))->H'.get x=H.get x
def KeepG.refl(n0 e z:Nat)(H:Heap):KeepG n0 e z H H:=⟨ao _,λ_ _ _=>rfl⟩
def KeepG.trans{n0 e z:Nat}{a b c:Heap}(h:KeepG n0 e z a b)(k:KeepG n0 e z b c):KeepG n0 e z a c:=by refine⟨cW h.1 k.1,λx E F=>?_⟩;have q:=h.2 x E F;rw[<-q];exact k.2 x (bU E h.1) (by rw[q];exact F)
def KeepG.of{n0 e z:Nat}{H H':Heap}(k:Keep H.n H H'):KeepG n0 e z H H':=⟨k.1,λx h _=>k.2 x h h⟩
def KeepG.low{n0 e z:Nat}{H H':Heap}(k:KeepG n0 e z H H')(hn:n0<=H.n):Keep n0 H H':=⟨k.1,λx q E=>k.2 x E (.inl q)⟩
def KeepG.get{n0 e z x:Nat}{H H':Heap}{ob:IObj}(k:KeepG n0 e z H H')(hx:x<H.n)(E:H.get x=some ob)(q:∀cs,ob≠.cells false e z cs):H'.get x=some ob:=by rw[k.2 x hx (.inr λcs h=>q cs (by grind))];exact E
def Own.keepG{n0 e q z b cap:Nat}{H H':Heap}{l:List α}(h:Own H b e cap l)(k:KeepG n0 q z H H')(K:e≠q):Own H' b e cap l:=by obtain⟨F,E,r,I,J⟩:=h;refine Own.same ⟨F,E,r,I,J⟩ k.1 (k.2 b E (.inr λcs O=>?_));grind
def OwnS(n0:Nat)(H:Heap)(e:Nat)(v:SV)(l:List α):Prop:=(v=.nil/\l=[])\/∃b cap ex,v=.sl b 0 l.length cap ex/\n0<=b/\Own H b e cap l
def OwnS.sl{n0:Nat}{H:Heap}{e:Nat}{v:SV}{l:List α}(h:OwnS n0 H e v l):Sl H v l:=by rcases h with⟨rfl,rfl⟩|⟨b,cap,ex,rfl,_,h⟩;{exact Sl.empty};{exact h.sl ex}
def OwnS.keep{n0:Nat}{H H':Heap}{e:Nat}{v:SV}{l:List α}(h:OwnS n0 H e v l)(k:Keep H.n H H'):OwnS n0 H' e v l:=by rcases h with h|⟨b,cap,ex,q,E,F⟩;{exact .inl h};{exact .inr ⟨b,cap,ex,q,E,F.keep k⟩}
def OwnS.keepG{n0 n1 e E z:Nat}{H H':Heap}{v:SV}{l:List α}(h:OwnS n0 H e v l)(k:KeepG n1 E z H H')(q:e≠E):OwnS n0 H' e v l:=by rcases h with h|⟨b,cap,ex,F,I,J⟩;{exact .inl h};{exact .inr ⟨b,cap,ex,F,I,J.keepG k q⟩}
def Fresh.own{n0:Nat}{H:Heap}{e:Nat}{v:SV}{l:List α}(h:Fresh n0 H e v l):OwnS n0 H e v l:=by rcases h with h|⟨b,q,E,F⟩;{exact .inl h};{exact .inr ⟨b,l.length,true,q,E,F⟩}
def Gr.own{n0:Nat}{H:Heap}{e:Nat}{v:SV}{l:List α}(h:Gr n0 H e v l):OwnS n0 H e v l:=by rcases h with h|⟨b,q,E,_,F⟩;{exact .inl h};{exact .inr ⟨b,l.length,false,q,E,F⟩}
def Gr.push{n0:Nat}{H:Heap}{e:Nat}{v:SV}{l:List α}(h:Gr n0 H e v l){a:α}{u:SV}(T:Sl H u [a]){z:Nat}(J:Cell.z α=z)(bytes lo:Nat)(Y:lo<=n0)(hn:n0<=H.n)(Q:(l.length+1)*(bytes+1)<=2^40):∃q w,ev1 (.append e z bytes) [v.iv,u.iv] lo H=some (SV.iv w,q)/\KeepG n0 e z H q/\Gr n0 q e w (l++[a]):=by rcases h with⟨rfl,rfl⟩|⟨b,rfl,Z,h3,O⟩;{obtain⟨q,F,U,I,K⟩:=qT (e:=e) T J bytes lo (by simp) (by simpa using Q);exact⟨q,.sl H.n 0 1 1 false,F,KeepG.of I,.inr ⟨H.n,rfl,hn,by simp,K⟩⟩};{obtain⟨q,F,U,I,K⟩:=lU (n:=l.length) O rfl T J bytes lo (by simp) (by simpa using Q) Om;refine⟨q,.sl H.n 0 (l.length+1) (l.length+1) false,F,⟨Om,λx V E=>I x ?_ V⟩,.inr ⟨H.n,by simp,hn,by simp,by grind⟩⟩;rintro rfl;rcases E with E|E;{omega};{exact E _ (by rw[O.full,J])}}
def oP{H:Heap}{e z:Nat}(q:Cell.z α=z)(a:α):Own (H.new (.cells false e z (Cell.cs a))) H.n e 1 [a]:=by have:=bM (H:=H.new (.cells false e z (Cell.cs a))) (b:=H.n) (e:=e) (l:=[a]) (by rw[ac];omega) q (by rw[ak,if_pos rfl]) (Le a).symm;exact this
def Gr.pushNew{n0:Nat}{H:Heap}{e:Nat}{v:SV}{l:List α}(h:Gr n0 H e v l)(a:α){z:Nat}(F:Cell.z α=z)(bytes lo:Nat)(E:lo<=n0)(hn:n0<=H.n)(J:(l.length+1)*(bytes+1)<=2^40):∃q w,ev1 (.append e z bytes) [v.iv,.slice H.n 0 1 1 true] lo (H.new (.cells false e z (Cell.cs a)))=some (SV.iv w,q)/\KeepG n0 e z H q/\Gr n0 q e w (l++[a]):=by obtain⟨q,w,I,K,g1⟩:=(h.keep (.new _ (.cells false e z (Cell.cs a)))).push (a:=a) ((oP F a).sl true) F bytes lo E (by rw[ac];omega) J;exact⟨q,w,I,(KeepG.of (.new _ _)).trans K,g1⟩
end
def E1{α:Type}(f:Nat->List α)(n:Nat):(List.range (n+1)).flatMap f=(List.range n).flatMap f++f n:=by rw[List.range_succ,ID];simp
end Go.Iso
section
namespace Go.Iso
def Tt:ik []=.tuple []:=rfl
def Ts{v:IV}:ik [v]=v:=rfl
def Tq{v w:IV}{l:List IV}:ik (v::w::l)=.tuple (v::w::l):=rfl
def BAS:=aq @adk (aq @afj (aq @adn (aq @kX (aq @Zq (aq @abl (aq @ado (aq @Me (aq @OS (aq @YZ (aq @Y0 (aq @afk (aq @alD (aq @VE (aq @VF (aq @afc (aq @afd (aq @afb (aq @afe (aq @adh (aq @aeP (aq @ab6 (aq @Yu (aq @eq_self.{1} (aq @Nat.left_eq_add (aq @Nat.add_eq_left (aq @Nat.add_left_cancel_iff (aq @Nat.add_assoc (aq @Sn (aq @Qr (aq @Qq (aq @Xj (aq @Xi (aq @act (aq @acu (aq @aer (aq @List.getD_cons_zero.{0} (aq @List.getD_cons_succ.{0} (aq @XO (aq @XP (aq @ab7 (aq @ada (aq @ac9 (aq @adb (aq @Ze (aq @Zf (aq @abT (aq @Zr (aq @if_true.{1} (aq @if_false.{1} (aq @Option.map_some.{0,0} (aq @Option.map_none.{0,0} (aq @Option.bind_some.{0,0} (aq @Option.bind_none.{0,0} (aq @List.nil_append.{0} (aq @List.append_nil.{0} (aq @List.cons_append.{0} (aq @List.length_cons.{0} (aq @List.length_nil.{0} (aq @Nat.zero_add (aq @aco (aq @acp (aq @Vc (aq @XH (aq @beq_self_eq_true.{0} (aq @Bool.false_eq_true (aq @Bool.not_true (aq @Bool.not_false (aq @Option.getD_some.{0} (aq @Option.getD_none.{0} (aq @ON (aq @OM (aq @LY (aq @OJ (aq @OK (aq @E6 (aq @JB (aq @AU (aq @OL (aq @E7 (aq @Sc (aq @JA (aq @Es (aq @JC (aq @AV (aq @ak (aq @ac (aq @aa (aq @af (aq @List.drop_succ_cons.{0} (aq @List.drop_zero.{0} (aq @List.take_succ_cons.{0} (aq @List.take_zero.{0} (aq @Nat.add_zero (aq @Nat.le_refl (aq @Option.some.injEq.{0} (aq @and_true (aq @true_and (aq @and_false (aq @false_and (aq @BEq.rfl.{0} (aq @xt (aq @uD (aq @UO (aq @UP (aq @KD (aq @NT (aq @ET (aq @UQ (aq @KE (aq @Yx (aq @NS (aq @IP (aq @NU (aq @EU (aq @List.all_cons.{0} (aq @List.all_nil.{0} (aq @Bool.and_self (aq @Bool.and_true (aq @Bool.true_and (aq @Nat.le_add_right (aq @Nat.add_sub_cancel (aq @bne_self_eq_false.{0} (aq @Bool.false_bne (aq @Bool.bne_false (aq @Bool.or_true (aq @Bool.true_or (aq @Int.toNat_natCast (aq @Option.isSome_some.{0} (aq @adm (aq @acl (aq @ack (aq @Md (aq @SA (aq @Uv (aq @Uu (aq @XL (aq @XJ (aq @XK (aq @Yt (aq @Ys (aq @ne_eq.{1} (aq @not_false_eq_true (aq @akp (aq @ako (aq @cLe (aq @akn (aq @cLt (aq @akm (aq @iLe (aq @ajT (aq @iLt (aq @ajS (aq @iGe (aq @ajV (aq @iGt (aq @ajU (aq @ajX (aq @aeN (aq @ajW (aq @aeM (aq @ahe (aq @wU8 (aq @decide_true (aq @decide_false (aq @Ux (aq @Uw (aq @Yo (aq @Mj (aq @ly (aq @GQ (aq @qg (aq @iC (aq @mR (aq @zR (aq @Nat.zero_mul (aq @Bool.true_eq_false (aq @Bool.false_or (aq @Bool.or_false (aq @Bool.false_and (aq @Bool.and_false (aq @not_true_eq_false (aq @Nat.sub_zero (aq @List.getElem?_cons_zero.{0} (aq @List.getElem?_cons_succ.{0} (aq @bG.eq_1 (aq @bG.eq_2 (aq @IA.eval.eq_1 (aq @IA.eval.eq_2 (aq @IA.eval.eq_3 (aq @Fr.put.eq_1 (aq @Fr.put.eq_2 (aq @cY.eq_1 (aq @cY.eq_2 (aq @cg.eq_1 (aq @cg.eq_2 (aq @aH.eq_1 (aq @aH.eq_2 (aq @kl.eq_1 (aq @kl.eq_2 (aq @ah.eq_1 (aq @ah.eq_2 (aq @List.set.eq_1.{0} (aq @List.set.eq_2.{0} (aq @List.set.eq_3.{0} (aq @List.drop.eq_1.{0} (aq @List.drop.eq_2.{0} (aq @List.drop.eq_3.{0} (aq @List.take.eq_1.{0} (aq @List.take.eq_2.{0} (aq @List.take.eq_3.{0} (aq @List.append.eq_1.{0} (aq @List.append.eq_2.{0} (aq @aB.eq_1 (aq @aB.eq_2 (aq @aB.eq_3 (aq @aB.eq_4 (aq @eP.eq_1 (aq @eP.eq_2 (aq @bx.eq_1 (aq @bx.eq_2 (aq @Tt (aq @Ts (aq @Tq (aq @uB (aq @FX (aq @Re (aq @Rb (aq @Ra (aq @Q9 (aq @Rg (aq @Ri (aq @NN (aq @Rh (aq @Rj (@ahh)))))))))))))))))))))))))))))))))))))))))))))))))))))))))))))))))))))))))))))))))))))))))))))))))))))))))))))))))))))))))))))))))))))))))))))))))))))))))))))))))))))))))))))))))))))))))))))))))))))))))))))))))))))))))))))))))))))))))))
def ai:=aq @N0 (aq @KL (aq @N2 (aq @Ru (aq @KN (aq @IS (aq @zj (aq @IT (aq @IR (aq @KK (@xv))))))))))
end Go.Iso
end
namespace Go.Iso
def aff{b o n b' o' q:Nat}(h:b<b'):lx b o n b' o' q=true:=by grind[lx]
def afg{b o n b' o' q:Nat}(h:b'<b):lx b o n b' o' q=true:=by grind[lx]
def ahy:Fp->Bool|.none|.rd _ _ _=>true|_=>false
def sx:dg->Bool|[]=>true|p::q=>ahy p.2&&sx q
def Rt:sx []=true:=rfl
def NW{i:Nat}{q:dg}:sx ((i,.none)::q)=sx q:=rfl
def UX{i b o n:Nat}{q:dg}:sx ((i,.rd b o n)::q)=sx q:=rfl
def UW{i b o n:Nat}{q:dg}:sx ((i,.wr b o n)::q)=false:=rfl
def F1{b o n mask:Nat}:∀{q:dg},sx q=true->(q.all λp=>mask.testBit p.1||a7 p.2 (.rd b o n))=true|[],_=>rfl|(i,f)::q,h=>by simp only[sx,bP] at h;rw[pP,F1 h.2,vE];cases f with|none=>simp[a7]|rd=>simp[a7]|_=>cases h.1
section
variable {fc:dg}{dst:Option Nat}{args:List IA}{g:Option (Nat×Bool)}{amb:Bool}{idx mask:Nat}{xs:List IV}
def KO:bx (some fc) ⟨dst,.call,args,g,amb,idx,mask⟩ xs=some (some ((idx,.none)::fc)):=bg rfl
def IW{e z:Nat}{zs:List IV}:bx (some fc) ⟨dst,.alloc e z zs,args,g,amb,idx,mask⟩ xs=some (some ((idx,.none)::fc)):=bg rfl
def IU{zs:List IV}{os:List (Nat×Nat)}:bx (some fc) ⟨dst,.build zs os,args,g,amb,idx,mask⟩ xs=some (some ((idx,.none)::fc)):=bg rfl
def Dv{e z n:Nat}{zs:List IV}{os:List (Nat×Nat)}:bx (some fc) ⟨dst,.buildSl e z n zs os,args,g,amb,idx,mask⟩ xs=some (some ((idx,.none)::fc)):=bg rfl
def KM{n:Option Nat}{b a:Nat}:bx (some fc) ⟨dst,.load n,args,g,amb,idx,mask⟩ [.ptr b a]=if sx fc=true then some (some ((idx,.rd b a (n.getD 1))::fc)) else(pZ fc ⟨dst,.load n,args,g,amb,idx,mask⟩ [.ptr b a]).map some:=by simp_all[bx,pZ,gG,if_pos,F1]
end
def FR:=aq @KO (aq @IW (aq @IU (aq @Dv @KM)))
def FW:=aq @Rt (aq @NW (aq @UX (aq @UW (aq @aff @afg))))
end Go.Iso
section
namespace Go.Iso
def J1{a b:Prop}(h:a)(k:b):a/\b:=⟨h,k⟩
def Fa:=J1 @BAS (J1 @gG.eq_def (J1 @pZ.eq_def (J1 @opW.eq_def (J1 @tC.eq_def (J1 @ev1.eq_def (J1 @gu.eq_def (J1 @unI.eq_def (J1 @kM.eq_def (J1 @Ol.eq_def @cC.eq_def)))))))))
def aj:=J1 Fa @Heap.write.eq_def
def gY:=J1 aj FW
def jn:=J1 ai FR
def av{H0 H1:Heap}(q:H0=H1)(x:Nat){v:Option IObj}(h:H0.get x=v:=by simp(disch:=omega)only[aj,↓ai,seval];rfl):H1.get x=v:=q▸h
def aO{n:Nat}{H H0 H1:Heap}(q:H0=H1)(a:H.n<=H1.n:=by omega)(h:∀x,x<n->x<H.n->H0.get x=H.get x:=by intros;simp(disch:=omega)only[aj,↓ai,seval]):Keep n H H1:=⟨a,q▸h⟩
end Go.Iso
end
namespace Go.Iso
def qq:∀(c:List IV)(o:Nat)(x:IV),o<c.length->aB c o [x]=c.set o x|[],_,_,h=>by simp at h|a::c,0,x,_=>by show x::aB c 0 []=_;cases c<;>rfl|a::c,o+1,x,h=>by show a::aB c o [x]=_;rw[qq c o x (by simpa using h)];rfl
section
variable {α:Type}[Cell α]
def lg(l:List α)(i:Nat)(h:i<l.length):az l=az (l.take i)++(Cell.cs l[i]++az (l.drop (i+1))):=by grind[bC,gH,List.drop_eq_getElem_cons,List.take_append_drop]
end
section
variable {α:Type}[Cell α]
end
def slO(z:Nat)(H:Heap)(v:SV):Prop:=∀b o n c ex,v=.sl b o n c ex->(ex||sQ H b z)=true
def SV.cut(z:Nat)(v:SV)(a n:Nat):SV:=match v with|.nil=>.nil|.sl b o _ c ex=>.sl b (o+a*z) n (c - a) ex
def SV.clip(z:Nat)(v:SV)(n:Nat):SV:=match v with|.nil=>.nil|.sl b o _ _ _=>.sl b (o+0*z) (n - 0) (n - 0) true
def Wt{k n:Nat}(h:k<=n):bY n (.int .i64 (k:Int))=some k:=by show(if 0<=(k:Int)/\(k:Int)<=(n:Int) then some (k:Int).toNat else none)=_;rw[iP];simp
section
variable {α:Type}[Cell α]
def Sl.slcClip{H:Heap}{v:SV}{l:List α}(h:Sl H v l){z:Nat}{H':Heap}(hs:slO z H' v)(lo:Nat):ev1 (.slc z false true true) [v.iv,.int .i64 (l.length:Int),.int .i64 (l.length:Int)] lo H'=some ((v.clip z l.length).iv,H'):=by cases v with|nil=>have h:l=[]:=h;subst h;rfl|sl b o m c ex=>have hn:=h.1;have q:=h.2.1;have e:=hs _ _ _ _ _ rfl;simp only[ev1,SV.clip,SV.iv,e,if_true,bh,Wt (show l.length<=c by omega),Wt (ao l.length),eL,bA]
def Y5{H:Heap}{b e cap:Nat}{l:List α}(h:Own H b e cap l){z:Nat}(E:Cell.z α=z):sQ H b z=true:=by subst E;obtain⟨F,I,r,q,J⟩:=h;unfold sQ;rw[q];simp
def Gr.slO{n0:Nat}{H:Heap}{e:Nat}{v:SV}{l:List α}(h:Gr n0 H e v l){z:Nat}(J:Cell.z α=z):slO z H v:=by intro b o n c ex q;rcases h with⟨E,_⟩|⟨b',E,_,_,I⟩;{rw[E] at q;cases q};{rw[E] at q;injection q with F K O Q T;subst F;rw[Y5 I J,Bool.or_true]}
end
open Classical
section
variable {P:Program}{g0 lo:Nat}{μ:Mu}{H H':Heap}{w:World}{ρ:Operand->Value}{xs:List IV}{v:IV}
variable {dst:Option Tmp}{type:TypeId}{pos:String}{after:Array Edge}{guard:Option (Tmp×Bool)}
def yy:∀{q:List (IV×IV×Nat)}{l:List MapEntry}{e:MapEntry},EsR μ q l->e∈l->∃k v,(k,v,e.born)∈q/\VR μ k e.key/\VR μ v e.val|[],_,_,h,J=>by cases h;cases J|(k,v,s)::q,_,x,K,h=>by obtain⟨e,T,rfl,F,I,Q,E⟩:=K;cases h with|head=>exact⟨k,v,by grind,F,I⟩|tail _ h=>obtain⟨O,v',a,b,c⟩:=yy E h;exact⟨O,v',gB _ a,b,c⟩
def HZ(h:Rel P g0 μ H.get H.n w){x:Operand}{r b q K E:Nat}{seen:List Nat}{es:List (IV×IV×Nat)}(hg:H.get r=some (.iter (some b) q seen K))(hm:aL H b=some (es,E))(cc:lo<=r)(a5:∀e∈es,e.2.2<K)(a1:∀e∈es,e.2.2<q)(bo:∃e∈es,e.2.2∉seen)(hx:VRs μ [.ptr r 0] [ρ x]):∃k v s,(k,v,s)∈es/\s∉seen/\Gives P g0 lo μ H w (execOp ρ ⟨dst,.next x false,type,pos,after,guard⟩) (.tuple [.bool true,k,v]) (H.put r (.iter (some b) q (seen++[s]) E)):=by obtain⟨y,hy,hv⟩:=uQ hx;injection hy with hy _;subst hy;obtain⟨a,a3,hl⟩:=hv;have bw:∀o,H.get r=some o->o≠.dead->∃c p ez z,μ r=.at c p ez z/\ObjR P μ o p ez z w.heap[c]?/\a=⟨c,p+0,none⟩:=by{intro o ho hd;unfold LocR at hl;cases hb:μ r with|no=>rw[hb] at hl;exact hl.elim|dead=>have:=h.ded r hb;rw[ho] at this;injection this with this;exact absurd this hd|«at» c p ez z=>rw[hb] at hl;obtain⟨ob,aE,cm⟩:=h.obj r c p ez z hb;rw[ho] at aE;injection aE with aE;subst aE;exact⟨c,p,ez,z,rfl,cm,hl⟩};obtain⟨c,p,ez,z,hb,⟨rfl,m',O,b4⟩,ha⟩:=bw _ hg (by simp);subst ha;obtain⟨rm,cA,z2,I,ag,cB,T,Y⟩:=pq h hm b4;injection ag with ag;subst ag;have a9:=EG (f:=λs=>decide (K<=s)) Y;have bt:es≠[]:=by{obtain⟨e,he,_⟩:=bo;exact List.ne_nil_of_mem he};have ba:(!seen.toArray.isEmpty&&!I.isEmpty&&I.all λe=>decide (e.born>=K))=false:=by{have:(I.all λe=>decide (e.born>=K))=false:=by{rw[<-Array.all_toList,<-a9,Bool.eq_false_iff];intro hh;cases es with|nil=>exact bt rfl|cons e es=>simp only[pP,bP,decide_eq_true_eq] at hh;have:=a5 e (vh ..);omega};rw[this,Bool.and_false]};have g1:(getObj c).run P w=.ok (.mapIter (some rm) q seen.toArray K) w:=by{simp[getObj,Sem.run,O]};have ad:(I.filter λe=>!seen.toArray.contains e.born).toList=I.toList.filter λe=>!seen.contains e.born:=by{rw[Array.toList_filter];simp};have bd:=EF (f:=λs=>!seen.contains s) Y;have f1:((I.filter λe=>!seen.toArray.contains e.born).filter λe=>decide (e.born<q))=I.filter λe=>!seen.toArray.contains e.born:=by{rw[Array.filter_eq_self];intro e he;obtain⟨k,v,J,_,_⟩:=yy Y (Array.mem_toList_iff.2 (Array.mem_filter.1 he).1);simpa using a1 _ J};have f2:((I.filter λe=>!seen.toArray.contains e.born).filter λe=>decide (e.born>=q))=#[]:=by{rw[Array.filter_eq_empty_iff];intro e he;obtain⟨k,v,J,_,_⟩:=yy Y (Array.mem_toList_iff.2 (Array.mem_filter.1 he).1);have:=a1 _ J;simp only at this;simp;omega};have a2:(I.filter λe=>!seen.toArray.contains e.born)≠#[]:=by{intro F;rw[F] at ad;obtain⟨e,he,hs⟩:=bo;rw[<-ad] at bd;have bl:=EsR.length bd;simp only[cM] at bl;have:e∈es.filter λe=>!seen.contains e.2.2:=List.mem_filter.2 ⟨he,by simpa using hs⟩;rw[List.length_eq_zero_iff.1 bl] at this;cases this};generalize hL:(I.filter λe=>!seen.toArray.contains e.born)=L at *;have b6:c<w.heap.size:=(Array.getElem?_eq_some_iff.1 O).1;have a6:∀(i:Nat)(V:World),V.heap=w.heap->V.os=w.os->V.tape=w.tape->V.output=w.output->w.drawn<=V.drawn->i<L.size->∃F k0 v0,L[i]? =some F/\(k0,v0,F.born)∈es/\F.born∉seen/\ (∃Q,Rel P g0 Q (H.put r (.iter (some b) q (seen++[F.born]) E)).get (H.put r (.iter (some b) q (seen++[F.born]) E)).n {V with heap:=V.heap.setIfInBounds c (.mapIter (some rm) q (seen.toArray.push F.born) E)}/\ Post lo μ H.get H.n w Q (H.put r (.iter (some b) q (seen++[F.born]) E)).get (H.put r (.iter (some b) q (seen++[F.born]) E)).n {V with heap:=V.heap.setIfInBounds c (.mapIter (some rm) q (seen.toArray.push F.born) E)}/\ VR Q (.tuple [.bool true,k0,v0]) (.tuple #[.bool true,F.key,F.val])):=by{intro i V q1 q2 q3 q4 q5 hi;obtain⟨F,U⟩:∃F,L[i]? =some F:=⟨L[i],by simp[hi]⟩;have J:F∈L:=Array.mem_of_getElem? U;rw[<-hL] at J;obtain⟨cf,cl⟩:=Array.mem_filter.1 J;obtain⟨k0,v0,Z,b9,cp⟩:=yy Y (Array.mem_toList_iff.2 cf);obtain⟨hr,hp⟩:=h.update (lo:=lo) (w':={V with heap:=V.heap.setIfInBounds c (.mapIter (some rm) q (seen.toArray.push F.born) E)}) (o:=.iter (some b) q (seen++[F.born]) E) hb cc ⟨_,hg,rfl⟩ (by simp[q1]) (λc' b5=>by simp only[q1];rw[NK (Ne.symm b5)]) (by simp only[q1];rw[Pm b6];exact⟨rfl,some rm,by simp,b4⟩) q2 q3 q4 q5;exact⟨F,k0,v0,U,Z,by simpa using cl,μ,hr,hp,⟨_,rfl,_,_,rfl,rfl,_,_,rfl,b9,_,_,rfl,cp,rfl⟩⟩};have a0:L.isEmpty=false:=by{simpa [Array.isEmpty_iff] using a2};have b3:0<L.size:=Array.size_pos_iff.2 a2;by_cases b7:L.size<=1;{obtain⟨F,k0,v0,U,Z,a4,Q,h1,h2,h3⟩:=a6 0 w rfl rfl rfl rfl (ao _) b3;refine⟨k0,v0,F.born,Z,a4,.value (.tuple #[.bool true,F.key,F.val]),.tuple #[.bool true,F.key,F.val],_,Q,?_,.inl rfl,h1,h2,h3⟩;simp only[execOp,Instr.next,a3,Sem.run_bind,g1,Result.andThen_ok,bK T,ba,kT,if_false,hL,f1,f2,a0];simp[choose,Sem.run,Question.forced,setObj,O,b7,U]};{have b8:(Question.mapNext L.size).forced=false:=by{simp[Question.forced];omega};have cd:(Question.mapNext L.size).cut (w.tape w.drawn (.mapNext L.size))<L.size:=Nat.mod_lt _ b3;obtain⟨F,k0,v0,U,Z,a4,Q,h1,h2,h3⟩:=a6 _ {w with drawn:=w.drawn+1} rfl rfl rfl rfl (qw _) cd;refine⟨k0,v0,F.born,Z,a4,.value (.tuple #[.bool true,F.key,F.val]),.tuple #[.bool true,F.key,F.val],_,Q,?_,.inl rfl,h1,h2,h3⟩;simp only[execOp,Instr.next,a3,Sem.run_bind,g1,Result.andThen_ok,bK T,ba,kT,if_false,hL,f1,f2,a0];have hd:w.drew.heap=w.heap:=rfl;simp[choose,Sem.run,b8,setObj,hd,O,U];exact⟨rfl,rfl⟩}
end
open Classical
def CallSim.lower{P:Program}{g0:Nat}{f:FuncId}{args:List IV}{lo E:Nat}{H H':Heap}{v:IV}(T:E<=lo)(h:CallSim P g0 f args lo H v H'):CallSim P g0 f args E H v H':=by intro μ w q U Q;exact(h μ w q U Q).mono λe w' ⟨v',F,I,J,K,O⟩=>⟨v',F,I,J,K.lower T,O⟩
def NItem(P:Program)(g0 lo:Nat)(J:Item)(rd:Option Nat)(fr:Fr)(H:Heap)(Q:Out->Heap->Prop):Prop:=∀(μ:Mu)(w:World)(t:Array Value)(r:Option Nat)(ds:List Deferred),Rel P g0 μ H.get H.n w->VRs μ fr.tm t.toList->RdR μ rd r->DsR μ fr.marks ds->∀(f:FuncId)(k:List Item)(cs:List Frame),∃e E H' q w' I F,Q (.ex e E) H'/\Rel P g0 q H'.get H'.n w'/\Post lo μ H.get H.n w q H'.get H'.n w'/\VRs q E.tm I.toList/\DsR q E.marks F/\ Arr P f r I F cs w' (lone (bL f r t ds (J::k)) cs w) k e
section
variable {P:Program}{E:Env}{g0 lo:Nat}{rd:Option Nat}{fr:Fr}{H:Heap}{Q Q':Out->Heap->Prop}
def NItem.mono{J:Item}(h:NItem P g0 lo J rd fr H Q)(hq:∀e q H',Q (.ex e q) H'->Q' (.ex e q) H'):NItem P g0 lo J rd fr H Q':=by intro μ w t r ds O T I F f k cs;obtain⟨e,q,H',U,w1,t1,K,V,Y,Z,a3,a4,a5⟩:=h μ w t r ds O T I F f k cs;grind
def Ml{J:Item}{e:Ex}{q:Fr}{H':Heap}(h:ItemSim P g0 lo J rd fr H e q H')(hq:Q (.ex e q) H'):NItem P g0 lo J rd fr H Q:=by intro μ w t r ds O T I F f k cs;obtain⟨U,w1,t1,K,V,Y,Z,a4,a5⟩:=h μ w t r ds O T I F f k cs;grind
def lz(J:EnvOk P E){c:Code}{F:IC}(K:bc P c=some F)(h:W E lo (.code F rd fr) H Q):NItem P E.g0 lo (.code c) rd fr H Q:=by obtain⟨n,o,H',q,O⟩:=h;obtain⟨e,I,rfl,hs⟩:=Eo (BG J n) n (ao _) c F rd fr lo H o H' K q;exact Ml hs O
def NItem.seq{K O q:Item}(hs:∀f r t ds k cs w,step P (lone (bL f r t ds (K::k)) cs w)=.next (lone (bL f r t ds (O::q::k)) cs w))(ad:∀id k,exitTo id (q::k)=exitTo id k)(h1:NItem P g0 lo O rd fr H λo H1=>match o with|.ex .normal F=>NItem P g0 lo q rd F H1 Q|o=>Q o H1):NItem P g0 lo K rd fr H Q:=by intro μ w t r ds hr ht J Z f k cs;obtain⟨e,F,H1,T,w1,t1,I,a0,a1,U,a3,a4,a5⟩:=h1 μ w t r ds hr ht J Z f (q::k) cs;cases e with|normal=>obtain⟨e2,Y,H2,ag,w2,t2,V,b0,b1,b2,b3,b4,b5⟩:=a0 T w1 t1 r I a1 a3 (J.mono U.le) a4 f k cs;exact⟨e2,Y,H2,ag,w2,t2,V,b0,b1,U.trans b2,b3,b4,b5.head (Steps.head (hs f r t ds k cs w) a5)⟩|jmp j=>exact⟨.jmp j,F,H1,T,w1,t1,I,a0,a1,U,a3,a4,(a5.skipItem ad).head (.one (hs f r t ds k cs w))⟩
def NItem.seqC{a b:Code}(F:NItem P g0 lo (.code a) rd fr H λo H1=>match o with|.ex .normal q=>NItem P g0 lo (.code b) rd q H1 Q|o=>Q o H1):NItem P g0 lo (.code (.seq a b)) rd fr H Q:=NItem.seq (λf r t ds k cs w=>Nm) (Au b) F
def JI{id:Nat}{c:Code}(h:NItem P g0 lo (.code c) rd fr H λo H'=>match o with|.ex (.jmp (.exit q)) Y=>Q (.ex (if q=id then .normal else .jmp (.exit q)) Y) H'|o=>Q o H'):NItem P g0 lo (.code (.block id c)) rd fr H Q:=by intro μ w t r ds hr ht ad Z f k cs;obtain⟨e1,I,H1,J,w1,t1,F,K,O,T,U,V,a5⟩:=h μ w t r ds hr ht ad Z f (.inBlock id::k) cs;have st:step P (lone (bL f r t ds (.code (.block id c)::k)) cs w)=.next (lone (bL f r t ds (.code c::.inBlock id::k)) cs w):=J8;cases e1 with|normal=>exact⟨.normal,I,H1,J,w1,t1,F,K,O,T,U,V,Steps.head st (Steps.trans a5 (.one CD))⟩|jmp j=>obtain⟨pre,b1,b2⟩:=a5;cases j with|ret=>exact⟨.jmp .ret,I,H1,J,w1,t1,F,K,O,T,U,V,pre++[.inBlock id],Steps.head st (by simpa using b1),λq e=>by cases e⟩|exit q=>refine⟨_,I,H1,J,w1,t1,F,K,O,T,U,V,?_⟩;have hx:=b2 q rfl;rw[sT] at hx;by_cases he:q=id;{subst he;simp only[if_true] at hx⊢;exact Steps.head st (b1.trans (.one (Pi hx)))};{rw[if_neg (Ne.symm he)] at hx;rw[if_neg he];refine⟨pre++[.inBlock id],Steps.head st (by simpa using b1),λag e=>?_⟩;grind}
def NItem.inLoop{c:Code}(Inv:Nat->Fr->Heap->Prop)(K:∀n fr H,Inv n fr H->NItem P g0 lo (.code c) rd fr H λo H'=>match o with|.ex .normal q=>∃m,m<n/\Inv m q H'|o=>Q o H'):∀n fr H,Inv n fr H->NItem P g0 lo (.inLoop c) rd fr H Q:=by intro n;induction n using Nat.strongRecOn with|_ n O=>intro fr H J;refine NItem.seq (λf r t ds k cs w=>yP) (lC c) ((K n fr H J).mono λe q H' I=>?_);cases e with|normal=>obtain⟨m,hm,F⟩:=I;exact O m hm q H' F|jmp j=>exact I
def NItem.loopC{c:Code}(Inv:Nat->Fr->Heap->Prop)(n:Nat)(h0:Inv n fr H)(I:∀n fr H,Inv n fr H->NItem P g0 lo (.code c) rd fr H λo H'=>match o with|.ex .normal q=>∃m,m<n/\Inv m q H'|o=>Q o H'):NItem P g0 lo (.code (.loop c)) rd fr H Q:=by refine NItem.seq (λf r t ds k cs w=>HT) (lC c) ((I n fr H h0).mono λe q H' J=>?_);cases e with|normal=>obtain⟨m,hm,F⟩:=J;exact NItem.inLoop Inv I m q H' F|jmp j=>exact J
def NOp(P:Program)(g0:Nat)(o:Oper)(lo:Nat)(xs:List IV)(H:Heap)(R:IV->Heap->Prop):Prop:=∀(μ:Mu)(w:World)(t:Array Value),Rel P g0 μ H.get H.n w->VRs μ xs (o.op.operands.toList.map (dv t))->∀(f:FuncId)(rd:Option Nat)(ds:List Deferred)(k:List Item)(cs:List Frame)(ops:Array Oper)(i:Nat)(q:List Nat),∃(v:IV) (H':Heap) (v':Value) (w':World) (F:Mu),R v H'/\Rel P g0 F H'.get H'.n w'/\Post lo μ H.get H.n w F H'.get H'.n w'/\VR F v v'/\ (ops[i]? =some o->Region.wanted o (yielded ops t)=true->Steps P (lone (bL f rd t ds (.inRegion ops (i::q)::k)) cs w) (lone (bL f rd (rv t o.dst v') ds (.inRegion ops q::k)) cs w'))
def NItem.region(hE:EnvOk P E){id:Nat}{ops:Array Oper}{pre post:List IOp}{io:IOp}(O:dG P ops false=some [(.seq,pre++io::post)])(hg:io.guard=none){R:IV->Heap->Prop}(a0:W E lo (.ops none pre rd fr) H λo H1=>∃q xs,o=.ex .normal q/\bG E.g0 q.tm io.args=some xs/\ (∀o,cK P o.op=some io.kd->NOp P E.g0 o lo xs H1 R)/\ ∀v H2,R v H2->W E lo (.ops none post rd (q.put io.dst v)) H2 λo H'=>∃ad,o=.ex .normal ad/\Q (.ex .normal ad) H'):NItem P E.g0 lo (.code (.region id ops false)) rd fr H Q:=by simp only[dG] at O;cases h1:ops.toList.mapM (qb P ops) with|none=>rw[h1] at O;cases O|some l=>rw[h1] at O;simp only[xj,bA,kT,if_false] at O;have O:l=pre++io::post:=by{grind};subst O;obtain⟨hl,av⟩:=sD h1;obtain⟨n,o,H1,a5,q,xs,rfl,bd,ba,T⟩:=a0;obtain⟨bw,S1,e1,J⟩:=uC (N:=n) pre n (ao _) _ _ _ _ _ a5;injection e1 with _ e1;subst e1;have aE:∀(j:Nat)(F:IOp),(pre++io::post)[j]? =some F->∃o,ops[j]? =some o/\OpOk P ops o F:=λj F hj=>by{obtain⟨o,q1,q2⟩:=av j F hj;obtain⟨Z,e4,e5,e6⟩:=px q2;exact⟨o,by simpa using q1,Z,e4,e5,e6⟩};have ag:ops.size=pre.length+(post.length+1):=by{grind};intro μ w t r ds hr ht b8 a9 f k cs;have iA:List.range ops.size=List.range' 0 pre.length++(pre.length::List.range' (pre.length+1) post.length):=by{rw[NF,ag,<-List.range'_append_1,aX,Iu]};obtain⟨bl,t1,w1,a1,a2,Y,a4⟩:=Bq (a:=0) (ops:=ops) (BG hE n) (λj F hj=>by have b7:j<pre.length:=(List.getElem?_eq_some_iff.1 hj).1;simp_all[C6,aX]) J hr ht f r ds k cs (pre.length::List.range' (pre.length+1) post.length);obtain⟨o,ho,I⟩:=aE pre.length io (by simp);have V:Region.wanted o (yielded ops t1)=true:=by{rw[qi I.guard (by simpa using Y.length) (λd w' _=>kC Y d),hg];rfl};have a6:=eW a1 I.args bd (λi _=>kC Y i);obtain⟨v,H2,v',w2,bo,b0,b1,b2,b3,b4⟩:=ba o I.kd bl w1 t1 a1 a6 f r ds k cs ops pre.length (List.range' (pre.length+1) post.length);have b4:=b4 ho V;have b5:VRs bo (q.put io.dst v).tm (rv t1 o.dst v').toList:=by{rw[I.dst];cases o.dst with|none=>exact VRs.mono b2.le _ _ Y|some d=>simp only[Fr.put,rv,Aj];exact(VRs.mono b2.le _ _ Y).set d b3};obtain⟨n3,o3,H3,U,fr3,rfl,hq⟩:=T v H2 b0;obtain⟨b6,S3,Z,K⟩:=uC (N:=n3) post n3 (ao _) _ _ _ _ _ U;injection Z with _ Z;subst Z;obtain⟨bt,t3,w3,c1,c2,c3,c4⟩:=Bq (a:=pre.length+1) (ops:=ops) (BG hE n3) (λj F hj=>by obtain⟨o,q1,q2⟩:=aE (pre.length+1+j) F (by grind);exact⟨o,q1,q2⟩) K b1 b5 f r ds k cs [];rw[iy] at c4;refine⟨.normal,fr3,H3,bt,w3,t3,ds,hq,c1,(a2.trans b2).trans c2,c3,?_,?_⟩;{have hm:fr3.marks=fr.marks:=by{rw[K.marks];have:(q.put io.dst v).marks=q.marks:=by{cases io.dst<;>rfl};rw[this,J.marks]};rw[hm];exact a9.mono ((a2.trans b2).trans c2).le};{refine Steps.head Fn ?_;rw[iA];exact a4.trans (b4.trans (c4.trans (.one pe)))}
def NOp.next{o:Oper}(K:cK P o.op=some .nextM){r b q I F:Nat}{seen:List Nat}{O:List (IV×IV×Nat)}(hg:H.get r=some (.iter (some b) q seen I))(hm:aL H b=some (O,F))(Y:lo<=r)(J:∀e∈O,e.2.2<I)(T:∀e∈O,e.2.2<q)(Z:∃e∈O,e.2.2∉seen):NOp P g0 o lo [.ptr r 0] H λv H'=>∃k x s,(k,x,s)∈O/\s∉seen/\v=.tuple [.bool true,k,x]/\H'=H.put r (.iter (some b) q (seen++[s]) F):=by intro μ w t hr hx f rd ds k cs ops i a0;obtain⟨y,U⟩:∃y,o.op=.next y false:=by{cases ho:o.op<;>rw[ho] at K<;>simp only[cK,K2,aZ,eN,eO] at K;(all_goals (repeat' split at K));(all_goals (try simp only[eO,eN,reduceCtorEq,and_false,exists_false] at K));all_goals first|(cases K;done)|exact⟨_,rfl⟩|grind};obtain⟨dst,op,type,pos,after,guard⟩:=o;simp only at U;subst U;have hx:VRs μ [.ptr r 0] [dv t y]:=by{simpa [Op.operands] using hx};obtain⟨k0,v0,s0,h1,h2,nx,v',w',aE,V,ad,ag,hp,hv⟩:=HZ (dst:=dst) (type:=type) (pos:=pos) (after:=after) (guard:=guard) (ρ:=dv t) hr hg hm Y J T Z hx;exact⟨_,_,v',w',aE,⟨k0,v0,s0,h1,h2,Rr⟩,ag,hp,hv,λho hw=>.one (J7 ho hw (DI K) V ad)⟩
def Qe(P:Program)(g0:Nat)(f:FuncId)(args:List IV)(lo:Nat)(H:Heap)(R:IV->Heap->Prop):Prop:=∀(μ:Mu)(w:World)(q:Array Value),Rel P g0 μ H.get H.n w->VRs μ args q.toList->Calls P f q w λe w'=>∃(v:IV) (H':Heap) (v':Value) (F:Mu),R v H'/\e=.returned v'/\Rel P g0 F H'.get H'.n w'/\Post lo μ H.get H.n w F H'.get H'.n w'/\VR F v v'
def NOp.call{o:Oper}(hk:cK P o.op=some .call){g:FuncId}{q cap args:List IV}{fn:Func}{body:Code}(hf:P.funcs[g]? =some fn)(hb:fn.body=some body)(hn:(fn.name=="runtime.NumGoroutine")=false){R:IV->Heap->Prop}(h:Qe P g0 g (q++args++cap) lo H R):NOp P g0 o lo (.fn g q cap::args) H R:=by obtain⟨fo,F,ts,ho⟩:=PF hk;intro μ w t hr hx f rd ds k cs ops i V;have T:o.op.operands.toList.map (dv t)=dv t fo::F.toList.map (dv t):=by{rw[ho];simp[Op.operands,Call.operands]};rw[T] at hx;obtain⟨y,yl,hy,aE,K⟩:=hx;simp only[eM] at hy;obtain⟨rfl,rfl⟩:=hy;obtain⟨l',r',Y,hl,ag⟩:=aE;have K:VRs μ args (F.map (dv t)).toList:=by{simpa using K};have a0:VRs μ (q++args++cap) ((l'++F.map (dv t))++r').toList:=by{rw[C1,C1];exact(hl.append K).append ag};obtain⟨e,w',fr,⟨v,H',v',a1,hR,rfl,ad,hp,hv⟩,J,a2,I⟩:=h μ w _ hr a0 (bL f rd t ds (.inRegion ops (i::V)::k)::cs);refine⟨v,H',v',w',a1,hR,ad,hp,hv,λO hw=>?_⟩;rw[<-qG O];have U:(execOp (dv t) o).run P w=.ok (.enter g ((l'++F.map (dv t))++r')) w:=by{have Z:¬fn.name="runtime.NumGoroutine":=by{simpa using hn};simp only[execOp,ho,resolve,Y];simp[Deferred.ofValue,invoke,callFunc,hf,Z,hb]};refine Steps.head (step_lone_go ?_) (Steps.trans J (.one (step_leave_returned I)));rw[rS O hw (λc e=>by rw[ho] at e;cases e),sM];simp only[stepG.apply,Sem.runT_eq,U,if_true,GStep.bare_after];simp_all[bL]
end
open Go.Sort Go.Proofs Go.Shelf
section
variable {P:Program}{g0 lo:Nat}{μ:Mu}{H:Heap}{w:World}
def Q4{n n':Nat}{g Y:Gt}{O:Mu}{w':World}(E:Post n μ g n w O Y n' w'):∃q os,w'=grow (w.drewN q) os:=by have T:w'.heap=w.heap++w'.heap.extract w.heap.size w'.heap.size:=by{apply Array.ext_getElem?;intro i;by_cases hi:i<w.heap.size;{rw[Array.getElem?_append_left hi];exact E.frame i hi λb p ez z J K=>Om};grind};refine⟨w'.drawn - w.drawn,w'.heap.extract w.heap.size w'.heap.size,?_⟩;have J:=E.os;have K:=E.tape;have Q:=E.output;have Z:=E.drawn;obtain⟨h,t,d,o,u⟩:=w;obtain⟨I,U,F,o',V⟩:=w';simp only at J K Q Z T⊢;subst J K Q;show World.mk I U F o' V=World.mk (h++I.extract h.size I.size) U (d+(F - d)) o' V;rw[<-T,show d+(F - d)=F by omega]
def La(os:Array Obj){c:Nat}(q:c<w.heap.size):(grow w os).heap[c]? =w.heap[c]?:=Array.getElem?_append_left q
def Rel.grown{g:Gt}{n:Nat}(h:Rel P g0 μ g n w)(os:Array Obj):Rel P g0 μ g n (grow w os):=⟨h.lt,h.inj,λb c p ez z q=>by rw[La os (h.clt q)];exact h.obj b c p ez z q,h.glob,h.ded⟩
def Post.grown{g:Gt}{n:Nat}(h:Rel P g0 μ g n w)(os:Array Obj):Post lo μ g n w μ g n (grow w os) where le:=μ.le_refl;hn:=ao _;old:=λ_ _ h=>h;low:=λ_ _ _=>⟨rfl,rfl⟩;own:=λ_ _ h=>h;new:=λb c p ez z I e=>absurd (h.lt b (by grind)) Om;full:=λb E F=>Om;size:=by{simp_all};frame:=λc q _=>La os q;os:=rfl;tape:=rfl;output:=rfl;drawn:=ao _
def toV:IV->Value|.int k n=>.int k n|_=>undef
def PG:IV->Bool|.int _ _=>true|_=>false
def yu:∀{L:List IV}{vs:List Value},L.all PG=true->(VRs μ L vs↔vs=L.map toV)|[],vs,_=>by constructor<;>exactλh=>h|x::L,vs,h=>by simp only[pP,bP] at h;have F:=λvs=>yu (L:=L) (vs:=vs) h.2;obtain⟨k,n,rfl⟩:∃k n,x=.int k n:=by{cases x with|int k n=>exact⟨k,n,rfl⟩|_=>exact absurd h.1 (by simp[PG])};constructor;{rintro⟨y,ys,rfl,q,E⟩;have q:y=.int k n:=q;rw[q,(F ys).1 E];rfl};{rintro rfl;exact⟨_,_,rfl,rfl,(F _).2 rfl⟩}
theorem ES(F:Array Value)(cs:Array Value)(h:F.size<=cs.size):(putCells id 0 F cs).toList.take F.size=F.toList:=by apply zc;intro i;rw[List.getElem?_take];by_cases hi:i<F.size;{rw[if_pos hi,FJ,FJ];unfold putCells;rw[Array.getElem?_mapIdx,C5 (by omega:i<cs.size)];simp only[eL];rw[iP,xg,getElem!_pos F i hi,C5 hi];rfl};grind
def Yl(h:Rel P g0 μ H.get H.n w){b c e ez z:Nat}{cs q:List IV}(Q:μ b=.at c 0 ez z)(K:lo<=b)(T:H.get b=some (.cells false e ez cs)){F:Array Value}(U:VRs μ q F.toList)(hl:q.length=cs.length)(m:Nat):Rel P g0 μ (H.put b (.cells false e ez q)).get (H.put b (.cells false e ez q)).n (putRow id (Sort.ahead w m) c 0 F)/\Post lo μ H.get H.n w μ (H.put b (.cells false e ez q)).get (H.put b (.cells false e ez q)).n (putRow id (Sort.ahead w m) c 0 F):=by obtain⟨o,E,O⟩:=h.obj b c 0 ez z Q;rw[T] at E;injection E with E;subst E;obtain⟨_,_,I,V,hz,Y,hv⟩:=O;have Z:F.size=q.length:=by{rw[<-vj,U.length]};refine h.update Q K ⟨_,T,rfl⟩ (by show(w.heap.modify c _).size=_;rw[Array.size_modify]) (λc' J=>by show(w.heap.modify c _)[c']? =_;rw[Array.getElem?_modify,if_neg (Ne.symm J)]) ?_ rfl rfl rfl (Nat.le_add_right _ _);refine⟨rfl,rfl,putCells id 0 F I,?_,?_,Om,?_⟩;{show(w.heap.modify c _)[c]? =_;rw[Array.getElem?_modify,if_pos rfl,V];rfl};{unfold putCells;rw[Array.size_mapIdx];exact hz};grind[ES]
section
variable {α:Type}[Inhabited α]
def CW:∀(l:List Value),(List.range l.length).map (λt=>l[t]!)=l:=by intro l;apply kR (by simp);grind
def I6(enc:α->List Value)(k:Nat)(F:∀x,(enc x).length=k)(E:0<k):∀(l:List α),(flatK enc k l.toArray).toList=l.flatMap enc:=by have key:∀(l:List α),(List.range (l.length*k)).map (λt=>(enc l[t / k]!)[t%k]!)=l.flatMap enc:=by{intro l;induction l with|nil=>simp|cons a l I=>rw[dh,gv,Nat.add_comm,List.range_add,km,List.flatMap_cons,<-I];congr 1;{(conv=>rhs;rw[<-CW (enc a),F]);apply IB;intro t q;have q:=List.mem_range.1 q;rw[Nat.div_eq_of_lt q,Nat.mod_eq_of_lt q];rfl};{rw[yW];apply IB;intro t _;show(enc (a::l)[(k+t) / k]!)[(k+t)%k]! =_;rw[Nat.add_div_left _ E,Nat.add_mod_left];rfl}};simp_all[flatK,Array.toList_map,Array.toList_range]
end
section
variable {α:Type}[Inhabited α][Cell α]
def vR(x:α):List Value:=(Cell.cs x).map toV
omit [Inhabited α] in theorem Lq(x:α):(vR x).length=Cell.z α:=by unfold vR;rw[aR,Cell.len]
omit [Inhabited α] in theorem RY(l:List α):l.flatMap vR=(az l).map toV:=by unfold az vR;rw[List.map_flatMap]
def Mh(E:α->α->Int)(b e ez:Nat)(l:List α)(H:Heap)(v:IV)(H':Heap):Prop:=v=.tuple []/\∃q:List α,q.Perm l/\q.Pairwise (λx y=>ltOf E y x=false)/\H'.n=H.n/\(∀x,x≠b->H'.get x=H.get x)/\H'.get b=some (.cells false e ez (az q))
def CG{ρ:Ren}(L:SlLaysF0.n6 P ρ)(F:∀x:α,(Cell.cs x).all PG=true)(aE:∀w,(isAgg (ρ.t 24)).run P w=.ok true w)(zE:∀w,(Go.sizeOf (ρ.t 24)).run P w=.ok (Cell.z α) w)(cf:α->α->Int)(hO:SWO (ltOf cf)){g b e ez lb:Nat}{ex:Bool}{l:List α}(b3:lo<=b)(hg:H.get b=some (.cells false e ez (az l)))(b4:l.length<4611686018427387904)(eg:∀args w,(callFunc g args).run P w=.ok (.enter g args) w)(a5:∀(x y:α)(H':Heap),∃a3,CallSim P g0 g [.agg (Cell.cs x),.agg (Cell.cs y)] H'.n H' (.int .i64 (cf x y)) a3):Qe P g0 (ρ.f 6) [.slice b 0 l.length lb ex,.fn g [] []] lo H (Mh cf b e ez l H):=by intro μ w ag hr ha;obtain⟨v1,cc,e1,b5,v2,cd,rfl,b6,rfl⟩:=ha;obtain⟨a,cap,rfl,Z,K⟩:=b5;obtain⟨l1,T,rfl,I,J⟩:=b6;have I:l1.toList=[]:=I;have J:T.toList=[]:=J;have I:l1=#[]:=Array.toList_eq_nil_iff.1 I;have J:T=#[]:=Array.toList_eq_nil_iff.1 J;subst I J;have a0:ag=#[.slice (some a) l.length cap,.func (.func g) #[] #[]]:=by{apply vA;rw[e1]};subst a0;have ba:∃c q z,μ b=.at c 0 q z/\q=ez/\(cap=0\/a=⟨c,0,none⟩):=by{unfold SlR at K;cases hb:μ b with|no=>rw[hb] at K;exact K.elim|dead=>have:=hr.ded b hb;rw[hg] at this;injection this with this;cases this|«at» c p q z=>rw[hb] at K;obtain⟨o,Q,a2⟩:=hr.obj b c p q z hb;rw[hg] at Q;injection Q with Q;subst Q;obtain⟨rfl,rfl,_⟩:=a2;exact⟨c,_,z,rfl,rfl,by simpa using K.1⟩};obtain⟨c,q,z,hb,rfl,a1⟩:=ba;by_cases ad:l=[];{subst ad;exact(AnyF.slices_SortFunc_none L (some a) cap _ w).mono λe' w' ⟨V,h2⟩=>by subst V h2;exact⟨.tuple [],H,.tuple #[],μ,⟨rfl,[],.refl _,.nil,rfl,λ_ _=>rfl,hg⟩,rfl,hr,Post.refl hr,⟨#[],Rr⟩⟩};have b7:0<l.length:=List.length_pos_iff.2 ad;have ha:a=⟨c,0,none⟩:=by{rcases a1 with h|h;{have V:=Z.1;have h2:=Z.2.1;omega};{exact h}};subst ha;have Y:∀l:List α,(az l).all PG=true:=λl=>by{unfold az;rw[List.all_flatMap,CZ];exactλx _=>F x};have hF:∀d:Array α,(flatK vR (Cell.z α) d).toList=(az d.toList).map toV:=λd=>by{rw[<-RY,<-I6 vR (Cell.z α) Lq Cell.pos]};have a9:∀d:Array α,VRs μ (az d.toList) (flatK vR (Cell.z α) d).toList:=λd=>(yu (Y _)).2 (hF d);obtain⟨o,Q,a2⟩:=hr.obj b c 0 q z hb;rw[hg] at Q;injection Q with Q;subst Q;obtain⟨_,_,O,hc,hz,b9,hv⟩:=a2;have bl:O.toList.take (az l).length=(flatK vR (Cell.z α) l.toArray).toList:=by{rw[hF];exact(yu (Y _)).1 hv};have a4:c<w.heap.size:=(Array.getElem?_eq_some_iff.1 hc).1;have hH:HoldsK vR (Cell.z α) w c 0 l.toArray:=by{intro j hj;have bw:j<(az l).length:=by{rw[ay];simpa using hj};have b8:j<O.size:=Om;refine⟨?_,?_⟩;{unfold World.cell?;simp only[hc,FC,kT,if_false,aX];have V:(O.toList.take (az l).length)[j]? =O[j]?:=by{rw[List.getElem?_take,if_pos bw,FJ]};rw[<-V,bl,FJ,C5 hj,getElem!_pos _ j hj];rfl};{unfold World.frozen?;simp only[hc];simp}};have hW:∀(d:Array α)(m:Nat)(os:Array Obj),d.size=l.length->Rel P g0 μ (H.put b (.cells false e q (az d.toList))).get (H.put b (.cells false e q (az d.toList))).n (sortWorldK vR (Cell.z α) w c 0 m d os)/\ Post lo μ H.get H.n w μ (H.put b (.cells false e q (az d.toList))).get (H.put b (.cells false e q (az d.toList))).n (sortWorldK vR (Cell.z α) w c 0 m d os):=by{intro d m os hd;obtain⟨T,p1⟩:=Yl (lo:=lo) hr hb b3 hg (a9 d) (by rw[ay,ay,vj,hd]) m;exact⟨T.grown os,p1.trans (Post.grown T os)⟩};have bd:CmpLays P g #[] vR (Cell.z α) cf c 0 l.toArray.size w:=by{intro m os dk bo x y;obtain⟨T,_⟩:=hW dk m os (by simpa using bo);obtain⟨a3,hs⟩:=a5 x y (H.put b (.cells false e q (az dk.toList)));have hx:∀x:α,VR μ (.agg (Cell.cs x)) (.agg (vR x).toArray):=λx=>⟨_,rfl,(yu (F x)).2 rfl⟩;refine(hs μ _ _ T ⟨_,_,rfl,hx x,_,_,rfl,hx y,rfl⟩).mono λe' w' ⟨v',cl,V,_,h3,h4⟩=>?_;have h4:v'=.int .i64 (cf x y):=h4;subst V h4;exact⟨rfl,Q4 h3⟩};have a6:∀x:α,∀v∈vR x,v.oneCell'=true:=by{intro x v hv;obtain⟨y,hy,rfl⟩:=List.mem_map.1 hv;have:=List.all_eq_true.1 (F x) y hy;cases y<;>first|(cases this;done)|rfl};have E:=AnyQ.slices_SortFunc L (Cell.z α) aE zE vR Lq a6 cf hO g #[] c 0 cap l.toArray w eg bd hH a4 (by simpa using b4);rw[Db] at E;refine E.mono λe' w' ⟨V,U,m,os,hp,hs,hw⟩=>?_;subst V hw;have hd:U.size=l.length:=by{simpa using hp.1};obtain⟨T,p1⟩:=hW U m os hd;refine⟨.tuple [],H.put b (.cells false e q (az U.toList)),.tuple #[],μ,⟨rfl,U.toList,?_,?_,rfl,λx hx=>by rw[aa,if_neg (Ne.symm hx)],by rw[aa,if_pos rfl]⟩,rfl,T,p1,⟨#[],Rr⟩⟩;{have:=hp.2.2;have e1:U.extract 0 l.length=U:=by{rw[<-hd];exact Array.extract_size};have e2:l.toArray.extract 0 l.length=l.toArray:=by{rw[<-Db];exact Array.extract_size};rw[e1,e2] at this;simpa using this};{rw[FN];intro i j hi hj bt;have:=hs i j (dp _) bt (by rw[<-hd,<-vj];exact hj);rw[getElem!_pos U i (by simpa using hi),getElem!_pos U j (by simpa using hj)] at this;simpa using this}
end
end
open Classical
def UT:IV->Bool|.int _ _=>true|.bool _=>true|.nilSlice=>true|.slice _ _ _ _ _=>true|_=>false
section
variable {P:Program}{g0 lo:Nat}
def jt{c:Code}{x y:IC}(h:bc P c=some (.seq x y)):∃a b,c=.seq a b/\bc P a=some x/\bc P b=some y:=by cases c<;>simp only[bc,eN,xj,eO,yZ,nG,reduceCtorEq,and_false,exists_false] at h;grind
def zK{c:Code}{l:List (Sg×List IOp)}(h:bc P c=some (.ops l)):∃id ops q,c=.region id ops q/\dG P ops q=some l:=by cases c<;>simp only[bc,eN,xj,eO,yZ,nG,reduceCtorEq,and_false,exists_false] at h;grind
def LQ{c:Code}{x:IC}{n:Nat}(h:bc P c=some (.block n x)):∃a,c=.block n a/\bc P a=some x:=by cases c<;>simp only[bc,eN,xj,eO,yZ,nG,reduceCtorEq,and_false,exists_false] at h;grind
def OF{c:Code}{x:IC}(h:bc P c=some (.loop x)):∃a,c=.loop a/\bc P a=some x:=by cases c<;>simp only[bc,eN,xj,eO,yZ,nG,reduceCtorEq,and_false,exists_false] at h;grind
end
open Classical
def CR(q:Nat->Nat):IV->IV|.slice b o n lb ex=>.slice (q b) o n lb ex|v=>v
def nmC(n:Nat):IV->Prop|.slice b _ _ _ _=>b<n|_=>True
def Nx{μ q:Mu}{E:Nat->Nat}{n:Nat}(hm:∀b,b<n->q b=μ (E b)\/q b=.dead):∀{v:IV}{v':Value},UT v=true->nmC n v->VR μ (CR E v) v'->VR q v v'|.int _ _,_,_,_,h=>h|.bool _,_,_,_,h=>h|.nilSlice,_,_,_,h=>h|.slice b o n lb ex,_,_,J,h=>by obtain⟨a,cap,e,F,I⟩:=h;refine⟨a,cap,e,F,?_⟩;unfold SlR at I⊢;rcases hm b J with e|e<;>grind
def oM{μ q:Mu}{I:Nat->Nat}{n:Nat}(hm:∀b,b<n->q b=μ (I b)\/q b=.dead):∀{cs:List IV}{l:List Value},cs.all UT=true->(∀c∈cs,nmC n c)->VRs μ (cs.map (CR I)) l->VRs q cs l|[],_,_,_,h=>h|c::cs,_,E,F,h=>by simp only[pP,bP] at E;obtain⟨y,ys,e,J,K⟩:=h;exact⟨y,ys,e,Nx hm E.1 (F c vh) J,oM hm E.2 (λc O=>F c (gB _ O)) K⟩
section
variable {μ μ1 μ':Mu}
def ED(μ μ1 μ':Mu):Prop:=∀b,μ b≠.no->μ' b=μ1 b\/μ' b=.dead
def LocR.swap(hs:ED μ μ1 μ'){b o:Nat}{q a:Addr}(h0:LocR μ b o q)(h:LocR μ1 b o a):LocR μ' b o a:=by have hn:μ b≠.no:=by{intro e;unfold LocR at h0;rw[e] at h0;exact h0};unfold LocR at h⊢;rcases hs b hn with e|e<;>grind
def SlR.swap(hs:ED μ μ1 μ'){b o c0 cap:Nat}{ex:Bool}{q a:Addr}(h0:SlR μ b o ex c0 q)(h:SlR μ1 b o ex cap a):SlR μ' b o ex cap a:=by have hn:μ b≠.no:=by{intro e;unfold SlR at h0;rw[e] at h0;exact h0};unfold SlR at h⊢;rcases hs b hn with e|e<;>grind
mutual
def VR.swap(hs:ED μ μ1 μ'):∀(x:IV)(Q v:Value),VR μ x Q->VR μ1 x v->VR μ' x v|.bool _,_,_,_,h=>h|.int _ _,_,_,_,h=>h|.str _,_,_,_,h=>h|.ptr _ _,_,_,h0,h=>by obtain⟨a,e,k⟩:=h;obtain⟨_,_,k0⟩:=h0;exact⟨a,e,k0.swap hs k⟩|.nilPtr,_,_,_,h=>h|.slice _ _ _ _ _,_,_,h0,h=>by obtain⟨a,c,e,k,l⟩:=h;obtain⟨_,_,_,_,K⟩:=h0;exact⟨a,c,e,k,K.swap hs l⟩|.nilSlice,_,_,_,h=>h|.map _,_,_,h0,h=>by obtain⟨a,e,k⟩:=h;obtain⟨_,_,k0⟩:=h0;exact⟨a,e,k0.swap hs k⟩|.nilMap,_,_,_,h=>h|.fn _ l r,_,_,h0,h=>by obtain⟨q,O,e,E,I⟩:=h;obtain⟨_,_,_,F,J⟩:=h0;exact⟨q,O,e,VRs.swap hs l _ _ F E,VRs.swap hs r _ _ J I⟩|.yield _,_,_,h0,h=>by obtain⟨a,e,k⟩:=h;obtain⟨_,_,k0⟩:=h0;exact⟨a,e,k0.swap hs k⟩|.nilFunc,_,_,_,h=>h|.iface _ x,_,_,h0,h=>by obtain⟨T,e,k⟩:=h;obtain⟨_,_,k0⟩:=h0;exact⟨T,e,VR.swap hs x _ _ k0 k⟩|.nilIface,_,_,_,h=>h|.agg l,_,_,h0,h=>by obtain⟨q,e,k⟩:=h;obtain⟨_,_,k0⟩:=h0;exact⟨q,e,VRs.swap hs l _ _ k0 k⟩|.tuple l,_,_,h0,h=>by obtain⟨q,e,k⟩:=h;obtain⟨_,_,k0⟩:=h0;exact⟨q,e,VRs.swap hs l _ _ k0 k⟩
def VRs.swap(hs:ED μ μ1 μ'):∀(x:List IV)(E v:List Value),VRs μ x E->VRs μ1 x v->VRs μ' x v|[],_,_,_,h=>h|x::xs,_,_,h0,h=>by obtain⟨y,ys,e,k,ks⟩:=h;obtain⟨_,_,_,k0,q⟩:=h0;exact⟨y,ys,e,VR.swap hs x _ _ k0 k,VRs.swap hs xs _ _ q ks⟩
end
def EsR.swap(hs:ED μ μ1 μ'):∀{q:List (IV×IV×Nat)}{F l:List MapEntry},EsR μ q F->EsR μ1 q l->EsR μ' q l|[],_,_,_,h=>h|(k,v,_)::_,_,_,h0,h=>by obtain⟨e,E,a,b,c,d,f⟩:=h;obtain⟨_,_,_,b0,c0,_,f0⟩:=h0;exact⟨e,E,a,VR.swap hs k _ _ b0 b,VR.swap hs v _ _ c0 c,d,EsR.swap hs f0 f⟩
def ObjR.swap{P:Program}(hs:ED μ μ1 μ'){o:IObj}{p p0 ez J z z0:Nat}{h h0:Option Obj}(k0:ObjR P μ o p0 J z0 h0)(k:ObjR P μ1 o p ez z h):ObjR P μ' o p ez z h:=by cases o with|cells ro e U cs=>cases ro;{obtain⟨a,b,q,c,d,F,f⟩:=k;obtain⟨_,_,_,_,_,_,f0⟩:=k0;exact⟨a,b,q,c,d,F,VRs.swap hs _ _ _ f0 f⟩};{obtain⟨a,q,F,V,b,c,f⟩:=k;obtain⟨_,_,_,_,_,_,f0⟩:=k0;exact⟨a,q,F,V,b,c,VRs.swap hs _ _ _ f0 f⟩}|map es E=>obtain⟨a,I,b,c⟩:=k;obtain⟨_,_,_,c0⟩:=k0;exact⟨a,I,b,EsR.swap hs c0 c⟩|loop st pend tm ps Q body df=>obtain⟨a,L,b,c,d,e,f,g,i,j⟩:=k;obtain⟨_,_,_,_,_,T,_,_,_,Y⟩:=k0;exact⟨a,L,b,c,d,VRs.swap hs _ _ _ T e,f,g,i,Y.swap hs j⟩|deferred=>exact k|taken=>exact k|iter m K seen O=>obtain⟨a,Z,b,c⟩:=k;obtain⟨_,_,_,c0⟩:=k0;exact⟨a,Z,b,VR.swap hs _ _ _ c0 c⟩|dead=>exact k
end
structure FixOk(lo:Nat)(H H1 Hs:Heap)(σ:Nat→Nat):Prop where
 hn:H.n≤Hs.n
 s0:∀b,b < H.n→σ b=b
 s1:∀b,H.n≤b→b < Hs.n→H.n≤σ b∧σ b < H1.n
 s2:∀b b',H.n≤b→b < Hs.n→H.n≤b'→b' < Hs.n→σ b=σ b'→b=b'
 low:∀b,b < lo→b < H.n→Hs.get b=H.get b
 old:∀b,b < H.n→(Hs.get b=H.get b∧H1.get b=H.get b)∨(lo≤b∧Hs.get b=some .dead)∨
  (lo≤b∧bn H.get b∧∃e z cs,Hs.get b=some (.cells false e z cs)∧H1.get b=some (.cells false e z (cs.map (CR σ)))∧cs.all UT=true∧∀c∈cs,nmC Hs.n c)
 new:∀b,H.n≤b→b < Hs.n→∃e z cs,Hs.get b=some (.cells false e z cs)∧H1.get (σ b)=some (.cells false e z (cs.map (CR σ)))∧cs.all UT=true∧∀c∈cs,nmC Hs.n c
section
variable {P:Program}{g0 lo:Nat}
def Y3{μ F:Mu}{H H1 K:Heap}{w w1:World}{U:Nat->Nat}(cd:g0<=lo)(hr:Rel P g0 μ H.get H.n w)(r1:Rel P g0 F H1.get H1.n w1)(Y:Post lo μ H.get H.n w F H1.get H1.n w1)(E:FixOk lo H H1 K U):∃a5,Rel P g0 a5 K.get K.n w1/\Post lo μ H.get H.n w a5 K.get K.n w1/\∀b,b<K.n->a5 b=F (U b)\/a5 b=.dead:=by let m2:Mu:=λb=>if b<K.n then(if K.get b=some .dead/\F (U b)≠.no then .dead else F (U b)) else .no;have b4:∀b,K.n<=b->m2 b=.no:=λb h=>by{grind};have b3:∀b,b<K.n->K.get b=some .dead->F (U b)≠.no->m2 b=.dead:=λb I q h3=>by{grind};have bd:∀b,b<K.n->¬(K.get b=some .dead/\F (U b)≠.no)->m2 b=F (U b):=λb I q=>by{grind};have ad:∀b,b<K.n->m2 b=F (U b)\/m2 b=.dead:=λb h=>by{grind};have b8:∀b,b<K.n->F (U b)=.no->m2 b=.no:=λb I q=>by{grind};have aE:∀b c p ez z,m2 b=.at c p ez z->b<K.n/\F (U b)=.at c p ez z/\K.get b≠some .dead:=by{grind};have ba:∀b b',b<K.n->b'<K.n->U b=U b'->b=b':=by{intro b b' I q he;rcases cE b H.n with c1|c1<;>rcases cE b' H.n with c2|c2;{rw[E.s0 b c1,E.s0 b' c2] at he;exact he};{have:=E.s0 b c1;have:=E.s1 b' c2 q;omega};{have:=E.s0 b' c2;have:=E.s1 b c1 I;omega};{exact E.s2 b b' c1 I c2 q he}};have bo:ED μ F m2:=λb J=>by{have Q:=hr.lt b J;have:=ad b (bU Q E.hn);rwa [E.s0 b Q] at this};have bl:∀b,b<K.n->bn K.get b->bn H1.get (U b):=by{rintro b J ⟨o,I,q⟩;rcases cE b H.n with c|c;{rw[E.s0 b c];rcases E.old b c with⟨O,V⟩|⟨_,O⟩|⟨_,_,e,z,cs,O,V,_⟩;{exact⟨o,by rw[V,<-O];exact I,q⟩};{rw[O] at I;injection I with I;subst I;cases q};{exact⟨_,V,rfl⟩}};{obtain⟨e,z,cs,O,V,_⟩:=E.new b c J;exact⟨_,V,rfl⟩}};have b6:μ.le m2:=λb J=>by{have Q:=hr.lt b J;rcases bo b J with e|e;{rw[e];exact Y.le b J};{exact .inr e}};refine⟨m2,⟨?_,?_,?_,?_,?_⟩,⟨b6,E.hn,?_,?_,?_,?_,?_,Y.size,Y.frame,Y.os,Y.tape,Y.output,Y.drawn⟩,ad⟩;{grind};{intro b b' c p ez z p' b9 z' J bt ho;obtain⟨I,q,_⟩:=aE _ _ _ _ _ J;obtain⟨h3,h4,_⟩:=aE _ _ _ _ _ bt;exact ba b b' I h3 (r1.inj _ _ _ _ _ _ _ _ _ q h4 (bl b I ho))};{intro b c p ez z J;obtain⟨I,q,h3⟩:=aE _ _ _ _ _ J;obtain⟨o1,g1,k1⟩:=r1.obj _ c p ez z q;rcases cE b H.n with cc|cc;{have e0:=E.s0 b cc;rw[e0] at g1 q;rcases E.old b cc with⟨O,V⟩|⟨_,O⟩|⟨_,_,e,z',cs,O,V,a3,a4⟩;{rw[V] at g1;refine⟨o1,by rw[O];exact g1,?_⟩;have b7:μ b≠.no:=λh=>by{rw[Y.old b cc h] at q;cases q};obtain⟨c0,p0,ag,z0,bw⟩:∃c0 p0 ag z0,μ b=.at c0 p0 ag z0:=by{cases hm:μ b with|no=>exact absurd hm b7|dead=>have:=hr.ded b hm;rw[g1] at this;injection this with this;subst this;exact k1.elim|«at» c0 p0 ag z0=>exact⟨_,_,_,_,rfl⟩};obtain⟨o0,T,k0⟩:=hr.obj b _ _ _ _ bw;rw[g1] at T;injection T with T;subst T;exact k0.swap bo k1};{exact absurd O h3};{rw[V] at g1;injection g1 with g1;subst g1;obtain⟨q1,q2,a6,q3,q4,q5,q6⟩:=k1;rw[aR] at q5 q6;exact⟨_,O,q1,q2,a6,q3,q4,q5,oM ad a3 a4 q6⟩}};{obtain⟨e,z',cs,O,V,a3,a4⟩:=E.new b cc I;rw[V] at g1;injection g1 with g1;subst g1;obtain⟨q1,q2,a6,q3,q4,q5,q6⟩:=k1;rw[aR] at q5 q6;exact⟨_,O,q1,q2,a6,q3,q4,q5,oM ad a3 a4 q6⟩}};{intro i hi;have b5:=hr.glob i hi;have Q:=hr.lt i (by grind);have I:=r1.glob i hi;have e0:=E.s0 i Q;rcases ad i (bU Q E.hn) with e|e;{rw[e,e0];exact I};{have hd:K.get i=some .dead:=by{grind};rw[E.low i Om Q] at hd;obtain⟨o,g,k⟩:=hr.obj i _ _ _ _ b5;rw[hd] at g;injection g with g;subst g;exact k.elim}};{intro b J;have Q:b<K.n:=Ir λh=>by{rw[b4 b h] at J;cases J};by_cases q:K.get b=some .dead/\F (U b)≠.no;{exact q.1};{rw[bd b Q q] at J;have hd:=r1.ded _ J;rcases cE b H.n with cc|cc;{rw[E.s0 b cc] at hd;rcases E.old b cc with⟨O,V⟩|⟨_,O⟩|⟨_,_,e,z',cs,O,V,_⟩<;>grind};{obtain⟨e,z',cs,O,V,_⟩:=E.new b cc Q;grind}}};{intro b J h;exact b8 b (bU J E.hn) (by rw[E.s0 b J];exact Y.old b J h)};{intro b J Z;have hl:=Y.low b J Z;have hg:=E.low b J Z;refine⟨?_,hg⟩;have a9:=bU Z E.hn;by_cases q:K.get b=some .dead/\F (U b)≠.no;{rw[b3 b a9 q.1 q.2];have h3:=q.2;rw[E.s0 b Z,hl.1] at h3;cases hm:μ b with|no=>exact absurd hm h3|dead=>rfl|«at» c0 p0 ag z0=>obtain⟨o0,T,k0⟩:=hr.obj b _ _ _ _ hm;rw[<-hg,q.1] at T;injection T with T;subst T;exact k0.elim};{rw[bd b a9 q,E.s0 b Z];exact hl.1}};{rintro b J ⟨o,I,q⟩;rcases E.old b J with⟨O,_⟩|⟨_,O⟩|⟨_,a0,_⟩;{exact⟨o,by rw[<-O];exact I,q⟩};{rw[O] at I;injection I with I;subst I;cases q};{exact a0}};{intro b c p ez z J e;obtain⟨I,q,_⟩:=aE _ _ _ _ _ e;exact Y.new _ c p ez z (E.s1 b J I).1 q};{intro b I q;have:=E.s1 b I q;have h3:=Y.full _ this.1 this.2;grind}
def Wn{f:FuncId}{fn:IFn}(E:am P f=some fn){args:List IV}{H Hs:Heap}{v:List IV}(a0:g0<=lo){NC:Prop}(bd:∀(μ:Mu)(w:World)(q:Array Value),Rel P g0 μ H.get H.n w->VRs μ args q.toList->NC)(O:NC->∀I c,P.funcs[f]? =some I->I.body=some c->bc P c=some fn.body->NItem P g0 lo (.code c) none ⟨args++cY (fn.ntmps - args.length),[]⟩ H λo H'=>∃e J,o=.ex e J/\(∀id,e≠.jmp (.exit id))/\J.marks=[]/\ ∃σ,aH H' J.tm fn.results=some [.agg (v.map (CR σ))]/\v.all UT=true/\(∀c∈v,nmC Hs.n c)/\FixOk lo H H' Hs σ):CallSim P g0 f args lo H (.agg v) Hs:=by unfold am at E;cases V:P.funcs[f]? with|none=>rw[V] at E;cases E|some I=>rw[V] at E;simp only at E;split at E;{cases E};{cases hb:I.body with|none=>rw[hb] at E;cases E|some c=>rw[hb] at E;simp only at E;cases F:I.results.toList.mapM (Az P) with|none=>rw[F] at E;cases E|some b5=>cases Q:bc P c with|none=>rw[F,Q] at E;cases E|some ic=>rw[F,Q] at E;injection E with E;subst E;intro μ w q hr ha cs;have hs:=O (bd μ w q hr ha) I c V hb Q;have ht:VRs μ (args++cY (I.ntmps - args.length)) (q++Array.replicate (I.ntmps - q.size) undef).toList:=by{have hl:args.length=q.size:=by{have:=ha.length;simpa using this};rw[hl,C1,Array.toList_replicate];exact ha.append (qj _)};obtain⟨e,b4,H1,b3,w1,t1,ad,⟨e',J,ag,he,ba,σ,hv,bo,bl,aE⟩,a1,a2,a3,a4,a5⟩:=hs μ w _ none [] hr ht rfl rfl f [] cs;injection ag with q1 q2;subst q1 q2;rw[ba] at a4;have a4:ad=[]:=a4;subst a4;have K:Frame.enter P f q .normal=bL f none (q++Array.replicate (I.ntmps - q.size) undef) [] [.code c]:=by{simp[Frame.enter,bL,V,hb]};have a9:∃todo,Steps P (lone (Frame.enter P f q .normal) cs w) (lone (Sv f t1 [] todo) cs w1):=by{rw[K];cases e with|normal=>exact⟨[],Steps.trans a5 (.one (wS (.inl rfl)))⟩|jmp j=>cases j with|exit id=>exact absurd rfl (he id)|ret=>obtain⟨pre,b1,_⟩:=a5;exact⟨_,Steps.trans b1 (.one (wS (.inr ⟨_,rfl⟩)))⟩};obtain⟨todo,bw⟩:=a9;obtain⟨v',Z,U⟩:=vd a1 a3 F hv;have U:VR b3 (.agg (v.map (CR σ))) v':=U;obtain⟨m2,Y,T,bt⟩:=Y3 a0 hr a1 a2 aE;refine⟨.returned v',w1,Sv f t1 [] todo,⟨v',m2,rfl,Y,T,?_⟩,bw,rfl,rfl,rfl,rfl,I,V,Z⟩;obtain⟨l',e',a6⟩:=U;exact⟨l',e',oM bt bo bl a6⟩}
noncomputable def nV(P:Program)(g0:Nat)(f:FuncId)(C:List IV->Heap->Option (IV×Heap)):List IV->Nat->Heap->Option (IV×Heap):=λargs lo H=>match C args H with|some (v,H')=>if Keep lo H H'/\CallSim P g0 f args lo H v H' then some (v,H') else none|none=>none
def As{f:FuncId}{C:List IV->Heap->Option (IV×Heap)}{args:List IV}{H H':Heap}{v:IV}(q:C args H=some (v,H'))(E:Keep lo H H')(hs:CallSim P g0 f args lo H v H'):nV P g0 f C args lo H=some (v,H'):=by simp_all[nV,if_pos]
def I7{f:FuncId}{C:List IV->Heap->Option (IV×Heap)}{args:List IV}{H H':Heap}{v:IV}(h:nV P g0 f C args lo H=some (v,H')):Keep lo H H'/\∀q,q<=lo->nV P g0 f C args q H=some (v,H'):=by unfold nV at h;split at h;{rename_i O H0 K;split at h;{rename_i E;injection h with h;injection h with I J;subst I J;exact⟨E.1,λq F=>As K (E.1.lower F) (E.2.lower F)⟩};{cases h}};{cases h}
def Of{f:FuncId}{C:List IV->Heap->Option (IV×Heap)}{args:List IV}{H H':Heap}{v:IV}(h:nV P g0 f C args lo H=some (v,H')):CallSim P g0 f args lo H v H':=by grind[nV]
end
end Go.Iso
