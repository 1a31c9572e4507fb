/-
  rules of runs over ranges, slices and lists.
-/
import Derived.Test.YtibkoahppjkakaaGreatDoorIsoP6
import Derived.IntWalk
import Derived.Shelf.SlSortCmp.NoneTotal
set_option linter.unusedSimpArgs false
set_option linter.unusedVariables false
set_option maxRecDepth 100000
set_option linter.defProp false
namespace Go.Iso
section
variable {E:Env}{lo:Nat}{rd:Option Nat}{fr:Fr}{H:Heap}{Q:Out->Heap->Prop}
def MU:Option Jmp->Ex|none=>.normal|some j=>.jmp j
def Vz:MU none=.normal:=rfl
def Vy{j:Jmp}:MU (some j)=.jmp j:=rfl
def Ri(l lo:Nat)(marks:List Nat)(fr:Fr)(Q:Out->Heap->Prop)(u:Heap)(ob:Option IObj):Prop:=match ob with|some (.loop st pend tm F q body A)=>st≠.busy/\lo<=l/\Q (.ex (MU pend) {fr with marks:=marks++fr.marks}) (u.put l (.loop .exhausted pend tm F q body A))|_=>False
def Y7(l lo:Nat)(marks:List Nat)(fr:Fr)(Q:Out->Heap->Prop):Out->Heap->Prop:=λo q=>match o with|.val _=>Ri l lo marks fr Q q (q.get l)|_=>False
def adL(E:Env)(lo:Nat)(u:List Nat)(q body:IC)(fr:Fr)(Q:Out->Heap->Prop)(g:IV)(e:Nat×List Nat×Heap):Prop:=W E lo (.apply g [.yield e.2.2.n]) (e.2.2.new (.loop .ready none fr.tm u q body e.1)) (Y7 e.2.2.n lo e.2.1 fr Q)
def Y6{l:Nat}{marks:List Nat}{v:IV}:Y7 l lo marks fr Q (.val v) H=Ri l lo marks fr Q H (H.get l):=rfl
def Y5{l:Nat}{marks:List Nat}{st:LoopState}{pend:Option Jmp}{tm:List IV}{A:List Nat}{q body:IC}{u:Nat}:Ri l lo marks fr Q H (some (.loop st pend tm A q body u))=(st≠.busy/\lo<=l/\Q (.ex (MU pend) {fr with marks:=marks++fr.marks}) (H.put l (.loop .exhausted pend tm A q body u))):=rfl
def Z4{f:IA}{Y:List Nat}{A body:IC}{g:IV}{e:Nat×List Nat×Heap}(hg:f.eval E.g0 fr.tm=some g)(Z:jL rd H=some e):W E lo (.code (.rfn f Y A body) rd fr) H Q=adL E lo Y A body fr Q g e:=by obtain⟨df,marks,H1⟩:=e;refine propext ⟨?_,?_⟩;{rintro⟨n,o,H',h,hq⟩;cases n with|zero=>cases h|succ n=>rw[run] at h;simp only[hg,Z] at h;cases T:run E n (.apply g [.yield H1.n]) lo (H1.new (.loop .ready none fr.tm Y A body df)) with|none=>rw[T] at h;cases h|some p=>rw[T] at h;obtain⟨o1,I⟩:=p;refine⟨n,o1,I,T,?_⟩;cases o1 with|ex e fr=>cases h|val v=>simp only at h;show Ri _ _ _ _ _ _ _;cases K:I.get H1.n with|none=>rw[K] at h;cases h|some ob=>rw[K] at h;cases ob with|loop st pend tm O u q J=>(simp only at h;split at h;{cases h};{rename_i hn;refine⟨λe=>hn (.inl e),Nat.le_of_not_lt λe=>hn (.inr e),?_⟩;cases pend with|none=>injection h with h;injection h with U V;subst U V;exact hq|some j=>injection h with h;injection h with U V;subst U V;exact hq})|_=>cases h};{intro h;refine abO hg Z (h.mono λo I h=>?_);cases o with|ex e fr=>exact h.elim|val v=>have F:Ri H1.n lo marks fr Q I (I.get H1.n):=h;cases K:I.get H1.n with|none=>rw[K] at F;exact F.elim|some ob=>rw[K] at F;cases ob with|loop st pend tm O u q J=>exact⟨v,st,pend,tm,O,u,q,J,rfl,rfl,F.1,F.2.1,by cases pend<;>exact F.2.2⟩|_=>exact F.elim}
def Z5{f:IA}{A:List Nat}{q body:IC}:W E lo (.code (.rfn f A q body) none fr) H Q=np (f.eval E.g0 fr.tm) λg=>W E lo (.apply g [.yield (H.n+1)]) ((H.new .deferred).new (.loop .ready none fr.tm A q body H.n)) (Y7 (H.n+1) lo [H.n] fr Q):=by cases u:f.eval E.g0 fr.tm with|none=>(refine propext ⟨?_,λh=>h.elim⟩;rintro⟨n,o,H',h,F⟩;cases n with|zero=>cases h|succ n=>rw[run] at h;simp only[u] at h;cases h)|some g=>exact Z4 u (e:=(H.n,[H.n],H.new .deferred)) rfl
def DS(l:Nat)(Q:Out->Heap->Prop)(e:Ex)(H:Heap)(ob:Option IObj):Prop:=match ob with|some (.loop _ _ tm A q body u)=>(match e with|.normal=>Q (.val (.bool true)) (H.put l (.loop .ready none tm A q body u))|.jmp j=>Q (.val (.bool false)) (H.put l (.loop .done (some j) tm A q body u)))|_=>False
def Ql(l:Nat)(Q:Out->Heap->Prop):Out->Heap->Prop:=λo H=>match o with|.ex e _=>DS l Q e H (H.get l)|_=>False
def Bl(E:Env)(lo l:Nat)(body:IC)(Q:Out->Heap->Prop)(fr:Fr)(H:Heap)(ob:Option IObj):Prop:=match ob with|some (.loop .ready pend tm F u q A)=>W E lo (.code body (some l) fr) (H.put l (.loop .busy pend tm F u q A)) (Ql l Q)|_=>False
def K9(E:Env)(lo l:Nat)(body:IC)(Q:Out->Heap->Prop):Out->Heap->Prop:=λo H=>match o with|.ex .normal fr=>Bl E lo l body Q fr H (H.get l)|_=>False
def PT(E:Env)(lo l:Nat)(args:List IV)(Q:Out->Heap->Prop)(H:Heap)(ob:Option IObj):Prop:=match ob with|some (.loop _ _ tm u q body _)=>args.length=u.length/\lo<=l/\W E lo (.code q (some l) ⟨gD tm u args,[]⟩) H (K9 E lo l body Q)|_=>False
def UR{l:Nat}{e:Ex}:Ql l Q (.ex e fr) H=DS l Q e H (H.get l):=rfl
def UP{l:Nat}{st:LoopState}{pend:Option Jmp}{tm:List IV}{A:List Nat}{q body:IC}{u:Nat}:DS l Q .normal H (some (.loop st pend tm A q body u))=Q (.val (.bool true)) (H.put l (.loop .ready none tm A q body u)):=rfl
def UQ{l:Nat}{j:Jmp}{st:LoopState}{pend:Option Jmp}{tm:List IV}{A:List Nat}{q body:IC}{u:Nat}:DS l Q (.jmp j) H (some (.loop st pend tm A q body u))=Q (.val (.bool false)) (H.put l (.loop .done (some j) tm A q body u)):=rfl
def Rp{l:Nat}{body:IC}:K9 E lo l body Q (.ex .normal fr) H=Bl E lo l body Q fr H (H.get l):=rfl
def Rn{l:Nat}{body q:IC}{pend:Option Jmp}{tm:List IV}{F:List Nat}{u:IC}{A:Nat}:Bl E lo l body Q fr H (some (.loop .ready pend tm F u q A))=W E lo (.code body (some l) fr) (H.put l (.loop .busy pend tm F u q A)) (Ql l Q):=rfl
def PS{l:Nat}{args:List IV}{st:LoopState}{pend:Option Jmp}{tm:List IV}{u:List Nat}{q body:IC}{A:Nat}:PT E lo l args Q H (some (.loop st pend tm u q body A))=(args.length=u.length/\lo<=l/\W E lo (.code q (some l) ⟨gD tm u args,[]⟩) H (K9 E lo l body Q)):=rfl
def Dc{l:Nat}{args:List IV}:W E lo (.apply (.yield l) args) H Q=PT E lo l args Q H (H.get l):=by refine propext ⟨?_,?_⟩;{rintro⟨n,o,H',h,hq⟩;cases n with|zero=>cases h|succ n=>rw[run] at h;(try simp only at h);cases hg:H.get l with|none=>rw[hg] at h;cases h|some ob=>rw[hg] at h;cases ob with|loop st pend tm ps ad body df=>simp only at h;split at h;{rename_i hl;refine⟨hl.1,hl.2,?_⟩;cases h1:run E n (.code ad (some l) ⟨gD tm ps args,[]⟩) lo H with|none=>rw[h1] at h;cases h|some p=>rw[h1] at h;obtain⟨o1,H1⟩:=p;refine⟨n,o1,H1,h1,?_⟩;cases o1 with|val v=>cases h|ex e fr=>cases e with|jmp j=>cases h|normal=>simp only at h;show Bl _ _ _ _ _ _ _ _;simp only[kh] at h;cases Z:H1.get l with|none=>rw[Z] at h;cases h|some K=>rw[Z] at h;cases K with|loop U A a1 a0 F u aE=>(cases U with|ready=>(simp only at h;cases h2:run E n (.code body (some l) fr) lo (H1.put l (.loop .busy A a1 a0 F u aE)) with|none=>rw[h2] at h;cases h|some p=>rw[h2] at h;obtain⟨o3,V⟩:=p;refine⟨n,o3,V,h2,?_⟩;cases o3 with|val v=>cases h|ex e fr3=>simp only[Dz] at h;show DS _ _ _ _ _;cases J:V.get l with|none=>rw[J] at h;cases h|some O=>rw[J] at h;cases O with|loop a4 T KB a3 ap I a2=>(cases e with|normal=>injection h with h;injection h with h3 h4;subst h3 h4;exact hq|jmp j=>injection h with h;injection h with h3 h4;subst h3 h4;exact hq)|_=>cases h)|_=>cases h)|_=>cases h};{cases h}|_=>cases h};{intro h;cases hg:H.get l with|none=>rw[hg] at h;exact h.elim|some ob=>rw[hg] at h;cases ob with|loop st pend tm ps ad body df=>(obtain⟨h1,h2,h3⟩:=h;refine Wt hg h1 h2 (h3.mono λo H1 h=>?_);cases o with|val v=>exact h.elim|ex e fr=>cases e with|jmp j=>exact h.elim|normal=>have Y:Bl E lo l body Q fr H1 (H1.get l):=h;cases Z:H1.get l with|none=>rw[Z] at Y;exact Y.elim|some K=>rw[Z] at Y;cases K with|loop U A a1 a0 F u aE=>(cases U with|ready=>(refine⟨fr,_,rfl,by simp only[kh,Z],W.mono Y λo V h=>?_⟩;cases o with|val v=>exact h.elim|ex e fr3=>have q:DS l Q e V (V.get l):=h;cases J:V.get l with|none=>rw[J] at q;exact q.elim|some O=>rw[J] at q;cases O with|loop a4 T KB a3 ap I a2=>(cases e with|normal=>exact⟨_,_,(_,_),rfl,by simp only[Dz,J];rfl,q⟩|jmp j=>exact⟨_,_,(_,_),rfl,by simp only[Dz,J];rfl,q⟩)|_=>exact q.elim)|_=>exact Y.elim)|_=>exact Y.elim)|_=>exact h.elim}
def aa8(I:Nat->Fr->Heap->Prop)(k:Nat)(Q:Out->Heap->Prop):Out->Heap->Prop:=λo H=>match o with|.ex .normal fr=>∃q,q<k/\I q fr H|o=>Q o H
def aA{c:IC}(I:Nat->Fr->Heap->Prop)(h:∀k fr H,I k fr H->∀L:Out->Heap->Prop,(∀q fr H,q<k->I q fr H->L (.ex .normal fr) H)->(∀j fr H,L (.ex (.jmp j) fr) H=Q (.ex (.jmp j) fr) H)->W E lo (.code c rd fr) H L):∀(k:Nat){fr:Fr}{H:Heap},I k fr H->W E lo (.code (.loop c) rd fr) H Q:=by intro k;induction k using Nat.strongRecOn with|ind k U=>intro fr H O;rw[pc];refine(h k fr H O (aa8 I k Q) (λq fr H J K=>⟨q,J,K⟩) (λj fr H=>rfl)).mono λo H' u=>?_;cases o with|val v=>exact u|ex e F=>cases e with|jmp j=>exact u|normal=>obtain⟨q,T,A⟩:=u;exact U q T A
end
def af6{a b:Nat}(h:b<a):(a=b)=False:=by simp;omega
def af5{a b:Nat}(h:a<b):(a=b)=False:=by simp;omega
def cLe{a b:Nat}(h:a<=b):(a<=b)=True:=by simp[h]
def af4{a b:Nat}(h:b<a):(a<=b)=False:=by simp;omega
def cLt{a b:Nat}(h:a<b):(a<b)=True:=by simp[h]
def af3{a b:Nat}(h:b<=a):(a<b)=False:=by simp;omega
def iLe{a b:Int}(h:a<=b):(a<=b)=True:=by simp[h]
def afH{a b:Int}(h:b<a):(a<=b)=False:=by simp;omega
def iLt{a b:Int}(h:a<b):(a<b)=True:=by simp[h]
def afG{a b:Int}(h:b<=a):(a<b)=False:=by simp;omega
def iGe{a b:Int}(h:a>=b):(a>=b)=True:=by simp;omega
def afJ{a b:Int}(h:a<b):(a>=b)=False:=by simp;omega
def iGt{a b:Int}(h:a>b):(a>b)=True:=by simp;omega
def afI{a b:Int}(h:a<=b):(a>b)=False:=by simp;omega
def afL{a b:Int}(h:a=b):(a==b)=true:=by simp[h]
def abm{a b:Int}(h:a<b\/b<a):(a==b)=false:=by simp;omega
def afK{a b:Int}(h:a<b\/b<a):(a !=b)=true:=by simp;omega
def abl{a b:Int}(h:a=b):(a !=b)=false:=by simp[h]
def aaI{a:Int}(h: -9223372036854775808<=a/\a<=9223372036854775807):IntKind.i64.wrap a=a:=IntWalk.i64_in a Om
def wU8{a:Int}(h:0<=a/\a<=255):IntKind.u8.wrap a=a:=IntWalk.u8_in a h
def Mm{l:List IV}:(IV.agg l).cells=l:=rfl
def Ml{k:IntKind}{n:Int}:(IV.int k n).cells=[.int k n]:=rfl
def J5{b:Bool}:(IV.bool b).cells=[.bool b]:=rfl
def Mi{s:List UInt8}:(IV.str s).cells=[.str s]:=rfl
def Mj{b o:Nat}:(IV.ptr b o).cells=[.ptr b o]:=rfl
def DC:IV.nilPtr.cells=[.nilPtr]:=rfl
def Hu{b o n c:Nat}{ex:Bool}:(IV.slice b o n c ex).cells=[.slice b o n c ex]:=rfl
def zd:IV.nilSlice.cells=[.nilSlice]:=rfl
def Mk{b:Nat}:(IV.map b).cells=[.map b]:=rfl
def DD:IV.nilMap.cells=[.nilMap]:=rfl
def Pv{f:FuncId}{a b:List IV}:(IV.fn f a b).cells=[.fn f a b]:=rfl
def Ht{b:Nat}:(IV.yield b).cells=[.yield b]:=rfl
def C3:IV.nilFunc.cells=[.nilFunc]:=rfl
def Hv{t:TypeId}{v:IV}:(IV.iface t v).cells=[.iface t v]:=rfl
def ze:IV.nilIface.cells=[.nilIface]:=rfl
def BT{k:IntKind}{n:Int}:(IV.int k n).one=true:=rfl
def xh{b:Bool}:(IV.bool b).one=true:=rfl
def RH{s:List UInt8}:(IV.str s).one=true:=rfl
def RI{b o:Nat}:(IV.ptr b o).one=true:=rfl
def IP:IV.nilPtr.one=true:=rfl
def Lq{b o n c:Nat}{ex:Bool}:(IV.slice b o n c ex).one=true:=rfl
def Dr:IV.nilSlice.one=true:=rfl
def RJ{b:Nat}:(IV.map b).one=true:=rfl
def IQ:IV.nilMap.one=true:=rfl
def VC{f:FuncId}{a b:List IV}:(IV.fn f a b).one=true:=rfl
def Lo{b:Nat}:(IV.yield b).one=true:=rfl
def GN:IV.nilFunc.one=true:=rfl
def Lr{t:TypeId}{v:IV}:(IV.iface t v).one=true:=rfl
def Ds:IV.nilIface.one=true:=rfl
def Rt(ob:IObj)(o n:Nat):Option (List IV):=match ob with|.cells _ _ _ cs=>if o+n<=cs.length then some ((cs.drop o).take n) else none|_=>none
def Vv{q:Bool}{e ez:Nat}{cs:List IV}{o n:Nat}:Rt (.cells q e ez cs) o n=if o+n<=cs.length then some ((cs.drop o).take n) else none:=rfl
def Rs{H:Heap}{ob:IObj}{b o n:Nat}:(H.new ob).read b o n=if H.n=b then Rt ob o n else H.read b o n:=by unfold Heap.read;rw[ah];by_cases h:H.n=b;{simp only[h,if_true];cases ob<;>rfl};{simp[h]}
def Rq{H:Heap}{ob:IObj}{b' b o n:Nat}:(H.put b' ob).read b o n=if b'=b then Rt ob o n else H.read b o n:=by unfold Heap.read;rw[aa];by_cases h:b'=b;{simp only[h,if_true];cases ob<;>rfl};{simp[h]}
def af{H:Heap}{q:Bool}{e ez:Nat}{cs:List IV}{b:Nat}(h:H.get b=some (.cells q e ez cs))(o n:Nat):H.read b o n=if o+n<=cs.length then some ((cs.drop o).take n) else none:=by unfold Heap.read;rw[h]
def MP{H H':Heap}{b:Nat}(h:H'.get b=H.get b)(o n:Nat):H'.read b o n=H.read b o n:=by unfold Heap.read;rw[h]
def Keep.read{lo:Nat}{H H':Heap}(k:Keep lo H H')(b o n:Nat)(q:b<lo)(u:b<H.n):H'.read b o n=H.read b o n:=MP (k.2 b q u) o n
inductive SV where
 | nil
 | sl (b o n c:Nat) (ex:Bool)
 deriving Inhabited
def SV.iv:SV->IV|.nil=>.nilSlice|.sl b o n c ex=>.slice b o n c ex
def SV.blk:SV->Nat|.nil=>0|.sl b _ _ _ _=>b
def SV.off:SV->Nat|.nil=>0|.sl _ o _ _ _=>o
def SV.tight:SV->Prop|.nil=>True|.sl _ _ n c ex=>c=n/\ex=true
def lP(v:SV):v.iv.one=true:=by cases v<;>rfl
def Kk(v:SV):v.iv.cells=[v.iv]:=by cases v<;>rfl
def Fc:SV.nil.iv=.nilSlice:=rfl
def kV{b o n c:Nat}{ex:Bool}:(SV.sl b o n c ex).iv=.slice b o n c ex:=rfl
class Cell (α:Type) where
 z:Nat
 cs:α→List IV
 len:∀a,(cs a).length=z
 one:∀a,(cs a).all IV.one=true
 pos:0 < z
instance:Cell SV where
 z:=1
 cs v:=[v.iv]
 len _:=rfl
 one v:=by simp[lP]
 pos:=by omega
theorem fq(v:SV):Cell.cs v=[v.iv]:=rfl
def du:Cell.z SV=1:=rfl
def lQ{b o n c:Nat}{ex:Bool}:(SV.sl b o n c ex).blk=b:=rfl
def xK{b o n c:Nat}{ex:Bool}:(SV.sl b o n c ex).off=o:=rfl
section
variable {α:Type}[Cell α]
def aw(l:List α):List IV:=l.flatMap Cell.cs
def SL:aw ([]:List α)=[]:=rfl
theorem bC(a:α)(l:List α):aw (a::l)=Cell.cs a++aw l:=rfl
theorem gJ(a b:List α):aw (a++b)=aw a++aw b:=by simp[aw]
def Jt(a:α):aw [a]=Cell.cs a:=by simp[aw]
def ax(l:List α):(aw l).length=l.length*Cell.z α:=by induction l with|nil=>simp[aw]|cons p l q=>rw[bC,bz,q,Cell.len,bW,gE];omega
def kM(l:List α):(aw l).all IV.one=true:=by induction l with|nil=>rfl|cons p l q=>rw[bC,List.all_append,q,Cell.one];rfl
theorem si(l:List α)(k:Nat):(aw l).drop (k*Cell.z α)=aw (l.drop k):=by induction l generalizing k with|nil=>simp[aw]|cons p l q=>cases k with|zero=>simp|succ k=>rw[bC,List.drop_succ_cons,gE,Nat.add_comm,<-Cell.len p,List.drop_length_add_append,Cell.len,q]
theorem ER(l:List α)(k:Nat):(aw l).take (k*Cell.z α)=aw (l.take k):=by induction l generalizing k with|nil=>simp[aw]|cons p l q=>cases k with|zero=>simp[aw]|succ k=>rw[bC,GE,bC,gE,Nat.add_comm,<-Cell.len p,List.take_length_add_append,Cell.len,q]
def V7(l:List α)(i:Nat)(h:i<l.length):((aw l).drop (i*Cell.z α)).take (Cell.z α)=Cell.cs l[i]:=by grind[si,List.drop_eq_getElem_cons,bC,Cell.len,List.take_left]
def eI{H:Heap}{b o n a m:Nat}{cs:List IV}(h:H.read b o n=some cs)(A:a+m<=n):H.read b (o+a) m=some ((cs.drop a).take m):=by unfold Heap.read at h⊢;cases q:H.get b with|none=>rw[q] at h;cases h|some ob=>rw[q] at h;cases ob with|cells E e ez u=>simp only at h⊢;split at h;{injection h with h;rw[iP,<-h,List.drop_take,List.take_take,qi,show min m (n - a)=m from by omega]};{cases h}|_=>cases h
def Sl(H:Heap)(v:SV)(l:List α):Prop:=match v with|.nil=>l=[]|.sl b o n c _=>n=l.length/\n<=c/\(l≠[]->b<H.n/\H.read b o (l.length*Cell.z α)=some (aw l))
def Sl.keep{H H':Heap}{v:SV}{l:List α}(h:Sl H v l)(k:Keep H.n H H'):Sl H' v l:=by cases v with|nil=>exact h|sl b o n c ex=>exact⟨h.1,h.2.1,λq=>⟨bX (h.2.2 q).1 k.1,(k.read b o _ (h.2.2 q).1 (h.2.2 q).1).trans (h.2.2 q).2⟩⟩
def Sl.same{H H':Heap}{v:SV}{l:List α}(h:Sl H v l)(hn:H.n<=H'.n)(u:l≠[]->H'.get v.blk=H.get v.blk):Sl H' v l:=by cases v with|nil=>exact h|sl b o n c ex=>exact⟨h.1,h.2.1,λq=>⟨bX (h.2.2 q).1 hn,(MP (u q) o _).trans (h.2.2 q).2⟩⟩
def Sl.blk_lt{H:Heap}{v:SV}{l:List α}(h:Sl H v l)(q:l≠[]):v.blk<H.n:=by cases v with|nil=>exact absurd h q|sl b o n c ex=>exact(h.2.2 q).1
def Sl.blk_lt'{H:Heap}{v:SV}{l:List α}(h:Sl H v l){i:Nat}(q:i<l.length):v.blk<H.n:=h.blk_lt (by grind)
def Sl.empty{H:Heap}:Sl H .nil ([]:List α):=rfl
def Sl.ln{H:Heap}{v:SV}{l:List α}(h:Sl H v l)(lo:Nat)(H':Heap):ev1 .lenSl [v.iv] lo H'=some (.int .i64 l.length,H'):=by cases v with|nil=>have h:l=[]:=h;subst h;rfl|sl b o n c ex=>rw[<-h.1];rfl
def Sl.lenI{H:Heap}{v:SV}{l:List α}(h:Sl H v l):mG v.iv=some l.length:=by cases v with|nil=>have h:l=[]:=h;subst h;rfl|sl b o n c ex=>rw[<-h.1];rfl
def Sl.srcI{H:Heap}{v:SV}{l:List α}(h:Sl H v l){z:Nat}(u:Cell.z α=z):ja H z l.length v.iv=some (aw l):=by subst u;cases v with|nil=>have h:l=[]:=h;subst h;rfl|sl b o n c ex=>show(if l.length=0 then some [] else H.read b o (l.length*Cell.z α))=_;by_cases q:l=[];{subst q;rfl};{rw[if_neg (by grind)];exact(h.2.2 q).2}
def Sl.idx{H:Heap}{v:SV}{l:List α}(h:Sl H v l)(z:Nat)(x:Int)(lo:Nat)(H':Heap)(h0:0<=x)(q:x<l.length):ev1 (.idxSl z) [v.iv,.int .i64 x] lo H'=some (.ptr v.blk (v.off+x.toNat*z),H'):=by cases v with|nil=>have h:l=[]:=h;subst h;simp at q;omega|sl b o n c ex=>have hn:=h.1;simp only[ev1,SV.iv,SV.blk,SV.off];rw[if_pos ⟨h0,Om⟩]
def Sl.read{H:Heap}{v:SV}{l:List α}(h:Sl H v l){z:Nat}(A:Cell.z α=z)(i:Nat)(q:i<l.length):H.read v.blk (v.off+i*z) z=some (Cell.cs l[i]):=by subst A;have u:l≠[]:=by{grind};cases v with|nil=>exact absurd h u|sl b o n c ex=>have:=eI (a:=i*Cell.z α) (m:=Cell.z α) (h.2.2 u).2 (by rw[<-gE];exact pr _ q);rw[V7 l i q] at this;exact this
def Sl.part{H:Heap}{b o n c:Nat}{ex:Bool}{l:List α}(h:Sl H (.sl b o n c ex) l){z:Nat}(F:Cell.z α=z){a m c':Nat}{ex':Bool}(hm:a+m<=l.length)(E:m<=c'):Sl H (.sl b (o+a*z) m c' ex') ((l.drop a).take m):=by subst F;have u:((l.drop a).take m).length=m:=by{rw[cX,nQ];omega};refine⟨u.symm,E,λA=>?_⟩;have q:l≠[]:=by{intro e;rw[e] at A;simp at A};refine⟨(h.2.2 q).1,?_⟩;have:=eI (a:=a*Cell.z α) (m:=m*Cell.z α) (h.2.2 q).2 (by rw[<-td];exact pr _ hm);grind[si,ER]
def Iw(n:Nat)(a:α):nN n (Cell.cs a)=aw (List.replicate n a):=by induction n with|zero=>rfl|succ n q=>rw[nN,q,GD,bC]
def Js(l:List α)(i:Nat)(a:α)(h:i<l.length):az (aw l) (i*Cell.z α) (Cell.cs a)=aw (l.set i a):=by have q:i*Cell.z α+Cell.z α<=(aw l).length:=by{rw[ax,<-gE];exact pr _ h};rw[dw _ _ _ (by rw[Cell.len];exact q),ER,Cell.len,<-gE,si,List.set_eq_take_append_cons_drop,if_pos h];rw[gJ,bC,cD]
def cv(tm:List IV)(n:Nat)(h:tm.length=n):tm=(List.range n).map λi=>tm.getD i UN:=by subst h;apply lz<;>grind
def Own(H:Heap)(b e cap:Nat)(l:List α):Prop:=l.length<=cap/\b<H.n/\∃r,H.get b=some (.cells false e (Cell.z α) (aw l++r))/\r.length=(cap - l.length)*Cell.z α
def Own.sl{H:Heap}{b e cap:Nat}{l:List α}(h:Own H b e cap l)(ex:Bool):Sl H (.sl b 0 l.length cap ex) l:=by obtain⟨q,u,r,A,E⟩:=h;refine⟨rfl,q,λ_=>⟨u,?_⟩⟩;rw[af A,bG,if_pos (by rw[bz,ax];omega),qh,<-ax,List.take_left]
def Own.same{H H':Heap}{b e cap:Nat}{l:List α}(h:Own H b e cap l)(hn:H.n<=H'.n)(F:H'.get b=H.get b):Own H' b e cap l:=by obtain⟨q,u,r,A,E⟩:=h;exact⟨q,bX u hn,r,F.trans A,E⟩
def Own.keep{H H':Heap}{b e cap:Nat}{l:List α}(h:Own H b e cap l)(k:Keep H.n H H'):Own H' b e cap l:=h.same k.1 (k.2 b h.2.1 h.2.1)
def Own.full{H:Heap}{b e:Nat}{l:List α}(h:Own H b e l.length l):H.get b=some (.cells false e (Cell.z α) (aw l)):=by obtain⟨q,u,r,A,E⟩:=h;grind
def bV{H:Heap}{b e:Nat}{l:List α}(q:b<H.n){z:Nat}(E:Cell.z α=z){cs:List IV}(A:H.get b=some (.cells false e z cs))(u:cs=aw l):Own H b e l.length l:=by subst E u;exact⟨an _,q,[],by rw[A,gV],by simp⟩
def Own.mksl{H:Heap}{e n:Nat}{z:Nat}(q:Cell.z α=z)(a:α):Own (H.new (.cells false e z (nN n (Cell.cs a)))) H.n e n (List.replicate n a):=by subst q;refine⟨by simp,by rw[ac];omega,[],by rw[ah,if_pos rfl,gV,Iw],by simp⟩
def xL{H:Heap}{e n:Nat}{z:Nat}(u:Cell.z α=z){cs:List IV}(q:cs.length=n*z):Own (H.new (.cells false e z cs)) H.n e n ([]:List α):=by subst u;exact⟨by simp,by rw[ac];omega,cs,by rw[ah,if_pos rfl];rfl,by simp[q]⟩
def Own.set{H:Heap}{b e cap:Nat}{l:List α}(h:Own H b e cap l){z:Nat}(K:Cell.z α=z)(i:Nat)(u:i<l.length)(a:α)(lo:Nat)(q:lo<=b):∃cs,H.write lo b (i*z) (Cell.cs a)=some (H.put b (.cells false e z cs))/\Own (H.put b (.cells false e z cs)) b e cap (l.set i a):=by subst K;obtain⟨A,E,r,F,I⟩:=h;have J:=ax l;have O:i*Cell.z α+Cell.z α<=l.length*Cell.z α:=by{rw[<-gE];exact pr _ u};refine⟨az (aw l++r) (i*Cell.z α) (Cell.cs a),?_,?_⟩;{unfold Heap.write;rw[F];simp only;rw[if_pos ⟨q,by rw[Cell.len,bz];omega,Cell.one a⟩]};{refine⟨by simp[A],E,r,?_,by simp[I]⟩;rw[aa,if_pos rfl,<-Js l i a u,dw _ _ _ (by rw[Cell.len,bz];omega),dw _ _ _ (by rw[Cell.len];omega),Cell.len];grind}
def Own.push{H:Heap}{b e cap:Nat}{l m:List α}(h:Own H b e cap l){z:Nat}(I:Cell.z α=z)(O:l.length+m.length<=cap)(lo:Nat)(F:lo<=b):∃cs,H.write lo b (l.length*z) (aw m)=some (H.put b (.cells false e z cs))/\Own (H.put b (.cells false e z cs)) b e cap (l++m):=by subst I;obtain⟨J,E,r,K,A⟩:=h;have u:=ax l;have q:=ax m;have T:(aw m).length<=r.length:=by{rw[q,A];exact pr _ Om};refine⟨az (aw l++r) (l.length*Cell.z α) (aw m),?_,?_⟩;{simp_all[Heap.write,if_pos,bz,kM]};{refine⟨by simp;omega,E,r.drop (aw m).length,?_,?_⟩;{rw[aa,if_pos rfl,dw _ _ _ (by grind),gJ,<-u,List.take_left,List.drop_length_add_append]};{rw[nQ,A,q,bz,<-Nat.sub_mul];congr 1;omega}}
end
section
variable {α:Type}[Cell α]
theorem Keep.newPut{H:Heap}{o o':IObj}:Keep H.n H ((H.new o).put H.n o'):=(Keep.new _ _).trans (.put _ _ (an _))
def eQ{H:Heap}{v:SV}{l:List α}(A:Sl H v l){z:Nat}(K:Cell.z α=z)(e lo:Nat)(zs:List IV)(F:zs.length=z)(u:lo<=H.n):∃q,ev1 (.copy z) [.slice H.n 0 l.length l.length true,v.iv] lo (H.new (.cells false e z (nN l.length zs)))=some (.int .i64 l.length,q)/\q.n=H.n+1/\Keep H.n H q/\Own q H.n e l.length l:=by subst K;have E:=A.keep (H':=H.new (.cells false e (Cell.z α) (nN l.length zs))) (Keep.new _ _);have I:oT (.slice H.n 0 l.length l.length true)=some l.length:=rfl;by_cases h0:l=[];{subst h0;refine⟨H.new (.cells false e (Cell.z α) []),?_,ac _ _,Keep.new _ _,bV (l:=[]) (cs:=[]) (by rw[ac];omega) rfl (by rw[ah,if_pos rfl]) rfl⟩;simp only[ev1,I,A.lenI];rfl};{have J:0<l.length:=List.length_pos_iff.2 h0;refine⟨(H.new (.cells false e (Cell.z α) (nN l.length zs))).put H.n (.cells false e (Cell.z α) (aw l)),?_,by rw[ae,ac],Keep.newPut,bV (by rw[ae,ac];omega) rfl (by rw[aa,if_pos rfl]) rfl⟩;simp only[ev1,I,A.lenI];rw[Nat.min_self,iN,E.srcI rfl];simp only[bH,Heap.write];rw[ah,if_pos rfl];simp only;have O:(nN l.length zs).length=(aw l).length:=by{rw[dE,F,ax]};rw[if_pos ⟨u,Om,kM l⟩,dw _ _ _ Om];grind}
def Own.put{H:Heap}{b e:Nat}{l:List α}(h:Own H b e l.length l){z:Nat}(u:Cell.z α=z)(i:Nat)(q:i<l.length)(a:α):Own (H.put b (.cells false e z (az (aw l) (i*z) (Cell.cs a)))) b e l.length (l.set i a):=by subst u;rw[Js l i a q];have:=bV (H:=H.put b (.cells false e (Cell.z α) (aw (l.set i a)))) (l:=l.set i a) (b:=b) (e:=e) h.2.1 rfl (by rw[aa,if_pos rfl]) rfl;grind
def Ts{H:Heap}{b e n:Nat}{ex:Bool}{d l:List α}{v:SV}(u:Own H b e n d)(J:d.length=n)(A:Sl H v l){z:Nat}(Z:Cell.z α=z)(lo:Nat)(U:l.length<=n)(Y:lo<=b):∃q,ev1 (.copy z) [.slice b 0 n n ex,v.iv] lo H=some (.int .i64 l.length,q)/\q.n=H.n/\(∀x,x≠b->q.get x=H.get x)/\Own q b e n (l++d.drop l.length):=by subst Z J;have E:oT (.slice b 0 d.length d.length ex)=some d.length:=rfl;have K:=u.full;by_cases h0:l=[];{subst h0;refine⟨H,?_,rfl,λ_ _=>rfl,by simpa using u⟩;simp only[ev1,E,A.lenI];rw[if_pos (by simp)];rfl};{have I:0<l.length:=List.length_pos_iff.2 h0;have T:=ax l;have O:=ax d;have V:(aw l).length<=(aw d).length:=by{simp_all[pr]};refine⟨H.put b (.cells false e (Cell.z α) (aw (l++d.drop l.length))),?_,ae _ _ _,λx hx=>by rw[aa,if_neg (Ne.symm hx)],?_⟩;{simp only[ev1,E,A.lenI];rw[uA U,iN,A.srcI rfl];simp only[bH,Heap.write,K];simp_all[if_pos,kM,dw,uy,kz,bG,si,gJ]};{have F:(l++d.drop l.length).length=d.length:=by{rw[bz,nQ];omega};have:=bV (H:=H.put b (.cells false e (Cell.z α) (aw (l++d.drop l.length)))) (l:=l++d.drop l.length) (b:=b) (e:=e) u.2.1 rfl (by rw[aa,if_pos rfl]) rfl;grind}}
def gK{H:Heap}{b e cap:Nat}{ex:Bool}{l m:List α}{v:SV}(I:Own H b e cap l)(E:Sl H v m){z:Nat}(F:Cell.z α=z)(bytes lo:Nat)(K:l.length+m.length<=cap)(u:lo<=b):∃q,ev1 (.append e z bytes) [.slice b 0 l.length cap ex,v.iv] lo H=some (.slice b 0 (l.length+m.length) cap ex,q)/\q.n=H.n/\(∀b',b'≠b->q.get b'=H.get b')/\Own q b e cap (l++m):=by simp only[ev1,E.lenI,E.srcI F,bH,cQ];rw[if_neg (by rw[kM];decide)];by_cases h0:m=[];{grind};{have A:0<m.length:=List.length_pos_iff.2 h0;obtain⟨cs,O,J⟩:=I.push F K lo u;simp_all[ae,aa,if_neg,Ne.symm,if_pos,bG]}
def rq{H:Heap}{b e n:Nat}{l m:List α}{v:SV}(O:Own H b e n l)(hn:n=l.length)(F:Sl H v m){z:Nat}(T:Cell.z α=z)(bytes lo:Nat)(hm:m≠[])(J:(l.length+m.length)*(bytes+1)<=2^40)(A:lo<=b):∃q,ev1 (.append e z bytes) [.slice b 0 l.length n false,v.iv] lo H=some (.slice H.n 0 (l.length+m.length) (l.length+m.length) false,q)/\q.n=H.n+1/\(∀b',b'≠b->b'<H.n->q.get b'=H.get b')/\Own q H.n e (l.length+m.length) (l++m):=by subst hn T;have E:0<m.length:=List.length_pos_iff.2 hm;have K:=O.full;simp only[ev1,F.lenI,F.srcI rfl,bH,cQ];rw[if_neg (by rw[kM];decide)];rw[iN,iN,if_pos J,K];simp only[gW,if_false];have u:=ax l;rw[if_pos ⟨trivial,trivial,Cell.pos,trivial,A,Om⟩];refine⟨_,rfl,by rw[ac,ae],λb' I U=>by rw[ah,if_neg (by rw[ae];omega),aa,if_neg (Ne.symm I)],?_⟩;rw[<-u,yk,<-gJ,<-bz];exact bV (by rw[ac,ae];omega) rfl (by rw[ah,if_pos (ae _ _ _)]) rfl
def tL{H:Heap}{e:Nat}{m:List α}{v:SV}(A:Sl H v m){z:Nat}(F:Cell.z α=z)(bytes lo:Nat)(hm:m≠[])(E:m.length*(bytes+1)<=2^40):∃q,ev1 (.append e z bytes) [.nilSlice,v.iv] lo H=some (.slice H.n 0 m.length m.length false,q)/\q.n=H.n+1/\Keep H.n H q/\Own q H.n e m.length m:=by subst F;have u:0<m.length:=List.length_pos_iff.2 hm;simp only[ev1,A.lenI,A.srcI rfl,bH,cQ];rw[if_neg (by rw[kM];decide)];rw[iN,if_pos E];exact⟨_,rfl,ac _ _,Keep.new _ _,bV (by rw[ac];omega) rfl (by rw[ah,if_pos rfl]) rfl⟩
def m7{H:Heap}{b o n e:Nat}{l m:List α}{v:SV}(hs:Sl H (.sl b o l.length n true) l)(E:Sl H v m){z:Nat}(I:Cell.z α=z)(bytes lo:Nat)(hm:m≠[])(hn:n<l.length+m.length)(F:(l.length+m.length)*(bytes+1)<=2^40):∃u,ev1 (.append e z bytes) [.slice b o l.length n true,v.iv] lo H=some (.slice H.n 0 (l.length+m.length) (l.length+m.length) false,u)/\u.n=H.n+1/\Keep H.n H u/\Own u H.n e (l.length+m.length) (l++m):=by subst I;have A:0<m.length:=List.length_pos_iff.2 hm;have q:=hs.srcI rfl;simp only[SV.iv] at q;simp only[ev1,E.lenI,E.srcI rfl,bH,cQ];rw[if_neg (by rw[kM];decide)];rw[iN,iN,if_pos F,if_pos trivial,q];refine⟨_,rfl,ac _ _,Keep.new _ _,?_⟩;rw[<-gJ,<-bz];exact bV (by rw[ac];omega) rfl (by rw[ah,if_pos rfl]) rfl
end
section
variable {α:Type}[Cell α]
def Sl2(H:Heap)(v:SV)(ls:List (List α)):Prop:=∃vs:List SV,Sl H v vs/\vs.length=ls.length/\∀(i:Nat)(h:i<ls.length)(q:i<vs.length),Sl H vs[i] ls[i]
def Sl2.keep{H H':Heap}{v:SV}{ls:List (List α)}(h:Sl2 H v ls)(k:Keep H.n H H'):Sl2 H' v ls:=by obtain⟨vs,q,u,A⟩:=h;exact⟨vs,q.keep k,u,λi a b=>(A i a b).keep k⟩
def Sl2.ln{H:Heap}{v:SV}{ls:List (List α)}(h:Sl2 H v ls)(lo:Nat)(H':Heap):ev1 .lenSl [v.iv] lo H'=some (.int .i64 ls.length,H'):=by obtain⟨vs,q,u,A⟩:=h;rw[q.ln,u]
def Sl2.idx{H:Heap}{v:SV}{ls:List (List α)}(h:Sl2 H v ls)(z:Nat)(x:Int)(lo:Nat)(H':Heap)(h0:0<=x)(u:x<ls.length):ev1 (.idxSl z) [v.iv,.int .i64 x] lo H'=some (.ptr v.blk (v.off+x.toNat*z),H'):=by obtain⟨vs,g1,g2,q⟩:=h;exact g1.idx z x lo H' h0 Om
def Sl2.elem{H:Heap}{v:SV}{ls:List (List α)}(h:Sl2 H v ls)(i:Nat)(u:i<ls.length):∃w:SV,H.read v.blk (v.off+i*1) 1=some [w.iv]/\Sl H w ls[i]/\v.blk<H.n:=by obtain⟨vs,g1,g2,q⟩:=h;exact⟨vs[i]'Om,g1.read (α:=SV) rfl i Om,q i u Om,g1.blk_lt' (i:=i) Om⟩
def Sl2.nil{H:Heap}:Sl2 H .nil ([]:List (List α)):=⟨[],rfl,rfl,λi h=>by simp at h⟩
def Fresh(n0:Nat)(H:Heap)(e:Nat)(v:SV)(l:List α):Prop:=(v=.nil/\l=[])\/∃b,v=.sl b 0 l.length l.length true/\n0<=b/\Own H b e l.length l
def Fresh.sl{n0:Nat}{H:Heap}{e:Nat}{v:SV}{l:List α}(h:Fresh n0 H e v l):Sl H v l:=by rcases h with⟨rfl,rfl⟩|⟨b,rfl,u,q⟩;{exact Sl.empty};{exact q.sl true}
def Fresh.keep{n0:Nat}{H H':Heap}{e:Nat}{v:SV}{l:List α}(h:Fresh n0 H e v l)(k:Keep H.n H H'):Fresh n0 H' e v l:=by rcases h with⟨rfl,rfl⟩|⟨b,rfl,q,u⟩;{exact .inl ⟨rfl,rfl⟩};{exact .inr ⟨b,rfl,q,u.keep k⟩}
end
def Sl.cellsAt{α:Type}[Cell α]{H:Heap}{v:SV}{l:List α}(h:Sl H v l)(E:l≠[]):∃u e ez cs,H.get v.blk=some (.cells u e ez cs):=by cases v with|nil=>exact absurd h E|sl b o n c ex=>have q:=(h.2.2 E).2;unfold Heap.read at q;show ∃u e ez cs,H.get b=_;cases A:H.get b with|none=>rw[A] at q;cases q|some ob=>rw[A] at q;cases ob with|cells u e ez cs=>exact⟨_,_,_,_,rfl⟩|_=>cases q
def Sl.off{α:Type}[Cell α]{H:Heap}{v:SV}{l:List α}(h:Sl H v l)(u:l≠[]){x:Nat}{ob:IObj}(hx:H.get x=some ob)(A:∀q e ez cs,ob≠.cells q e ez cs):v.blk≠x:=by intro e;obtain⟨q,a,b,c,E⟩:=h.cellsAt u;grind
def bi{α:Type}:List (List α)->Nat|[]=>0|a::l=>if bi l=0/\a=[] then 0 else bi l+1
theorem jf{α:Type}:∀l:List (List α),bi l<=l.length|[]=>an _|a::l=>by have:=jf l;grind[bi,List.length_cons]
def iw{α:Type}:∀(l:List (List α))(i:Nat)(h:i<l.length),bi l<=i->l[i]=[]|[],_,h,_=>by simp at h|a::l,0,h,k=>by grind[bi]|a::l,i+1,h,k=>by have:bi l<=i:=by{grind[bi]};exact iw l i (by simpa using h) this
theorem mL{α:Type}:∀(l:List (List α))(n:Nat)(h:n<l.length),bi l=n+1->l[n]≠[]|[],_,h,_=>by simp at h|a::l,n,h,k=>by unfold bi at k;split at k;{omega};{rename_i hn;cases n with|zero=>simp only[List.getElem_cons_zero];exactλe=>hn ⟨Om,e⟩|succ n=>exact mL l n (by simpa using h) Om}
def pZ{α:Type}{l:List (List α)}{n:Nat}(hn:n<=l.length)(q:∀i (h:i<l.length),n<=i->l[i]=[])(u:∀m (h:m<l.length),n=m+1->l[m]≠[]):n=bi l:=by rcases Gz n (bi l) with h|h|h;{exfalso;have A:=jf l;exact mL l (bi l - 1) Om Om (q _ Om Om)};{exact h};{exfalso;exact u (n - 1) Om Om (iw l _ Om Om)}
section
variable {α:Type}
def jE(f:Nat->α)(a b n x:Nat):α:=if a<=x/\x<a+n then f (x+b - a) else if b<=x/\x<b+n then f (x+a - b) else f x
def oD(f:Nat->α)(a m b x:Nat):α:=if a<=x/\x<a+(b - m) then f (x+(m - a)) else if a+(b - m)<=x/\x<b then f (x - (b - m)) else f x
def KP(f:Nat->α)(a b x:Nat):jE f a b 0 x=f x:=by simp_all[jE,if_neg]
def KQ{f g:Nat->α}{a b n:Nat}(q:a+n<b)(u:∀x,g x=if x=b+n then jE f a b n (a+n) else if x=a+n then jE f a b n (b+n) else jE f a b n x)(x:Nat):g x=jE f a b (n+1) x:=by rw[u];unfold jE;grind
theorem Rg{f g:Nat->α}{m i j:Nat}(F:i<=m)(I:0<j)(E:j<i)(u:∀x,g x=jE f (m - i) m j x)(x:Nat):oD g (m - (i - j)) m (m+j) x=oD f (m - i) m (m+j) x:=by unfold oD;by_cases A:m - (i - j)<=x/\x<m - (i - j)+(m+j - m);{rw[if_pos A,u];unfold jE;by_cases q:m<=x+(m - (m - (i - j)))<;>grind};{rw[if_neg A];by_cases q:m - (i - j)+(m+j - m)<=x/\x<m+j;{rw[if_pos q,u];unfold jE;grind};{rw[if_neg q,u];unfold jE;grind}}
theorem Ol{f g:Nat->α}{m i j:Nat}(I:i<=m)(E:0<i)(F:i<j)(q:∀x,g x=jE f (m - i) (m+j - i) i x)(x:Nat):oD g (m - i) m (m+(j - i)) x=oD f (m - i) m (m+j) x:=by unfold oD;by_cases u:m - i<=x/\x<m - i+(m+(j - i) - m);{rw[if_pos u,q,iP];unfold jE;grind};{rw[if_neg u];by_cases A:m - i+(m+(j - i) - m)<=x/\x<m+(j - i);{rw[if_pos A,q];unfold jE;grind};{rw[if_neg A,q];unfold jE;grind}}
def Rf{f g:Nat->α}{m i:Nat}(u:i<=m)(q:∀x,g x=jE f (m - i) m i x)(x:Nat):g x=oD f (m - i) m (m+i) x:=by rw[q];unfold jE oD;grind
def Iu(f:Nat->α){a m b:Nat}(q:a<=m)(u:m<=b)(h:a=m\/m=b)(x:Nat):oD f a m b x=f x:=by unfold oD;grind
end
section
variable {α:Type}[Inhabited α]
def aP(l:List α)(x:Nat):α:=l.getD x default
theorem lg{l:List α}{x:Nat}(h:x<l.length):aP l x=l[x]:=by unfold aP;grind
def jD(l:List α)(i j:Nat):List α:=(l.set i (aP l j)).set j (aP l i)
def lE(l:List α)(i j:Nat):(jD l i j).length=l.length:=by simp[jD]
def KO{l:List α}{i j:Nat}(q:i<l.length)(u:j<l.length):(jD l i j).Perm l:=by grind[jD,lg,List.set_set_perm]
theorem jH{l:List α}{i j:Nat}(A:i<l.length)(E:j<l.length)(x:Nat):aP (jD l i j) x=if x=j then aP l i else if x=i then aP l j else aP l x:=by unfold jD;by_cases q:x=j;{subst q;rw[if_pos rfl,lg (by simpa using E)];simp};{rw[if_neg q];by_cases u:x=i;{subst u;rw[if_pos rfl,lg (by simpa using A)];rw[jT (Ne.symm q),nR]};simp_all[if_neg,aP,cR,List.getElem?_set_ne,Ne.symm]}
structure Mix(a b:Nat)(l l':List α):Prop where
 len:l'.length=l.length
 perm:l'.Perm l
 out:∀x,(x < a∨b≤x)→aP l' x=aP l x
 img:∀x,a≤x→x < b→∃y,a≤y∧y < b∧aP l' x=aP l y
theorem Mix.refl(a b:Nat)(l:List α):Mix a b l l:=⟨rfl,.refl _,λ_ _=>rfl,λx q u=>⟨x,q,u,rfl⟩⟩
def Mix.trans{a b:Nat}{l m n:List α}(h:Mix a b l m)(k:Mix a b m n):Mix a b l n:=by refine⟨k.len.trans h.len,k.perm.trans h.perm,λx hx=>(k.out x hx).trans (h.out x hx),λx q u=>?_⟩;obtain⟨y,A,E,F⟩:=k.img x q u;obtain⟨z,I,J,K⟩:=h.img y A E;grind
def Mix.wide{a b c d:Nat}{l m:List α}(h:Mix a b l m)(A:c<=a)(E:b<=d):Mix c d l m:=by refine⟨h.len,h.perm,λx hx=>h.out x Om,λx q u=>?_⟩;by_cases hx:a<=x/\x<b;{obtain⟨y,F,I,J⟩:=h.img x hx.1 hx.2;grind};{exact⟨x,q,u,h.out x Om⟩}
def Mix.swap{a b i j:Nat}{l:List α}(A:b<=l.length)(E:a<=i/\i<b)(F:a<=j/\j<b):Mix a b l (jD l i j):=by have q:i<l.length:=Om;have u:j<l.length:=Om;refine⟨lE _ _ _,KO q u,λx hx=>?_,λx I J=>?_⟩;{rw[jH q u,iN,iN]};{rw[jH q u];grind}
variable (lt:α->α->Prop)
def Srt(l:List α)(a b:Nat):Prop:=∀i j,a<=i->i<j->j<b->lt (aP l i) (aP l j)
def Srt.part{lt:α->α->Prop}{l:List α}{a b c d:Nat}(h:Srt lt l a b)(E:a<=c)(F:d<=b):Srt lt l c d:=λi j u q A=>h i j Om q Om
def Srt.out{lt:α->α->Prop}{l q:List α}{a b c d:Nat}(h:Srt lt l a b)(k:Mix c d l q)(F:b<=c\/d<=a):Srt lt q a b:=λi j u A E=>by rw[k.out i Om,k.out j Om];exact h i j u A E
def TU{lt:α->α->Prop}{l l1 l2:List α}{a m b:Nat}(F:Mix a m l l1)(u:Mix m b l1 l2)(I:Srt lt l1 a m)(J:Srt lt l2 m b)(K:∀x y,a<=x->x<m->m<=y->y<b->lt (aP l x) (aP l y)):Srt lt l2 a b:=by intro i j A q E;by_cases c1:j<m;{rw[u.out i Om,u.out j Om];exact I i j A q c1};{by_cases c2:m<=i;{exact J i j c2 q E};{rw[u.out i Om];obtain⟨x,O,T,U⟩:=F.img i A Om;obtain⟨y,V,Y,Z⟩:=u.img j Om E;rw[U,Z,F.out y Om];exact K x y O T V Y}}
def UW{lt ord:α->α->Prop}{l l1:List α}{a m b mid start q:Nat}(h1:a<=start)(h2:start<=mid)(h3:start<=m)(h4:mid<=q)(h5:m<=q)(h6:q<=b)(he:start+q=mid+m)(V:Srt lt l a m)(Y:Srt lt l m b)(E:∀i j,a<=i->i<m->m<=j->j<b->ord (aP l i) (aP l j))(pA:∀i j,a<=i->i<start->q<=j->j<b->lt (aP l i) (aP l j))(Z:∀i j,m<=i->i<q->start<=j->j<m->lt (aP l i) (aP l j))(T:∀x,aP l1 x=oD (aP l) start m q x):(Srt lt l1 a start/\Srt lt l1 start mid/\Srt lt l1 mid q/\Srt lt l1 q b)/\(∀i j,a<=i->i<start->start<=j->j<mid->ord (aP l1 i) (aP l1 j))/\(∀i j,mid<=i->i<q->q<=j->j<b->ord (aP l1 i) (aP l1 j))/\ ∀x y,a<=x->x<mid->mid<=y->y<b->lt (aP l1 x) (aP l1 y):=by have J:∀x,x<start->aP l1 x=aP l x:=λx hx=>by{rw[T];unfold oD;grind};have K:∀x,start<=x->x<mid->aP l1 x=aP l (x+(m - start)):=λx hx U=>by{rw[T];unfold oD;rw[iP]};have F:∀x,mid<=x->x<q->aP l1 x=aP l (x - (q - m)):=λx hx U=>by{rw[T];unfold oD;grind};have O:∀x,q<=x->aP l1 x=aP l x:=λx hx=>by{rw[T];unfold oD;grind};refine⟨⟨λi j q1 A u=>?_,λi j q1 A u=>?_,λi j q1 A u=>?_,λi j q1 A u=>?_⟩,λi j q1 A u I=>?_,λi j q1 A u I=>?_,λx y q1 A u I=>?_⟩;{rw[J i Om,J j u];exact V i j q1 A Om};{rw[K i q1 Om,K j Om u];exact Y _ _ Om Om Om};{rw[F i q1 Om,F j Om u];exact V _ _ Om Om Om};{rw[O i q1,O j Om];exact Y _ _ Om A u};{rw[J i A,K j u I];exact E _ _ q1 Om Om Om};{rw[F i q1 A,O j u];exact E _ _ Om Om Om I};{by_cases c1:x<start;{rw[J x c1];by_cases c2:y<q;{rw[F y u c2];exact V _ _ q1 Om Om};grind};{rw[K x Om A];by_cases c2:y<q;{rw[F y u c2];exact Z _ _ Om Om Om Om};{rw[O y Om];exact Y _ _ Om Om I}}}
def Hy{lt:α->α->Prop}{l:List α}(h:Srt lt l 0 l.length):l.Pairwise lt:=by rw[Eo];intro i j A u q;have:=h i j (dp _) q u;grind[lg]
def lm{lt:α->α->Prop}{l:List α}(h:l.Pairwise lt)(a b:Nat)(E:b<=l.length):Srt lt l a b:=by rw[Eo] at h;intro i j q u A;grind[lg]
end
theorem x8{α:Type}{lt:α->α->Prop}(q:∀a,¬lt a a)(F:∀a b c,lt a b->lt b c->lt a c):∀{l m:List α},l.Pairwise lt->m.Pairwise lt->(∀x,x∈l↔x∈m)->l=m|[],[],_,_,_=>rfl|[],b::m,_,_,h=>absurd ((h b).2 (by simp)) (by simp)|a::l,[],_,_,h=>absurd ((h a).1 (by simp)) (by simp)|a::l,b::m,E,hm,h=>by rw[List.pairwise_cons] at E hm;have A:a=b:=by{rcases List.mem_cons.1 ((h a).1 (by simp)) with e|e;{exact e};{rcases List.mem_cons.1 ((h b).2 (by simp)) with u|u;{exact u.symm};{exact absurd (F _ _ _ (E.1 b u) (hm.1 a e)) (q a)}}};subst A;congr 1;refine x8 q F E.2 hm.2 λx=>⟨λhx=>?_,λhx=>?_⟩<;>grind
def OG{f:Fp}:bF .none f=true:=by cases f<;>rfl
def Ew{f:Fp}:bF f .none=true:=by cases f<;>rfl
def OD{b o n b' o' q:Nat}:bF (.rd b o n) (.rd b' o' q)=true:=rfl
def OC{b o n b' o' q:Nat}:bF (.rd b o n) (.wr b' o' q)=ki b o n b' o' q:=rfl
def OB{b o n b' o' q:Nat}:bF (.wr b o n) (.rd b' o' q)=ki b o n b' o' q:=rfl
def OA{b o n b' o' q:Nat}:bF (.wr b o n) (.wr b' o' q)=ki b o n b' o' q:=rfl
def OF{b o n b':Nat}:bF (.rd b o n) (.wb b')=decide (b'≠b):=rfl
def OI{b o n b':Nat}:bF (.wb b') (.rd b o n)=decide (b'≠b):=rfl
def Lj{b o n b':Nat}:bF (.wr b o n) (.wb b')=decide (b'≠b):=rfl
def OH{b o n b':Nat}:bF (.wb b') (.wr b o n)=decide (b'≠b):=rfl
def OJ{b b':Nat}:bF (.wb b) (.wb b')=decide (b≠b'):=rfl
def bh{q:dm}{o:IOp}{xs:List IV}(h:gQ o xs=some .none):bq (some q) o xs=some (some ((o.idx,.none)::q)):=by simp_all[bq,nX,if_pos,yp,Ew]
section
variable {fc:dm}{dst:Option Nat}{args:List IA}{g:Option (Nat×Bool)}{amb:Bool}{idx mask:Nat}{xs:List IV}
def Lz{o:IOp}:bq none o xs=some none:=rfl
def IW:bq (some fc) ⟨dst,.move,args,g,amb,idx,mask⟩ xs=some (some ((idx,.none)::fc)):=bh rfl
def LA{op:BinOp}:bq (some fc) ⟨dst,.bin op,args,g,amb,idx,mask⟩ xs=some (some ((idx,.none)::fc)):=bh rfl
def OR{op:UnOp}:bq (some fc) ⟨dst,.un op,args,g,amb,idx,mask⟩ xs=some (some ((idx,.none)::fc)):=bh rfl
def IY{k:IntKind}:bq (some fc) ⟨dst,.conv k,args,g,amb,idx,mask⟩ xs=some (some ((idx,.none)::fc)):=bh rfl
def GP{z:Nat}:bq (some fc) ⟨dst,.idxSl z,args,g,amb,idx,mask⟩ xs=some (some ((idx,.none)::fc)):=bh rfl
def xj{z:Nat}:bq (some fc) ⟨dst,.fieldAddr z,args,g,amb,idx,mask⟩ xs=some (some ((idx,.none)::fc)):=bh rfl
def GQ{z:Nat}{n:Option Nat}:bq (some fc) ⟨dst,.field z n,args,g,amb,idx,mask⟩ xs=some (some ((idx,.none)::fc)):=bh rfl
def GO:bq (some fc) ⟨dst,.lenSl,args,g,amb,idx,mask⟩ xs=some (some ((idx,.none)::fc)):=bh rfl
def IU:bq (some fc) ⟨dst,.pick,args,g,amb,idx,mask⟩ xs=some (some ((idx,.none)::fc)):=bh rfl
def uJ{l z:Nat}:bq (some fc) ⟨dst,.idxArrAddr l z,args,g,amb,idx,mask⟩ xs=some (some ((idx,.none)::fc)):=bh rfl
end
def adE(m k:Nat):Nat.testBit m k=decide (m / 2^k%2=1):=Nat.testBit_eq_decide_div_mod_eq
section
variable {α:Type}[Cell α]
def Gr(n0:Nat)(H:Heap)(e:Nat)(v:SV)(l:List α):Prop:=(v=.nil/\l=[])\/∃b,v=.sl b 0 l.length l.length false/\n0<=b/\l≠[]/\Own H b e l.length l
def Gr.nil{n0:Nat}{H:Heap}{e:Nat}:Gr n0 H e .nil ([]:List α):=.inl ⟨rfl,rfl⟩
def Gr.sl{n0:Nat}{H:Heap}{e:Nat}{v:SV}{l:List α}(h:Gr n0 H e v l):Sl H v l:=by rcases h with⟨rfl,rfl⟩|⟨b,rfl,_,_,q⟩;{exact Sl.empty};{exact q.sl false}
def Gr.blk{n0:Nat}{H:Heap}{e:Nat}{v:SV}{l:List α}(h:Gr n0 H e v l)(u:l≠[]):H.get v.blk=some (.cells false e (Cell.z α) (aw l)):=by rcases h with⟨_,rfl⟩|⟨b,rfl,_,_,q⟩;{exact absurd rfl u};{exact q.full}
def Gr.lower{n0 n1:Nat}{H:Heap}{e:Nat}{v:SV}{l:List α}(h:Gr n0 H e v l)(hn:n1<=n0):Gr n1 H e v l:=by rcases h with h|⟨b,q,E,u,A⟩;{exact .inl h};{exact .inr ⟨b,q,Om,u,A⟩}
def Gr.keep{n0:Nat}{H H':Heap}{e:Nat}{v:SV}{l:List α}(h:Gr n0 H e v l)(k:Keep H.n H H'):Gr n0 H' e v l:=by rcases h with h|⟨b,q,u,A,E⟩;{exact .inl h};{exact .inr ⟨b,q,u,A,E.keep k⟩}
def KeepG(n0 e z:Nat)(H H':Heap):Prop:=H.n<=H'.n/\∀x,x<H.n->(x<n0\/∀cs,H.get x≠some (.cells false e z cs))->H'.get x=H.get x
def KeepG.refl(n0 e z:Nat)(H:Heap):KeepG n0 e z H H:=⟨an _,λ_ _ _=>rfl⟩
def KeepG.trans{n0 e z:Nat}{a b c:Heap}(h:KeepG n0 e z a b)(k:KeepG n0 e z b c):KeepG n0 e z a c:=by refine⟨eJ h.1 k.1,λx u A=>?_⟩;have q:=h.2 x u A;rw[<-q];exact k.2 x (bX u h.1) (by rw[q];exact A)
def KeepG.of{n0 e z:Nat}{H H':Heap}(k:Keep H.n H H'):KeepG n0 e z H H':=⟨k.1,λx h _=>k.2 x h h⟩
def KeepG.low{n0 e z:Nat}{H H':Heap}(k:KeepG n0 e z H H')(hn:n0<=H.n):Keep n0 H H':=⟨k.1,λx q u=>k.2 x u (.inl q)⟩
def KeepG.get{n0 e z x:Nat}{H H':Heap}{ob:IObj}(k:KeepG n0 e z H H')(hx:x<H.n)(u:H.get x=some ob)(q:∀cs,ob≠.cells false e z cs):H'.get x=some ob:=by rw[k.2 x hx (.inr λcs h=>q cs (by grind))];exact u
def Own.keepG{n0 e q z b cap:Nat}{H H':Heap}{l:List α}(h:Own H b e cap l)(k:KeepG n0 q z H H')(I:e≠q):Own H' b e cap l:=by obtain⟨A,u,r,E,F⟩:=h;refine Own.same ⟨A,u,r,E,F⟩ k.1 (k.2 b u (.inr λcs J=>?_));grind
def OwnS(n0:Nat)(H:Heap)(e:Nat)(v:SV)(l:List α):Prop:=(v=.nil/\l=[])\/∃b cap ex,v=.sl b 0 l.length cap ex/\n0<=b/\Own H b e cap l
def OwnS.sl{n0:Nat}{H:Heap}{e:Nat}{v:SV}{l:List α}(h:OwnS n0 H e v l):Sl H v l:=by rcases h with⟨rfl,rfl⟩|⟨b,cap,ex,rfl,_,h⟩;{exact Sl.empty};{exact h.sl ex}
def OwnS.keep{n0:Nat}{H H':Heap}{e:Nat}{v:SV}{l:List α}(h:OwnS n0 H e v l)(k:Keep H.n H H'):OwnS n0 H' e v l:=by rcases h with h|⟨b,cap,ex,q,u,A⟩;{exact .inl h};{exact .inr ⟨b,cap,ex,q,u,A.keep k⟩}
def OwnS.keepG{n0 n1 e u z:Nat}{H H':Heap}{v:SV}{l:List α}(h:OwnS n0 H e v l)(k:KeepG n1 u z H H')(q:e≠u):OwnS n0 H' e v l:=by rcases h with h|⟨b,cap,ex,A,E,F⟩;{exact .inl h};{exact .inr ⟨b,cap,ex,A,E,F.keepG k q⟩}
def Fresh.own{n0:Nat}{H:Heap}{e:Nat}{v:SV}{l:List α}(h:Fresh n0 H e v l):OwnS n0 H e v l:=by rcases h with h|⟨b,q,u,A⟩;{exact .inl h};{exact .inr ⟨b,l.length,true,q,u,A⟩}
def Gr.own{n0:Nat}{H:Heap}{e:Nat}{v:SV}{l:List α}(h:Gr n0 H e v l):OwnS n0 H e v l:=by rcases h with h|⟨b,q,u,_,A⟩;{exact .inl h};{exact .inr ⟨b,l.length,false,q,u,A⟩}
def Gr.push{n0:Nat}{H:Heap}{e:Nat}{v:SV}{l:List α}(h:Gr n0 H e v l){a:α}{u:SV}(T:Sl H u [a]){z:Nat}(I:Cell.z α=z)(bytes lo:Nat)(Y:lo<=n0)(hn:n0<=H.n)(O:(l.length+1)*(bytes+1)<=2^40):∃q w,ev1 (.append e z bytes) [v.iv,u.iv] lo H=some (SV.iv w,q)/\KeepG n0 e z H q/\Gr n0 q e w (l++[a]):=by rcases h with⟨rfl,rfl⟩|⟨b,rfl,Z,h3,K⟩;{obtain⟨q,E,U,F,J⟩:=tL (e:=e) T I bytes lo (by simp) (by simpa using O);exact⟨q,.sl H.n 0 1 1 false,E,KeepG.of F,.inr ⟨H.n,rfl,hn,by simp,J⟩⟩};{obtain⟨q,E,U,F,J⟩:=rq (n:=l.length) K rfl T I bytes lo (by simp) (by simpa using O) Om;refine⟨q,.sl H.n 0 (l.length+1) (l.length+1) false,E,⟨Om,λx V A=>F x ?_ V⟩,.inr ⟨H.n,by simp,hn,by simp,by grind⟩⟩;rintro rfl;rcases A with A|A;{omega};{exact A _ (by rw[K.full,I])}}
def oH{H:Heap}{e z:Nat}(q:Cell.z α=z)(a:α):Own (H.new (.cells false e z (Cell.cs a))) H.n e 1 [a]:=by have:=bV (H:=H.new (.cells false e z (Cell.cs a))) (b:=H.n) (e:=e) (l:=[a]) (by rw[ac];omega) q (by rw[ah,if_pos rfl]) (Jt a).symm;exact this
def Gr.pushNew{n0:Nat}{H:Heap}{e:Nat}{v:SV}{l:List α}(h:Gr n0 H e v l)(a:α){z:Nat}(A:Cell.z α=z)(bytes lo:Nat)(u:lo<=n0)(hn:n0<=H.n)(F:(l.length+1)*(bytes+1)<=2^40):∃q w,ev1 (.append e z bytes) [v.iv,.slice H.n 0 1 1 true] lo (H.new (.cells false e z (Cell.cs a)))=some (SV.iv w,q)/\KeepG n0 e z H q/\Gr n0 q e w (l++[a]):=by obtain⟨q,w,E,I,g1⟩:=(h.keep (.new _ (.cells false e z (Cell.cs a)))).push (a:=a) ((oH A a).sl true) A bytes lo u (by rw[ac];omega) F;exact⟨q,w,E,(KeepG.of (.new _ _)).trans I,g1⟩
end
def Dy{α:Type}(f:Nat->List α)(n:Nat):(List.range (n+1)).flatMap f=(List.range n).flatMap f++f n:=by rw[List.range_succ,GC];simp
end Go.Iso
section
namespace Go.Iso
def Qo:il []=.tuple []:=rfl
def Qn{v:IV}:il [v]=v:=rfl
def Qm{v w:IV}{l:List IV}:il (v::w::l)=.tuple (v::w::l):=rfl
def BAS:=ao @Z3 (ao @abP (ao @Z6 (ao @iC (ao @Wu (ao @X8 (ao @Z7 (ao @Kg (ao @Mr (ao @V5 (ao @V6 (ao @abQ (ao @ag9 (ao @SE (ao @SF (ao @abJ (ao @abK (ao @abI (ao @abL (ao @ZZ (ao @abo (ao @YS (ao @VA (ao @eq_self.{1} (ao @Nat.left_eq_add (ao @Nat.add_eq_left (ao @Nat.add_left_cancel_iff (ao @Nat.add_assoc (ao @PI (ao @NR (ao @NQ (ao @Uu (ao @Ut (ao @Zf (ao @Zg (ao @aa1 (ao @List.getD_cons_zero.{0} (ao @List.getD_cons_succ.{0} (ao @UU (ao @UV (ao @YT (ao @ZV (ao @ZU (ao @ZW (ao @Wl (ao @Wm (ao @YD (ao @Wv (ao @if_true.{1} (ao @if_false.{1} (ao @Option.map_some.{0,0} (ao @Option.map_none.{0,0} (ao @Option.bind_some.{0,0} (ao @Option.bind_none.{0,0} (ao @List.nil_append.{0} (ao @List.append_nil.{0} (ao @List.cons_append.{0} (ao @List.length_cons.{0} (ao @List.length_nil.{0} (ao @Nat.zero_add (ao @Y9 (ao @Za (ao @R7 (ao @UM (ao @beq_self_eq_true.{0} (ao @Bool.false_eq_true (ao @Bool.not_true (ao @Bool.not_false (ao @Option.getD_some.{0} (ao @Option.getD_none.{0} (ao @Mm (ao @Ml (ao @J5 (ao @Mi (ao @Mj (ao @DC (ao @Hu (ao @zd (ao @Mk (ao @DD (ao @Pv (ao @Ht (ao @C3 (ao @Hv (ao @ze (ao @ah (ao @ac (ao @aa (ao @ae (ao @List.drop_succ_cons.{0} (ao @List.drop_zero.{0} (ao @List.take_succ_cons.{0} (ao @List.take_zero.{0} (ao @Nat.add_zero (ao @Nat.le_refl (ao @Option.some.injEq.{0} (ao @and_true (ao @true_and (ao @and_false (ao @false_and (ao @BEq.rfl.{0} (ao @BT (ao @xh (ao @RH (ao @RI (ao @IP (ao @Lq (ao @Dr (ao @RJ (ao @IQ (ao @VC (ao @Lo (ao @GN (ao @Lr (ao @Ds (ao @List.all_cons.{0} (ao @List.all_nil.{0} (ao @Bool.and_self (ao @Bool.and_true (ao @Bool.true_and (ao @Nat.le_add_right (ao @Nat.add_sub_cancel (ao @bne_self_eq_false.{0} (ao @Bool.false_bne (ao @Bool.bne_false (ao @Bool.or_true (ao @Bool.true_or (ao @Int.toNat_natCast (ao @Option.isSome_some.{0} (ao @Z5 (ao @Y6 (ao @Y5 (ao @Dc (ao @PS (ao @Rp (ao @Rn (ao @UR (ao @UP (ao @UQ (ao @Vz (ao @Vy (ao @ne_eq.{1} (ao @not_false_eq_true (ao @af6 (ao @af5 (ao @cLe (ao @af4 (ao @cLt (ao @af3 (ao @iLe (ao @afH (ao @iLt (ao @afG (ao @iGe (ao @afJ (ao @iGt (ao @afI (ao @afL (ao @abm (ao @afK (ao @abl (ao @aaI (ao @wU8 (ao @decide_true (ao @decide_false (ao @Rs (ao @Rq (ao @Vv (ao @Kk (ao @lP (ao @Fc (ao @kV (ao @fq (ao @lQ (ao @xK (ao @Nat.zero_mul (ao @Bool.true_eq_false (ao @Bool.false_or (ao @Bool.or_false (ao @Bool.false_and (ao @Bool.and_false (ao @not_true_eq_false (ao @Nat.sub_zero (ao @List.getElem?_cons_zero.{0} (ao @List.getElem?_cons_succ.{0} (ao @bK.eq_1 (ao @bK.eq_2 (ao @IA.eval.eq_1 (ao @IA.eval.eq_2 (ao @IA.eval.eq_3 (ao @Fr.put.eq_1 (ao @Fr.put.eq_2 (ao @dg.eq_1 (ao @dg.eq_2 (ao @cn.eq_1 (ao @cn.eq_2 (ao @aD.eq_1 (ao @aD.eq_2 (ao @jF.eq_1 (ao @jF.eq_2 (ao @ak.eq_1 (ao @ak.eq_2 (ao @List.set.eq_1.{0} (ao @List.set.eq_2.{0} (ao @List.set.eq_3.{0} (ao @List.drop.eq_1.{0} (ao @List.drop.eq_2.{0} (ao @List.drop.eq_3.{0} (ao @List.take.eq_1.{0} (ao @List.take.eq_2.{0} (ao @List.take.eq_3.{0} (ao @List.append.eq_1.{0} (ao @List.append.eq_2.{0} (ao @az.eq_1 (ao @az.eq_2 (ao @az.eq_3 (ao @az.eq_4 (ao @eO.eq_1 (ao @eO.eq_2 (ao @bq.eq_1 (ao @bq.eq_2 (ao @Qo (ao @Qn (ao @Qm (ao @OG (ao @Ew (ao @OD (ao @OC (ao @OB (ao @OA (ao @OF (ao @OI (ao @Lj (ao @OH (ao @OJ (@adE)))))))))))))))))))))))))))))))))))))))))))))))))))))))))))))))))))))))))))))))))))))))))))))))))))))))))))))))))))))))))))))))))))))))))))))))))))))))))))))))))))))))))))))))))))))))))))))))))))))))))))))))))))))))))))))))))))))))))))
def ai:=ao @Lz (ao @IW (ao @LA (ao @OR (ao @IY (ao @GP (ao @xj (ao @GQ (ao @GO (ao @IU (@uJ))))))))))
end Go.Iso
end
namespace Go.Iso
def abM{b o n b' o' q:Nat}(h:b<b'):ki b o n b' o' q=true:=by grind[ki]
def abN{b o n b' o' q:Nat}(h:b'<b):ki b o n b' o' q=true:=by grind[ki]
def adS:Fp->Bool|.none|.rd _ _ _=>true|_=>false
def qs:dm->Bool|[]=>true|p::q=>adS p.2&&qs q
def OQ:qs []=true:=rfl
def Lu{i:Nat}{q:dm}:qs ((i,.none)::q)=qs q:=rfl
def RS{i b o n:Nat}{q:dm}:qs ((i,.rd b o n)::q)=qs q:=rfl
def RR{i b o n:Nat}{q:dm}:qs ((i,.wr b o n)::q)=false:=rfl
def EB{b o n mask:Nat}:∀{q:dm},qs q=true->(q.all λp=>mask.testBit p.1||bF p.2 (.rd b o n))=true|[],_=>rfl|(i,f)::q,h=>by simp only[qs,bO] at h;rw[nO,EB h.2,Bw];cases f with|none=>simp[bF]|rd=>simp[bF]|_=>cases h.1
section
variable {fc:dm}{dst:Option Nat}{args:List IA}{g:Option (Nat×Bool)}{amb:Bool}{idx mask:Nat}{xs:List IV}
def IZ:bq (some fc) ⟨dst,.call,args,g,amb,idx,mask⟩ xs=some (some ((idx,.none)::fc)):=bh rfl
def GS{e z:Nat}{zs:List IV}:bq (some fc) ⟨dst,.alloc e z zs,args,g,amb,idx,mask⟩ xs=some (some ((idx,.none)::fc)):=bh rfl
def GR{zs:List IV}{os:List (Nat×Nat)}:bq (some fc) ⟨dst,.build zs os,args,g,amb,idx,mask⟩ xs=some (some ((idx,.none)::fc)):=bh rfl
def BY{e z n:Nat}{zs:List IV}{os:List (Nat×Nat)}:bq (some fc) ⟨dst,.buildSl e z n zs os,args,g,amb,idx,mask⟩ xs=some (some ((idx,.none)::fc)):=bh rfl
def IX{n:Option Nat}{b a:Nat}:bq (some fc) ⟨dst,.load n,args,g,amb,idx,mask⟩ [.ptr b a]=if qs fc=true then some (some ((idx,.rd b a (n.getD 1))::fc)) else(nX fc ⟨dst,.load n,args,g,amb,idx,mask⟩ [.ptr b a]).map some:=by simp_all[bq,nX,gQ,if_pos,EB]
end
def FR:=ao @IZ (ao @GS (ao @GR (ao @BY @IX)))
def FW:=ao @OQ (ao @Lu (ao @RS (ao @RR (ao @abM @abN))))
end Go.Iso
section
namespace Go.Iso
def J1{a b:Prop}(h:a)(k:b):a/\b:=⟨h,k⟩
def Uh:=J1 @BAS (J1 @gQ.eq_def (J1 @nX.eq_def (J1 @XP.eq_def (J1 @og.eq_def (J1 @ev1.eq_def (J1 @gD.eq_def (J1 @YF.eq_def (J1 @jm.eq_def (J1 @LV.eq_def @cE.eq_def)))))))))
def aj:=J1 Uh @Heap.write.eq_def
def ar{H0 H1:Heap}(q:H0=H1)(x:Nat){v:Option IObj}(h:H0.get x=v:=by simp(disch:=omega) only[aj,↓ai,seval];rfl):H1.get x=v:=q▸h
def aO{n:Nat}{H H0 H1:Heap}(q:H0=H1)(a:H.n<=H1.n:=by omega)(h:∀x,x<n->x<H.n->H0.get x=H.get x:=by intros;simp(disch:=omega) only[aj,↓ai,seval]):Keep n H H1:=⟨a,q▸h⟩
end Go.Iso
end
namespace Go.Iso
section
variable {α:Type}[Cell α]
def j7(l:List α)(i:Nat)(h:i<l.length):aw l=aw (l.take i)++(Cell.cs l[i]++aw (l.drop (i+1))):=by grind[bC,gJ,List.drop_eq_getElem_cons,List.take_append_drop]
end
section
variable {α:Type}[Cell α]
end
def slO(z:Nat)(H:Heap)(v:SV):Prop:=∀b o n c ex,v=.sl b o n c ex->(ex||nY H b z)=true
def SV.cut(z:Nat)(v:SV)(a n:Nat):SV:=match v with|.nil=>.nil|.sl b o _ c ex=>.sl b (o+a*z) n (c - a) ex
def acC(z:Nat)(v:SV)(n:Nat):SV:=match v with|.nil=>.nil|.sl b o _ _ _=>.sl b (o+0*z) (n - 0) (n - 0) true
section
variable {α:Type}[Cell α]
end
open Classical
section
variable {P:Program}{g0 lo:Nat}{μ:Mu}{H H':Heap}{w:World}{ρ:Operand->Value}{xs:List IV}{v:IV}
variable {dst:Option Tmp}{type:TypeId}{pos:String}{after:Array Edge}{guard:Option (Tmp×Bool)}
def vG:∀{q:List (IV×IV×Nat)}{l:List MapEntry}{e:MapEntry},EsR μ q l->e∈l->∃k v,(k,v,e.born)∈q/\VR μ k e.key/\VR μ v e.val|[],_,_,h,F=>by cases h;cases F|(k,v,s)::q,_,x,I,h=>by obtain⟨e,O,rfl,A,E,K,u⟩:=I;cases h with|head=>exact⟨k,v,by grind,A,E⟩|tail _ h=>obtain⟨J,v',a,b,c⟩:=vG u h;exact⟨J,v',gG _ a,b,c⟩
def Ge(h:Rel P g0 μ H.get H.n w){x:Operand}{r b q I u:Nat}{seen:List Nat}{es:List (IV×IV×Nat)}(hg:H.get r=some (.iter (some b) q seen I))(hm:aI H b=some (es,u))(cc:lo<=r)(a4:∀e∈es,e.2.2<I)(a0:∀e∈es,e.2.2<q)(bd:∃e∈es,e.2.2∉seen)(hx:VRs μ [.ptr r 0] [ρ x]):∃k v s,(k,v,s)∈es/\s∉seen/\Gives P g0 lo μ H w (execOp ρ ⟨dst,.next x false,type,pos,after,guard⟩) (.tuple [.bool true,k,v]) (H.put r (.iter (some b) q (seen++[s]) u)):=by obtain⟨y,hy,hv⟩:=sA hx;injection hy with hy _;subst hy;obtain⟨a,a2,hl⟩:=hv;have bt:∀o,H.get r=some o->o≠.dead->∃c p ez z,μ r=.at c p ez z/\ObjR P μ o p ez z w.heap[c]?/\a=⟨c,p+0,none⟩:=by{intro o ho hd;unfold LocR at hl;cases hb:μ r with|no=>rw[hb] at hl;exact hl.elim|dead=>have:=h.ded r hb;rw[ho] at this;injection this with this;exact absurd this hd|«at» c p ez z=>rw[hb] at hl;obtain⟨ob,ap,cl⟩:=h.obj r c p ez z hb;rw[ho] at ap;injection ap with ap;subst ap;exact⟨c,p,ez,z,rfl,cl,hl⟩};obtain⟨c,p,ez,z,hb,⟨rfl,m',J,b3⟩,ha⟩:=bt _ hg (by simp);subst ha;obtain⟨rm,co,z2,E,ad,cw,O,V⟩:=nr h hm b3;injection ad with ad;subst ad;have a6:=Dg (f:=λs=>decide (I<=s)) V;have bo:es≠[]:=by{obtain⟨e,he,_⟩:=bd;exact List.ne_nil_of_mem he};have a9:(!seen.toArray.isEmpty&&!E.isEmpty&&E.all λe=>decide (e.born>=I))=false:=by{have:(E.all λe=>decide (e.born>=I))=false:=by{rw[<-Array.all_toList,<-a6,Bool.eq_false_iff];intro hh;cases es with|nil=>exact bo rfl|cons e es=>simp only[nO,bO,decide_eq_true_eq] at hh;have:=a4 e (sJ ..);omega};rw[this,Bool.and_false]};have g1:(getObj c).run P w=.ok (.mapIter (some rm) q seen.toArray I) w:=by{simp[getObj,Sem.run,J]};have Z:(E.filter λe=>!seen.toArray.contains e.born).toList=E.toList.filter λe=>!seen.contains e.born:=by{rw[Array.toList_filter];simp};have ba:=Df (f:=λs=>!seen.contains s) V;have f1:((E.filter λe=>!seen.toArray.contains e.born).filter λe=>decide (e.born<q))=E.filter λe=>!seen.toArray.contains e.born:=by{rw[Array.filter_eq_self];intro e he;obtain⟨k,v,F,_,_⟩:=vG V (Array.mem_toList_iff.2 (Array.mem_filter.1 he).1);simpa using a0 _ F};have f2:((E.filter λe=>!seen.toArray.contains e.born).filter λe=>decide (e.born>=q))=#[]:=by{rw[Array.filter_eq_empty_iff];intro e he;obtain⟨k,v,F,_,_⟩:=vG V (Array.mem_toList_iff.2 (Array.mem_filter.1 he).1);have:=a0 _ F;simp only at this;simp;omega};have a1:(E.filter λe=>!seen.toArray.contains e.born)≠#[]:=by{intro A;rw[A] at Z;obtain⟨e,he,hs⟩:=bd;rw[<-Z] at ba;have bc:=EsR.length ba;simp only[cz] at bc;have:e∈es.filter λe=>!seen.contains e.2.2:=List.mem_filter.2 ⟨he,by simpa using hs⟩;rw[List.length_eq_zero_iff.1 bc] at this;cases this};generalize hL:(E.filter λe=>!seen.toArray.contains e.born)=L at *;have b5:c<w.heap.size:=(Array.getElem?_eq_some_iff.1 J).1;have a5:∀(i:Nat)(U:World),U.heap=w.heap->U.os=w.os->U.tape=w.tape->U.output=w.output->w.drawn<=U.drawn->i<L.size->∃A k0 v0,L[i]? =some A/\(k0,v0,A.born)∈es/\A.born∉seen/\ (∃K,Rel P g0 K (H.put r (.iter (some b) q (seen++[A.born]) u)).get (H.put r (.iter (some b) q (seen++[A.born]) u)).n {U with heap:=U.heap.setIfInBounds c (.mapIter (some rm) q (seen.toArray.push A.born) u)}/\ Post lo μ H.get H.n w K (H.put r (.iter (some b) q (seen++[A.born]) u)).get (H.put r (.iter (some b) q (seen++[A.born]) u)).n {U with heap:=U.heap.setIfInBounds c (.mapIter (some rm) q (seen.toArray.push A.born) u)}/\ VR K (.tuple [.bool true,k0,v0]) (.tuple #[.bool true,A.key,A.val])):=by{intro i U q1 q2 q3 q4 q5 hi;obtain⟨A,T⟩:∃A,L[i]? =some A:=⟨L[i],by simp[hi]⟩;have F:A∈L:=Array.mem_of_getElem? T;rw[<-hL] at F;obtain⟨ce,cf⟩:=Array.mem_filter.1 F;obtain⟨k0,v0,Y,b8,cm⟩:=vG V (Array.mem_toList_iff.2 ce);obtain⟨hr,hp⟩:=h.update (lo:=lo) (w':={U with heap:=U.heap.setIfInBounds c (.mapIter (some rm) q (seen.toArray.push A.born) u)}) (o:=.iter (some b) q (seen++[A.born]) u) hb cc ⟨_,hg,rfl⟩ (by simp[q1]) (λc' b4=>by simp only[q1];rw[Lg (Ne.symm b4)]) (by simp only[q1];rw[MR b5];exact⟨rfl,some rm,by simp,b3⟩) q2 q3 q4 q5;exact⟨A,k0,v0,T,Y,by simpa using cf,μ,hr,hp,⟨_,rfl,_,_,rfl,rfl,_,_,rfl,b8,_,_,rfl,cm,rfl⟩⟩};have aE:L.isEmpty=false:=by{simpa [Array.isEmpty_iff] using a1};have bw:0<L.size:=Array.size_pos_iff.2 a1;by_cases b6:L.size<=1;{obtain⟨A,k0,v0,T,Y,a3,K,h1,h2,h3⟩:=a5 0 w rfl rfl rfl rfl (an _) bw;refine⟨k0,v0,A.born,Y,a3,.value (.tuple #[.bool true,A.key,A.val]),.tuple #[.bool true,A.key,A.val],_,K,?_,.inl rfl,h1,h2,h3⟩;simp only[execOp,Instr.next,a2,Sem.run_bind,g1,Result.andThen_ok,bM O,a9,gW,if_false,hL,f1,f2,aE];simp[choose,Sem.run,Question.forced,setObj,J,b6,T]};{have b7:(Question.mapNext L.size).forced=false:=by{simp[Question.forced];omega};have cd:(Question.mapNext L.size).cut (w.tape w.drawn (.mapNext L.size))<L.size:=wR _ bw;obtain⟨A,k0,v0,T,Y,a3,K,h1,h2,h3⟩:=a5 _ {w with drawn:=w.drawn+1} rfl rfl rfl rfl (te _) cd;refine⟨k0,v0,A.born,Y,a3,.value (.tuple #[.bool true,A.key,A.val]),.tuple #[.bool true,A.key,A.val],_,K,?_,.inl rfl,h1,h2,h3⟩;simp only[execOp,Instr.next,a2,Sem.run_bind,g1,Result.andThen_ok,bM O,a9,gW,if_false,hL,f1,f2,aE];have hd:w.drew.heap=w.heap:=rfl;simp[choose,Sem.run,b7,setObj,hd,J,T];exact⟨rfl,rfl⟩}
end
open Classical
def XT:Nat->Nat->Heap->Heap|0,_,H=>H|k+1,b,H=>XT k (b+1) (H.put b .dead)
def Je(lo:Nat)(H:Heap):Heap:=XT (H.n - lo) lo H
def CallSim.lower{P:Program}{g0:Nat}{f:FuncId}{args:List IV}{lo u:Nat}{H H':Heap}{v:IV}(O:u<=lo)(h:CallSim P g0 f args lo H v H'):CallSim P g0 f args u H v H':=by intro μ w q T K;exact(h μ w q T K).mono λe w' ⟨v',A,E,F,I,J⟩=>⟨v',A,E,F,I.lower O,J⟩
def abn(q:Nat)(v:IV):Prop:=∃cs,v=.agg cs/\cs.length=q/\cs.all IV.one=true
def Yp(P:Program)(g0:Nat)(f:FuncId)(q:Nat)(args:List IV)(H:Heap)(p:Nat×IV):Prop:=p.1<=H.n/\abn q p.2/\CallSim P g0 f args p.1 H p.2 (Je p.1 H)
def aax(P:Program)(g0:Nat)(f:FuncId)(u:Nat)(args:List IV)(H:Heap)(p:Nat×IV):Prop:=Yp P g0 f u args H p/\∀q,Yp P g0 f u args H q->q.1<=p.1
noncomputable def ag8(P:Program)(g0:Nat)(f:FuncId)(q:Nat):List IV->Nat->Heap->Option (IV×Heap):=λargs lo H=>if h:∃p,aax P g0 f q args H p then if lo<=(Classical.choose h).1 then some ((Classical.choose h).2,Je (Classical.choose h).1 H) else none else none
def NItem(P:Program)(g0 lo:Nat)(F:Item)(rd:Option Nat)(fr:Fr)(H:Heap)(Q:Out->Heap->Prop):Prop:=∀(μ:Mu)(w:World)(t:Array Value)(r:Option Nat)(ds:List Deferred),Rel P g0 μ H.get H.n w->VRs μ fr.tm t.toList->RdR μ rd r->DsR μ fr.marks ds->∀(f:FuncId)(k:List Item)(cs:List Frame),∃e u H' q w' E A,Q (.ex e u) H'/\Rel P g0 q H'.get H'.n w'/\Post lo μ H.get H.n w q H'.get H'.n w'/\VRs q u.tm E.toList/\DsR q u.marks A/\ Arr P f r E A cs w' (lone (bN f r t ds (F::k)) cs w) k e
section
variable {P:Program}{E:Env}{g0 lo:Nat}{rd:Option Nat}{fr:Fr}{H:Heap}{Q Q':Out->Heap->Prop}
def NItem.mono{F:Item}(h:NItem P g0 lo F rd fr H Q)(hq:∀e q H',Q (.ex e q) H'->Q' (.ex e q) H'):NItem P g0 lo F rd fr H Q':=by intro μ w t r ds J K A u f k cs;obtain⟨e,q,H',O,w1,t1,I,T,U,V,Y,Z,a5⟩:=h μ w t r ds J K A u f k cs;grind
def Km{F:Item}{e:Ex}{q:Fr}{H':Heap}(h:ItemSim P g0 lo F rd fr H e q H')(hq:Q (.ex e q) H'):NItem P g0 lo F rd fr H Q:=by intro μ w t r ds J K A u f k cs;obtain⟨O,w1,t1,I,T,U,V,Y,Z⟩:=h μ w t r ds J K A u f k cs;grind
def kj(F:EnvOk P E){c:Code}{u:IC}(I:a8 P c=some u)(h:W E lo (.code u rd fr) H Q):NItem P E.g0 lo (.code c) rd fr H Q:=by obtain⟨n,o,H',q,J⟩:=h;obtain⟨e,A,rfl,hs⟩:=C0 (Ae F n) n (an _) c u rd fr lo H o H' I q;exact Km hs J
def NItem.seq{I J q:Item}(hs:∀f r t ds k cs w,step P (lone (bN f r t ds (I::k)) cs w)=.next (lone (bN f r t ds (J::q::k)) cs w))(Y:∀id k,exitTo id (q::k)=exitTo id k)(h1:NItem P g0 lo J rd fr H λo H1=>match o with|.ex .normal u=>NItem P g0 lo q rd u H1 Q|o=>Q o H1):NItem P g0 lo I rd fr H Q:=by intro μ w t r ds hr ht F V f k cs;obtain⟨e,u,H1,K,w1,t1,A,a0,a1,O,a3,a4,a5⟩:=h1 μ w t r ds hr ht F V f (q::k) cs;cases e with|normal=>obtain⟨e2,U,H2,Z,w2,t2,T,b0,b1,b2,b3,b4,b5⟩:=a0 K w1 t1 r A a1 a3 (F.mono O.le) a4 f k cs;exact⟨e2,U,H2,Z,w2,t2,T,b0,b1,O.trans b2,b3,b4,b5.head (Steps.head (hs f r t ds k cs w) a5)⟩|jmp j=>exact⟨.jmp j,u,H1,K,w1,t1,A,a0,a1,O,a3,a4,(a5.skipItem Y).head (.one (hs f r t ds k cs w))⟩
def NItem.seqC{a b:Code}(u:NItem P g0 lo (.code a) rd fr H λo H1=>match o with|.ex .normal q=>NItem P g0 lo (.code b) rd q H1 Q|o=>Q o H1):NItem P g0 lo (.code (.seq a b)) rd fr H Q:=NItem.seq (λf r t ds k cs w=>KU) (yE b) u
def Hz{id:Nat}{c:Code}(h:NItem P g0 lo (.code c) rd fr H λo H'=>match o with|.ex (.jmp (.exit q)) U=>Q (.ex (if q=id then .normal else .jmp (.exit q)) U) H'|o=>Q o H'):NItem P g0 lo (.code (.block id c)) rd fr H Q:=by intro μ w t r ds hr ht Z V f k cs;obtain⟨e1,A,H1,F,w1,t1,u,I,J,K,O,T,a5⟩:=h μ w t r ds hr ht Z V f (.inBlock id::k) cs;have st:step P (lone (bN f r t ds (.code (.block id c)::k)) cs w)=.next (lone (bN f r t ds (.code c::.inBlock id::k)) cs w):=Ih;cases e1 with|normal=>exact⟨.normal,A,H1,F,w1,t1,u,I,J,K,O,T,Steps.head st (Steps.trans a5 (.one A6))⟩|jmp j=>obtain⟨pre,b1,b2⟩:=a5;cases j with|ret=>exact⟨.jmp .ret,A,H1,F,w1,t1,u,I,J,K,O,T,pre++[.inBlock id],Steps.head st (by simpa using b1),λq e=>by cases e⟩|exit q=>refine⟨_,A,H1,F,w1,t1,u,I,J,K,O,T,?_⟩;have hx:=b2 q rfl;rw[qJ] at hx;by_cases Y:q=id;{subst Y;simp only[if_true] at hx⊢;exact Steps.head st (b1.trans (.one (ML hx)))};{rw[if_neg (Ne.symm Y)] at hx;rw[if_neg Y];refine⟨pre++[.inBlock id],Steps.head st (by simpa using b1),λad e=>?_⟩;grind}
def NItem.inLoop{c:Code}(Inv:Nat->Fr->Heap->Prop)(I:∀n fr H,Inv n fr H->NItem P g0 lo (.code c) rd fr H λo H'=>match o with|.ex .normal q=>∃m,m<n/\Inv m q H'|o=>Q o H'):∀n fr H,Inv n fr H->NItem P g0 lo (.inLoop c) rd fr H Q:=by intro n;induction n using Nat.strongRecOn with|_ n J=>intro fr H F;refine NItem.seq (λf r t ds k cs w=>wJ) (ku c) ((I n fr H F).mono λe q H' A=>?_);cases e with|normal=>obtain⟨m,hm,u⟩:=A;exact J m hm q H' u|jmp j=>exact A
def NItem.loopC{c:Code}(Inv:Nat->Fr->Heap->Prop)(n:Nat)(h0:Inv n fr H)(A:∀n fr H,Inv n fr H->NItem P g0 lo (.code c) rd fr H λo H'=>match o with|.ex .normal q=>∃m,m<n/\Inv m q H'|o=>Q o H'):NItem P g0 lo (.code (.loop c)) rd fr H Q:=by refine NItem.seq (λf r t ds k cs w=>Ga) (ku c) ((A n fr H h0).mono λe q H' F=>?_);cases e with|normal=>obtain⟨m,hm,u⟩:=F;exact NItem.inLoop Inv A m q H' u|jmp j=>exact F
def NOp(P:Program)(g0:Nat)(o:Oper)(lo:Nat)(xs:List IV)(H:Heap)(R:IV->Heap->Prop):Prop:=∀(μ:Mu)(w:World)(t:Array Value),Rel P g0 μ H.get H.n w->VRs μ xs (o.op.operands.toList.map (dA t))->∀(f:FuncId)(rd:Option Nat)(ds:List Deferred)(k:List Item)(cs:List Frame)(ops:Array Oper)(i:Nat)(q:List Nat),∃(v:IV) (H':Heap) (v':Value) (w':World) (u:Mu),R v H'/\Rel P g0 u H'.get H'.n w'/\Post lo μ H.get H.n w u H'.get H'.n w'/\VR u v v'/\ (ops[i]? =some o->Region.wanted o (yielded ops t)=true->Steps P (lone (bN f rd t ds (.inRegion ops (i::q)::k)) cs w) (lone (bN f rd (pG t o.dst v') ds (.inRegion ops q::k)) cs w'))
def NItem.region(hE:EnvOk P E){id:Nat}{ops:Array Oper}{pre post:List IOp}{io:IOp}(J:dF P ops false=some [(.seq,pre++io::post)])(hg:io.guard=none){R:IV->Heap->Prop}(ap:W E lo (.ops none pre rd fr) H λo H1=>∃q xs,o=.ex .normal q/\bK E.g0 q.tm io.args=some xs/\ (∀o,cK P o.op=some io.kd->NOp P E.g0 o lo xs H1 R)/\ ∀v H2,R v H2->W E lo (.ops none post rd (q.put io.dst v)) H2 λo H'=>∃Y,o=.ex .normal Y/\Q (.ex .normal Y) H'):NItem P E.g0 lo (.code (.region id ops false)) rd fr H Q:=by simp only[dF] at J;cases h1:ops.toList.mapM (oe P ops) with|none=>rw[h1] at J;cases J|some l=>rw[h1] at J;simp only[uB,bH,gW,if_false] at J;have J:l=pre++io::post:=by{grind};subst J;obtain⟨hl,ar⟩:=qv h1;obtain⟨n,o,H1,aE,q,xs,rfl,a9,a6,K⟩:=ap;obtain⟨bo,S1,e1,F⟩:=rZ (N:=n) pre n (an _) _ _ _ _ _ aE;injection e1 with _ e1;subst e1;have ad:∀(j:Nat)(u:IOp),(pre++io::post)[j]? =some u->∃o,ops[j]? =some o/\OpOk P ops o u:=λj u hj=>by{obtain⟨o,q1,q2⟩:=ar j u hj;obtain⟨V,e4,e5,e6⟩:=nz q2;exact⟨o,by simpa using q1,V,e4,e5,e6⟩};have Z:ops.size=pre.length+(post.length+1):=by{grind};intro μ w t r ds hr ht b6 a5 f k cs;have jj:List.range ops.size=List.range' 0 pre.length++(pre.length::List.range' (pre.length+1) post.length):=by{rw[Lc,Z,<-List.range'_append_1,bG,Gw]};obtain⟨ba,t1,w1,a1,a2,U,a4⟩:=zK (a:=0) (ops:=ops) (Ae hE n) (λj u hj=>by have bw:j<pre.length:=(List.getElem?_eq_some_iff.1 hj).1;simp_all[Ep,bG]) F hr ht f r ds k cs (pre.length::List.range' (pre.length+1) post.length);obtain⟨o,ho,A⟩:=ad pre.length io (by simp);have T:Region.wanted o (yielded ops t1)=true:=by{rw[ou A.guard (by simpa using U.length) (λd w' _=>jK U d),hg];rfl};have a0:=eU a1 A.args a9 (λi _=>jK U i);obtain⟨v,H2,v',w2,bc,b0,b1,b2,b3,b4⟩:=a6 o A.kd ba w1 t1 a1 a0 f r ds k cs ops pre.length (List.range' (pre.length+1) post.length);have b4:=b4 ho T;have b5:VRs bc (q.put io.dst v).tm (pG t1 o.dst v').toList:=by{rw[A.dst];cases o.dst with|none=>exact VRs.mono b2.le _ _ U|some d=>simp only[Fr.put,pG,yt];exact(VRs.mono b2.le _ _ U).set d b3};obtain⟨n3,o3,H3,O,fr3,rfl,hq⟩:=K v H2 b0;obtain⟨bt,S3,V,I⟩:=rZ (N:=n3) post n3 (an _) _ _ _ _ _ O;injection V with _ V;subst V;obtain⟨bd,t3,w3,c1,c2,c3,c4⟩:=zK (a:=pre.length+1) (ops:=ops) (Ae hE n3) (λj u hj=>by obtain⟨o,q1,q2⟩:=ad (pre.length+1+j) u (by grind);exact⟨o,q1,q2⟩) I b1 b5 f r ds k cs [];rw[gV] at c4;refine⟨.normal,fr3,H3,bd,w3,t3,ds,hq,c1,(a2.trans b2).trans c2,c3,?_,?_⟩;{have hm:fr3.marks=fr.marks:=by{rw[I.marks];have:(q.put io.dst v).marks=q.marks:=by{cases io.dst<;>rfl};rw[this,F.marks]};rw[hm];exact a5.mono ((a2.trans b2).trans c2).le};{refine Steps.head D2 ?_;rw[jj];exact a4.trans (b4.trans (c4.trans (.one ng)))}
def NOp.next{o:Oper}(I:cK P o.op=some .nextM){r b q A u:Nat}{seen:List Nat}{J:List (IV×IV×Nat)}(hg:H.get r=some (.iter (some b) q seen A))(hm:aI H b=some (J,u))(U:lo<=r)(F:∀e∈J,e.2.2<A)(K:∀e∈J,e.2.2<q)(V:∃e∈J,e.2.2∉seen):NOp P g0 o lo [.ptr r 0] H λv H'=>∃k x s,(k,x,s)∈J/\s∉seen/\v=.tuple [.bool true,k,x]/\H'=H.put r (.iter (some b) q (seen++[s]) u):=by intro μ w t hr hx f rd ds k cs ops i aE;obtain⟨y,O⟩:∃y,o.op=.next y false:=by{cases Z:o.op<;>rw[Z] at I<;>simp only[cK,Jf,aV,eM,eN] at I;(all_goals (repeat' split at I));(all_goals (try simp only[eN,eM,reduceCtorEq,and_false,exists_false] at I));all_goals first|(cases I;done)|exact⟨_,rfl⟩|grind};obtain⟨dst,op,type,pos,after,guard⟩:=o;simp only at O;subst O;have hx:VRs μ [.ptr r 0] [dA t y]:=by{simpa [Op.operands] using hx};obtain⟨k0,v0,s0,h1,h2,nx,v',w',ap,T,Y,ad,hp,hv⟩:=Ge (dst:=dst) (type:=type) (pos:=pos) (after:=after) (guard:=guard) (ρ:=dA t) hr hg hm U F K V hx;exact⟨_,_,v',w',ap,⟨k0,v0,s0,h1,h2,Rr⟩,ad,hp,hv,λZ hw=>.one (Ig Z hw (Cj I) T Y)⟩
def NG(P:Program)(g0:Nat)(f:FuncId)(args:List IV)(lo:Nat)(H:Heap)(R:IV->Heap->Prop):Prop:=∀(μ:Mu)(w:World)(q:Array Value),Rel P g0 μ H.get H.n w->VRs μ args q.toList->Calls P f q w λe w'=>∃(v:IV) (H':Heap) (v':Value) (u:Mu),R v H'/\e=.returned v'/\Rel P g0 u H'.get H'.n w'/\Post lo μ H.get H.n w u H'.get H'.n w'/\VR u v v'
def NOp.call{o:Oper}(hk:cK P o.op=some .call){g:FuncId}{q cap args:List IV}{fn:Func}{body:Code}(hf:P.funcs[g]? =some fn)(hb:fn.body=some body)(hn:(fn.name=="runtime.NumGoroutine")=false){R:IV->Heap->Prop}(h:NG P g0 g (q++args++cap) lo H R):NOp P g0 o lo (.fn g q cap::args) H R:=by obtain⟨fo,u,ts,Y⟩:=M7 hk;intro μ w t hr hx f rd ds k cs ops i T;have K:o.op.operands.toList.map (dA t)=dA t fo::u.toList.map (dA t):=by{rw[Y];simp[Op.operands,Call.operands]};rw[K] at hx;obtain⟨y,yl,hy,ap,I⟩:=hx;simp only[eK] at hy;obtain⟨rfl,rfl⟩:=hy;obtain⟨l',r',U,hl,ad⟩:=ap;have I:VRs μ args (u.map (dA t)).toList:=by{simpa using I};have aE:VRs μ (q++args++cap) ((l'++u.map (dA t))++r').toList:=by{rw[Bq,Bq];exact(hl.append I).append ad};obtain⟨e,w',fr,⟨v,H',v',a0,hR,rfl,Z,hp,hv⟩,F,a1,A⟩:=h μ w _ hr aE (bN f rd t ds (.inRegion ops (i::T)::k)::cs);refine⟨v,H',v',w',a0,hR,Z,hp,hv,λJ hw=>?_⟩;rw[<-oN J];have O:(execOp (dA t) o).run P w=.ok (.enter g ((l'++u.map (dA t))++r')) w:=by{have V:¬fn.name="runtime.NumGoroutine":=by{simpa using hn};simp only[execOp,Y,resolve,U];simp[Deferred.ofValue,invoke,callFunc,hf,V,hb]};refine Steps.head (step_lone_go ?_) (Steps.trans F (.one (step_leave_returned A)));rw[pT J hw (λc e=>by rw[Y] at e;cases e),qE];simp only[stepG.apply,Sem.runT_eq,O,if_true,GStep.bare_after];simp_all[bN]
end
open Go.Sort Go.Proofs Go.Shelf
section
variable {P:Program}{g0 lo:Nat}{μ:Mu}{H:Heap}{w:World}
def Ov{n n':Nat}{g Z:Gt}{K:Mu}{w':World}(A:Post n μ g n w K Z n' w'):∃q os,w'=grow (w.drewN q) os:=by have T:w'.heap=w.heap++w'.heap.extract w.heap.size w'.heap.size:=by{apply Array.ext_getElem?;intro i;by_cases U:i<w.heap.size;{rw[Array.getElem?_append_left U];exact A.frame i U λb p ez z I J=>Om};grind};refine⟨w'.drawn - w.drawn,w'.heap.extract w.heap.size w'.heap.size,?_⟩;have I:=A.os;have J:=A.tape;have O:=A.output;have h4:=A.drawn;obtain⟨h,t,d,o,u⟩:=w;obtain⟨F,V,E,o',Y⟩:=w';simp only at I J O h4 T⊢;subst I J O;show World.mk F V E o' Y=World.mk (h++F.extract h.size F.size) V (d+(E - d)) o' Y;rw[<-T,show d+(E - d)=E by omega]
def Jp(os:Array Obj){c:Nat}(q:c<w.heap.size):(grow w os).heap[c]? =w.heap[c]?:=Array.getElem?_append_left q
def Rel.grown{g:Gt}{n:Nat}(h:Rel P g0 μ g n w)(os:Array Obj):Rel P g0 μ g n (grow w os):=⟨h.lt,h.inj,λb c p ez z q=>by rw[Jp os (h.clt q)];exact h.obj b c p ez z q,h.glob,h.ded⟩
def Post.grown{g:Gt}{n:Nat}(h:Rel P g0 μ g n w)(os:Array Obj):Post lo μ g n w μ g n (grow w os) where le:=μ.le_refl;hn:=an _;old:=λ_ _ h=>h;low:=λ_ _ _=>⟨rfl,rfl⟩;own:=λ_ _ h=>h;new:=λb c p ez z E e=>absurd (h.lt b (by grind)) Om;full:=λb u A=>Om;size:=by{simp_all};frame:=λc q _=>Jp os q;os:=rfl;tape:=rfl;output:=rfl;drawn:=an _
def toV:IV->Value|.int k n=>.int k n|_=>undef
def M8:IV->Bool|.int _ _=>true|_=>false
def vD:∀{L:List IV}{vs:List Value},L.all M8=true->(VRs μ L vs↔vs=L.map toV)|[],vs,_=>by constructor<;>exactλh=>h|x::L,vs,h=>by simp only[nO,bO] at h;have A:=λvs=>vD (L:=L) (vs:=vs) h.2;obtain⟨k,n,rfl⟩:∃k n,x=.int k n:=by{cases x with|int k n=>exact⟨k,n,rfl⟩|_=>exact absurd h.1 (by simp[M8])};constructor;{rintro⟨y,ys,rfl,q,u⟩;have q:y=.int k n:=q;rw[q,(A ys).1 u];rfl};{rintro rfl;exact⟨_,_,rfl,rfl,(A _).2 rfl⟩}
theorem Dp(F:Array Value)(cs:Array Value)(h:F.size<=cs.size):(putCells id 0 F cs).toList.take F.size=F.toList:=by apply Bo;intro i;rw[List.getElem?_take];by_cases q:i<F.size;{rw[if_pos q,Ek,Ek];unfold putCells;rw[Array.getElem?_mapIdx,Bt (by omega:i<cs.size)];simp only[dC];rw[iP,oG,getElem!_pos F i q,Bt q];rfl};grind
def Vs(h:Rel P g0 μ H.get H.n w){b c e ez z:Nat}{cs q:List IV}(K:μ b=.at c 0 ez z)(I:lo<=b)(O:H.get b=some (.cells false e ez cs)){F:Array Value}(T:VRs μ q F.toList)(hl:q.length=cs.length)(m:Nat):Rel P g0 μ (H.put b (.cells false e ez q)).get (H.put b (.cells false e ez q)).n (putRow id (Sort.ahead w m) c 0 F)/\Post lo μ H.get H.n w μ (H.put b (.cells false e ez q)).get (H.put b (.cells false e ez q)).n (putRow id (Sort.ahead w m) c 0 F):=by obtain⟨o,u,J⟩:=h.obj b c 0 ez z K;rw[O] at u;injection u with u;subst u;obtain⟨_,_,A,U,Z,V,hv⟩:=J;have Y:F.size=q.length:=by{rw[<-sM,T.length]};refine h.update K I ⟨_,O,rfl⟩ (by show(w.heap.modify c _).size=_;rw[Array.size_modify]) (λc' E=>by show(w.heap.modify c _)[c']? =_;rw[Array.getElem?_modify,if_neg (Ne.symm E)]) ?_ rfl rfl rfl (Nat.le_add_right _ _);refine⟨rfl,rfl,putCells id 0 F A,?_,?_,Om,?_⟩;{show(w.heap.modify c _)[c]? =_;rw[Array.getElem?_modify,if_pos rfl,U];rfl};{unfold putCells;rw[Array.size_mapIdx];exact Z};grind[Dp]
section
variable {α:Type}[Inhabited α]
def Bn:∀(l:List Value),(List.range l.length).map (λt=>l[t]!)=l:=by intro l;apply lz (by simp);grind
def G0(enc:α->List Value)(k:Nat)(A:∀x,(enc x).length=k)(u:0<k):∀(l:List α),(flatK enc k l.toArray).toList=l.flatMap enc:=by have key:∀(l:List α),(List.range (l.length*k)).map (λt=>(enc l[t / k]!)[t%k]!)=l.flatMap enc:=by{intro l;induction l with|nil=>simp|cons a l E=>rw[bW,gE,Nat.add_comm,List.range_add,mO,List.flatMap_cons,<-E];congr 1;{(conv=>rhs;rw[<-Bn (enc a),A]);apply BG;intro t q;have q:=List.mem_range.1 q;rw[Nat.div_eq_of_lt q,Nat.mod_eq_of_lt q];rfl};{rw[qm];apply BG;intro t _;show(enc (a::l)[(k+t) / k]!)[(k+t)%k]! =_;rw[Nat.add_div_left _ u,Nat.add_mod_left];rfl}};simp_all[flatK,Array.toList_map,Array.toList_range]
end
section
variable {α:Type}[Inhabited α][Cell α]
def tG(x:α):List Value:=(Cell.cs x).map toV
omit [Inhabited α] in theorem JD(x:α):(tG x).length=Cell.z α:=by unfold tG;rw[aT,Cell.len]
omit [Inhabited α] in theorem Pg(l:List α):l.flatMap tG=(aw l).map toV:=by unfold aw tG;rw[List.map_flatMap]
def Ki(u:α->α->Int)(b e ez:Nat)(l:List α)(H:Heap)(v:IV)(H':Heap):Prop:=v=.tuple []/\∃q:List α,q.Perm l/\q.Pairwise (λx y=>ltOf u y x=false)/\H'.n=H.n/\(∀x,x≠b->H'.get x=H.get x)/\H'.get b=some (.cells false e ez (aw q))
def A9{ρ:Ren}(L:SlLaysF0.n6 P ρ)(A:∀x:α,(Cell.cs x).all M8=true)(aE:∀w,(isAgg (ρ.t 24)).run P w=.ok true w)(zE:∀w,(Go.sizeOf (ρ.t 24)).run P w=.ok (Cell.z α) w)(cf:α->α->Int)(hO:SWO (ltOf cf)){g b e ez lb:Nat}{ex:Bool}{l:List α}(bw:lo<=b)(hg:H.get b=some (.cells false e ez (aw l)))(b3:l.length<4611686018427387904)(eg:∀args w,(callFunc g args).run P w=.ok (.enter g args) w)(a4:∀(x y:α)(H':Heap),∃a2,CallSim P g0 g [.agg (Cell.cs x),.agg (Cell.cs y)] H'.n H' (.int .i64 (cf x y)) a2):NG P g0 (ρ.f 6) [.slice b 0 l.length lb ex,.fn g [] []] lo H (Ki cf b e ez l H):=by intro μ w ad hr ha;obtain⟨v1,cc,e1,b4,v2,cd,rfl,b5,rfl⟩:=ha;obtain⟨a,cap,rfl,Y,I⟩:=b4;obtain⟨l1,O,rfl,E,F⟩:=b5;have E:l1.toList=[]:=E;have F:O.toList=[]:=F;have E:l1=#[]:=Array.toList_eq_nil_iff.1 E;have F:O=#[]:=Array.toList_eq_nil_iff.1 F;subst E F;have ap:ad=#[.slice (some a) l.length cap,.func (.func g) #[] #[]]:=by{apply tc;rw[e1]};subst ap;have a9:∃c q z,μ b=.at c 0 q z/\q=ez/\(cap=0\/a=⟨c,0,none⟩):=by{unfold SlR at I;cases hb:μ b with|no=>rw[hb] at I;exact I.elim|dead=>have:=hr.ded b hb;rw[hg] at this;injection this with this;cases this|«at» c p q z=>rw[hb] at I;obtain⟨o,K,a1⟩:=hr.obj b c p q z hb;rw[hg] at K;injection K with K;subst K;obtain⟨rfl,rfl,_⟩:=a1;exact⟨c,_,z,rfl,rfl,by simpa using I.1⟩};obtain⟨c,q,z,hb,rfl,a0⟩:=a9;by_cases Z:l=[];{subst Z;exact(AnyF.slices_SortFunc_none L (some a) cap _ w).mono λe' w' ⟨U,h2⟩=>by subst U h2;exact⟨.tuple [],H,.tuple #[],μ,⟨rfl,[],.refl _,.nil,rfl,λ_ _=>rfl,hg⟩,rfl,hr,Post.refl hr,⟨#[],Rr⟩⟩};have b6:0<l.length:=List.length_pos_iff.2 Z;have ha:a=⟨c,0,none⟩:=by{rcases a0 with h|h;{have U:=Y.1;have h2:=Y.2.1;omega};{exact h}};subst ha;have V:∀l:List α,(aw l).all M8=true:=λl=>by{unfold aw;rw[List.all_flatMap,yp];exactλx _=>A x};have hF:∀d:Array α,(flatK tG (Cell.z α) d).toList=(aw d.toList).map toV:=λd=>by{rw[<-Pg,<-G0 tG (Cell.z α) JD Cell.pos]};have a6:∀d:Array α,VRs μ (aw d.toList) (flatK tG (Cell.z α) d).toList:=λd=>(vD (V _)).2 (hF d);obtain⟨o,K,a1⟩:=hr.obj b c 0 q z hb;rw[hg] at K;injection K with K;subst K;obtain⟨_,_,J,hc,hz,b8,hv⟩:=a1;have bc:J.toList.take (aw l).length=(flatK tG (Cell.z α) l.toArray).toList:=by{rw[hF];exact(vD (V _)).1 hv};have a3:c<w.heap.size:=(Array.getElem?_eq_some_iff.1 hc).1;have hH:HoldsK tG (Cell.z α) w c 0 l.toArray:=by{intro j hj;have bt:j<(aw l).length:=by{rw[ax];simpa using hj};have b7:j<J.size:=Om;refine⟨?_,?_⟩;{unfold World.cell?;simp only[hc,wX,gW,if_false,bG];have U:(J.toList.take (aw l).length)[j]? =J[j]?:=by{rw[List.getElem?_take,if_pos bt,Ek]};rw[<-U,bc,Ek,Bt hj,getElem!_pos _ j hj];rfl};{unfold World.frozen?;simp only[hc];simp}};have hW:∀(d:Array α)(m:Nat)(os:Array Obj),d.size=l.length->Rel P g0 μ (H.put b (.cells false e q (aw d.toList))).get (H.put b (.cells false e q (aw d.toList))).n (sortWorldK tG (Cell.z α) w c 0 m d os)/\ Post lo μ H.get H.n w μ (H.put b (.cells false e q (aw d.toList))).get (H.put b (.cells false e q (aw d.toList))).n (sortWorldK tG (Cell.z α) w c 0 m d os):=by{intro d m os hd;obtain⟨O,p1⟩:=Vs (lo:=lo) hr hb bw hg (a6 d) (by rw[ax,ax,sM,hd]) m;exact⟨O.grown os,p1.trans (Post.grown O os)⟩};have ba:CmpLays P g #[] tG (Cell.z α) cf c 0 l.toArray.size w:=by{intro m os dk bd x y;obtain⟨O,_⟩:=hW dk m os (by simpa using bd);obtain⟨a2,hs⟩:=a4 x y (H.put b (.cells false e q (aw dk.toList)));have hx:∀x:α,VR μ (.agg (Cell.cs x)) (.agg (tG x).toArray):=λx=>⟨_,rfl,(vD (A x)).2 rfl⟩;refine(hs μ _ _ O ⟨_,_,rfl,hx x,_,_,rfl,hx y,rfl⟩).mono λe' w' ⟨v',ce,U,_,h3,h4⟩=>?_;have h4:v'=.int .i64 (cf x y):=h4;subst U h4;exact⟨rfl,Ov h3⟩};have a5:∀x:α,∀v∈tG x,v.oneCell'=true:=by{intro x v hv;obtain⟨y,hy,rfl⟩:=List.mem_map.1 hv;have:=List.all_eq_true.1 (A x) y hy;cases y<;>first|(cases this;done)|rfl};have u:=AnyQ.slices_SortFunc L (Cell.z α) aE zE tG JD a5 cf hO g #[] c 0 cap l.toArray w eg ba hH a3 (by simpa using b3);rw[BC] at u;refine u.mono λe' w' ⟨U,T,m,os,hp,hs,hw⟩=>?_;subst U hw;have hd:T.size=l.length:=by{simpa using hp.1};obtain⟨O,p1⟩:=hW T m os hd;refine⟨.tuple [],H.put b (.cells false e q (aw T.toList)),.tuple #[],μ,⟨rfl,T.toList,?_,?_,rfl,λx hx=>by rw[aa,if_neg (Ne.symm hx)],by rw[aa,if_pos rfl]⟩,rfl,O,p1,⟨#[],Rr⟩⟩;{have:=hp.2.2;have e1:T.extract 0 l.length=T:=by{rw[<-hd];exact Array.extract_size};have e2:l.toArray.extract 0 l.length=l.toArray:=by{rw[<-BC];exact Array.extract_size};rw[e1,e2] at this;simpa using this};{rw[Eo];intro i j hi hj bo;have:=hs i j (dp _) bo (by rw[<-hd,<-sM];exact hj);rw[getElem!_pos T i (by simpa using hi),getElem!_pos T j (by simpa using hj)] at this;simpa using this}
end
end
open Classical
def Tj(mb:Nat):IV->IV|.slice _ _ n _ _=>.slice mb 0 n n false|v=>v
def RN:IV->Bool|.int _ _=>true|.bool _=>true|.nilSlice=>true|.slice _ _ _ _ _=>true|_=>false
section
variable {P:Program}{g0 lo:Nat}
def jl{c:Code}{x y:IC}(h:a8 P c=some (.seq x y)):∃a b,c=.seq a b/\a8 P a=some x/\a8 P b=some y:=by cases c<;>simp only[a8,eM,uB,eN,wU,ma,reduceCtorEq,and_false,exists_false] at h;grind
def xD{c:Code}{l:List (Sg×List IOp)}(h:a8 P c=some (.ops l)):∃id ops q,c=.region id ops q/\dF P ops q=some l:=by cases c<;>simp only[a8,eM,uB,eN,wU,ma,reduceCtorEq,and_false,exists_false] at h;grind
def JU{c:Code}{x:IC}{n:Nat}(h:a8 P c=some (.block n x)):∃a,c=.block n a/\a8 P a=some x:=by cases c<;>simp only[a8,eM,uB,eN,wU,ma,reduceCtorEq,and_false,exists_false] at h;grind
def Mf{c:Code}{x:IC}(h:a8 P c=some (.loop x)):∃a,c=.loop a/\a8 P a=some x:=by cases c<;>simp only[a8,eM,uB,eN,wU,ma,reduceCtorEq,and_false,exists_false] at h;grind
def oU:Code->List Bool|.region _ _ d=>[d]|.seq a b=>oU a++oU b|.cond _ a b=>oU a++oU b|.block _ c=>oU c|.scope c=>oU c|.loop c=>oU c|_=>[]
end
open Classical
def Bj(q:Nat->Nat):IV->IV|.slice b o n lb ex=>.slice (q b) o n lb ex|v=>v
def nmC(n:Nat):IV->Prop|.slice b _ _ _ _=>b<n|_=>True
def K6{μ q:Mu}{u:Nat->Nat}{n:Nat}(hm:∀b,b<n->q b=μ (u b)\/q b=.dead):∀{v:IV}{v':Value},RN v=true->nmC n v->VR μ (Bj u v) v'->VR q v v'|.int _ _,_,_,_,h=>h|.bool _,_,_,_,h=>h|.nilSlice,_,_,_,h=>h|.slice b o n lb ex,_,_,F,h=>by obtain⟨a,cap,e,A,E⟩:=h;refine⟨a,cap,e,A,?_⟩;unfold SlR at E⊢;rcases hm b F with e|e<;>grind
def mM{μ q:Mu}{E:Nat->Nat}{n:Nat}(hm:∀b,b<n->q b=μ (E b)\/q b=.dead):∀{cs:List IV}{l:List Value},cs.all RN=true->(∀c∈cs,nmC n c)->VRs μ (cs.map (Bj E)) l->VRs q cs l|[],_,_,_,h=>h|c::cs,_,u,A,h=>by simp only[nO,bO] at u;obtain⟨y,ys,e,F,I⟩:=h;exact⟨y,ys,e,K6 hm u.1 (A c sJ) F,mM hm u.2 (λc J=>A c (gG _ J)) I⟩
section
variable {μ μ1 μ':Mu}
def De(μ μ1 μ':Mu):Prop:=∀b,μ b≠.no->μ' b=μ1 b\/μ' b=.dead
def LocR.swap(hs:De μ μ1 μ'){b o:Nat}{q a:Addr}(h0:LocR μ b o q)(h:LocR μ1 b o a):LocR μ' b o a:=by have hn:μ b≠.no:=by{intro e;unfold LocR at h0;rw[e] at h0;exact h0};unfold LocR at h⊢;rcases hs b hn with e|e<;>grind
def SlR.swap(hs:De μ μ1 μ'){b o c0 cap:Nat}{ex:Bool}{q a:Addr}(h0:SlR μ b o ex c0 q)(h:SlR μ1 b o ex cap a):SlR μ' b o ex cap a:=by have hn:μ b≠.no:=by{intro e;unfold SlR at h0;rw[e] at h0;exact h0};unfold SlR at h⊢;rcases hs b hn with e|e<;>grind
mutual
def VR.swap(hs:De μ μ1 μ'):∀(x:IV)(K v:Value),VR μ x K->VR μ1 x v->VR μ' x v|.bool _,_,_,_,h=>h|.int _ _,_,_,_,h=>h|.str _,_,_,_,h=>h|.ptr _ _,_,_,h0,h=>by obtain⟨a,e,k⟩:=h;obtain⟨_,_,k0⟩:=h0;exact⟨a,e,k0.swap hs k⟩|.nilPtr,_,_,_,h=>h|.slice _ _ _ _ _,_,_,h0,h=>by obtain⟨a,c,e,k,l⟩:=h;obtain⟨_,_,_,_,I⟩:=h0;exact⟨a,c,e,k,I.swap hs l⟩|.nilSlice,_,_,_,h=>h|.map _,_,_,h0,h=>by obtain⟨a,e,k⟩:=h;obtain⟨_,_,k0⟩:=h0;exact⟨a,e,k0.swap hs k⟩|.nilMap,_,_,_,h=>h|.fn _ l r,_,_,h0,h=>by obtain⟨q,J,e,u,E⟩:=h;obtain⟨_,_,_,A,F⟩:=h0;exact⟨q,J,e,VRs.swap hs l _ _ A u,VRs.swap hs r _ _ F E⟩|.yield _,_,_,h0,h=>by obtain⟨a,e,k⟩:=h;obtain⟨_,_,k0⟩:=h0;exact⟨a,e,k0.swap hs k⟩|.nilFunc,_,_,_,h=>h|.iface _ x,_,_,h0,h=>by obtain⟨O,e,k⟩:=h;obtain⟨_,_,k0⟩:=h0;exact⟨O,e,VR.swap hs x _ _ k0 k⟩|.nilIface,_,_,_,h=>h|.agg l,_,_,h0,h=>by obtain⟨q,e,k⟩:=h;obtain⟨_,_,k0⟩:=h0;exact⟨q,e,VRs.swap hs l _ _ k0 k⟩|.tuple l,_,_,h0,h=>by obtain⟨q,e,k⟩:=h;obtain⟨_,_,k0⟩:=h0;exact⟨q,e,VRs.swap hs l _ _ k0 k⟩
def VRs.swap(hs:De μ μ1 μ'):∀(x:List IV)(u v:List Value),VRs μ x u->VRs μ1 x v->VRs μ' x v|[],_,_,_,h=>h|x::xs,_,_,h0,h=>by obtain⟨y,ys,e,k,ks⟩:=h;obtain⟨_,_,_,k0,q⟩:=h0;exact⟨y,ys,e,VR.swap hs x _ _ k0 k,VRs.swap hs xs _ _ q ks⟩
end
def EsR.swap(hs:De μ μ1 μ'):∀{q:List (IV×IV×Nat)}{A l:List MapEntry},EsR μ q A->EsR μ1 q l->EsR μ' q l|[],_,_,_,h=>h|(k,v,_)::_,_,_,h0,h=>by obtain⟨e,u,a,b,c,d,f⟩:=h;obtain⟨_,_,_,b0,c0,_,f0⟩:=h0;exact⟨e,u,a,VR.swap hs k _ _ b0 b,VR.swap hs v _ _ c0 c,d,EsR.swap hs f0 f⟩
def ObjR.swap{P:Program}(hs:De μ μ1 μ'){o:IObj}{p Z ez F z z0:Nat}{h h0:Option Obj}(k0:ObjR P μ o Z F z0 h0)(k:ObjR P μ1 o p ez z h):ObjR P μ' o p ez z h:=by cases o with|cells ro e T cs=>cases ro;{obtain⟨a,b,q,c,d,A,f⟩:=k;obtain⟨_,_,_,_,_,_,f0⟩:=k0;exact⟨a,b,q,c,d,A,VRs.swap hs _ _ _ f0 f⟩};{obtain⟨a,q,A,U,b,c,f⟩:=k;obtain⟨_,_,_,_,_,_,f0⟩:=k0;exact⟨a,q,A,U,b,c,VRs.swap hs _ _ _ f0 f⟩}|map es u=>obtain⟨a,E,b,c⟩:=k;obtain⟨_,_,_,c0⟩:=k0;exact⟨a,E,b,EsR.swap hs c0 c⟩|loop st pend tm ps K body df=>obtain⟨a,L,b,c,d,e,f,g,i,j⟩:=k;obtain⟨_,_,_,_,_,O,_,_,_,V⟩:=k0;exact⟨a,L,b,c,d,VRs.swap hs _ _ _ O e,f,g,i,V.swap hs j⟩|deferred=>exact k|taken=>exact k|iter m I seen J=>obtain⟨a,Y,b,c⟩:=k;obtain⟨_,_,_,c0⟩:=k0;exact⟨a,Y,b,VR.swap hs _ _ _ c0 c⟩|dead=>exact k
end
structure FixOk(lo:Nat)(H H1 Hs:Heap)(σ:Nat→Nat):Prop where
 hn:H.n≤Hs.n
 s0:∀b,b < H.n→σ b=b
 s1:∀b,H.n≤b→b < Hs.n→H.n≤σ b∧σ b < H1.n
 s2:∀b b',H.n≤b→b < Hs.n→H.n≤b'→b' < Hs.n→σ b=σ b'→b=b'
 low:∀b,b < lo→b < H.n→Hs.get b=H.get b
 old:∀b,b < H.n→(Hs.get b=H.get b∧H1.get b=H.get b)∨(lo≤b∧Hs.get b=some .dead)∨
  (lo≤b∧bk H.get b∧∃e z cs,Hs.get b=some (.cells false e z cs)∧H1.get b=some (.cells false e z (cs.map (Bj σ)))∧cs.all RN=true∧∀c∈cs,nmC Hs.n c)
 new:∀b,H.n≤b→b < Hs.n→∃e z cs,Hs.get b=some (.cells false e z cs)∧H1.get (σ b)=some (.cells false e z (cs.map (Bj σ)))∧cs.all RN=true∧∀c∈cs,nmC Hs.n c
section
variable {P:Program}{g0 lo:Nat}
def V8{μ A:Mu}{H H1 I:Heap}{w w1:World}{T:Nat->Nat}(cd:g0<=lo)(hr:Rel P g0 μ H.get H.n w)(r1:Rel P g0 A H1.get H1.n w1)(V:Post lo μ H.get H.n w A H1.get H1.n w1)(u:FixOk lo H H1 I T):∃aE,Rel P g0 aE I.get I.n w1/\Post lo μ H.get H.n w aE I.get I.n w1/\∀b,b<I.n->aE b=A (T b)\/aE b=.dead:=by let m2:Mu:=λb=>if b<I.n then(if I.get b=some .dead/\A (T b)≠.no then .dead else A (T b)) else .no;have b3:∀b,I.n<=b->m2 b=.no:=λb h=>by{grind};have bw:∀b,b<I.n->I.get b=some .dead->A (T b)≠.no->m2 b=.dead:=λb E q h3=>by{grind};have ba:∀b,b<I.n->¬(I.get b=some .dead/\A (T b)≠.no)->m2 b=A (T b):=λb E q=>by{grind};have Z:∀b,b<I.n->m2 b=A (T b)\/m2 b=.dead:=λb h=>by{grind};have b7:∀b,b<I.n->A (T b)=.no->m2 b=.no:=λb E q=>by{grind};have ap:∀b c p ez z,m2 b=.at c p ez z->b<I.n/\A (T b)=.at c p ez z/\I.get b≠some .dead:=by{grind};have a9:∀b b',b<I.n->b'<I.n->T b=T b'->b=b':=by{intro b b' E q he;rcases cW b H.n with c1|c1<;>rcases cW b' H.n with c2|c2;{rw[u.s0 b c1,u.s0 b' c2] at he;exact he};{have:=u.s0 b c1;have:=u.s1 b' c2 q;omega};{have:=u.s0 b' c2;have:=u.s1 b c1 E;omega};{exact u.s2 b b' c1 E c2 q he}};have bd:De μ A m2:=λb F=>by{have K:=hr.lt b F;have:=Z b (bX K u.hn);rwa [u.s0 b K] at this};have bc:∀b,b<I.n->bk I.get b->bk H1.get (T b):=by{rintro b F ⟨o,E,q⟩;rcases cW b H.n with c|c;{rw[u.s0 b c];rcases u.old b c with⟨J,U⟩|⟨_,J⟩|⟨_,_,e,z,cs,J,U,_⟩;{exact⟨o,by rw[U,<-J];exact E,q⟩};{rw[J] at E;injection E with E;subst E;cases q};{exact⟨_,U,rfl⟩}};{obtain⟨e,z,cs,J,U,_⟩:=u.new b c F;exact⟨_,U,rfl⟩}};have b5:μ.le m2:=λb F=>by{have K:=hr.lt b F;rcases bd b F with e|e;{rw[e];exact V.le b F};{exact .inr e}};refine⟨m2,⟨?_,?_,?_,?_,?_⟩,⟨b5,u.hn,?_,?_,?_,?_,?_,V.size,V.frame,V.os,V.tape,V.output,V.drawn⟩,Z⟩;{grind};{intro b b' c p ez z p' b8 z' F bo ho;obtain⟨E,q,_⟩:=ap _ _ _ _ _ F;obtain⟨h3,h4,_⟩:=ap _ _ _ _ _ bo;exact a9 b b' E h3 (r1.inj _ _ _ _ _ _ _ _ _ q h4 (bc b E ho))};{intro b c p ez z F;obtain⟨E,q,h3⟩:=ap _ _ _ _ _ F;obtain⟨o1,g1,k1⟩:=r1.obj _ c p ez z q;rcases cW b H.n with cc|cc;{have e0:=u.s0 b cc;rw[e0] at g1 q;rcases u.old b cc with⟨J,U⟩|⟨_,J⟩|⟨_,_,e,z',cs,J,U,a3,a4⟩;{rw[U] at g1;refine⟨o1,by rw[J];exact g1,?_⟩;have b6:μ b≠.no:=λh=>by{rw[V.old b cc h] at q;cases q};obtain⟨c0,p0,ad,z0,bt⟩:∃c0 p0 ad z0,μ b=.at c0 p0 ad z0:=by{cases hm:μ b with|no=>exact absurd hm b6|dead=>have:=hr.ded b hm;rw[g1] at this;injection this with this;subst this;exact k1.elim|«at» c0 p0 ad z0=>exact⟨_,_,_,_,rfl⟩};obtain⟨o0,O,k0⟩:=hr.obj b _ _ _ _ bt;rw[g1] at O;injection O with O;subst O;exact k0.swap bd k1};{exact absurd J h3};{rw[U] at g1;injection g1 with g1;subst g1;obtain⟨q1,q2,a5,q3,q4,q5,q6⟩:=k1;rw[aT] at q5 q6;exact⟨_,J,q1,q2,a5,q3,q4,q5,mM Z a3 a4 q6⟩}};{obtain⟨e,z',cs,J,U,a3,a4⟩:=u.new b cc E;rw[U] at g1;injection g1 with g1;subst g1;obtain⟨q1,q2,a5,q3,q4,q5,q6⟩:=k1;rw[aT] at q5 q6;exact⟨_,J,q1,q2,a5,q3,q4,q5,mM Z a3 a4 q6⟩}};{intro i hi;have b4:=hr.glob i hi;have K:=hr.lt i (by grind);have E:=r1.glob i hi;have e0:=u.s0 i K;rcases Z i (bX K u.hn) with e|e;{rw[e,e0];exact E};{have hd:I.get i=some .dead:=by{grind};rw[u.low i Om K] at hd;obtain⟨o,g,k⟩:=hr.obj i _ _ _ _ b4;rw[hd] at g;injection g with g;subst g;exact k.elim}};{intro b F;have K:b<I.n:=Gs λh=>by{rw[b3 b h] at F;cases F};by_cases q:I.get b=some .dead/\A (T b)≠.no;{exact q.1};{rw[ba b K q] at F;have hd:=r1.ded _ F;rcases cW b H.n with cc|cc;{rw[u.s0 b cc] at hd;rcases u.old b cc with⟨J,U⟩|⟨_,J⟩|⟨_,_,e,z',cs,J,U,_⟩<;>grind};{obtain⟨e,z',cs,J,U,_⟩:=u.new b cc K;grind}}};{intro b F h;exact b7 b (bX F u.hn) (by rw[u.s0 b F];exact V.old b F h)};{intro b F Y;have hl:=V.low b F Y;have hg:=u.low b F Y;refine⟨?_,hg⟩;have a6:=bX Y u.hn;by_cases q:I.get b=some .dead/\A (T b)≠.no;{rw[bw b a6 q.1 q.2];have h3:=q.2;rw[u.s0 b Y,hl.1] at h3;cases hm:μ b with|no=>exact absurd hm h3|dead=>rfl|«at» c0 p0 ad z0=>obtain⟨o0,O,k0⟩:=hr.obj b _ _ _ _ hm;rw[<-hg,q.1] at O;injection O with O;subst O;exact k0.elim};{rw[ba b a6 q,u.s0 b Y];exact hl.1}};{rintro b F ⟨o,E,q⟩;rcases u.old b F with⟨J,_⟩|⟨_,J⟩|⟨_,a0,_⟩;{exact⟨o,by rw[<-J];exact E,q⟩};{rw[J] at E;injection E with E;subst E;cases q};{exact a0}};{intro b c p ez z F e;obtain⟨E,q,_⟩:=ap _ _ _ _ _ e;exact V.new _ c p ez z (u.s1 b F E).1 q};{intro b E q;have:=u.s1 b E q;have h3:=V.full _ this.1 this.2;grind}
def TA{f:FuncId}{fn:IFn}(u:al P f=some fn){args:List IV}{H Hs:Heap}{v:List IV}(a0:g0<=lo){NC:Prop}(bc:∀(μ:Mu)(w:World)(q:Array Value),Rel P g0 μ H.get H.n w->VRs μ args q.toList->NC)(J:NC->∀E c,P.funcs[f]? =some E->E.body=some c->a8 P c=some fn.body->NItem P g0 lo (.code c) none ⟨args++dg (fn.ntmps - args.length),[]⟩ H λo H'=>∃e F,o=.ex e F/\(∀id,e≠.jmp (.exit id))/\F.marks=[]/\ ∃σ,aD H' F.tm fn.results=some [.agg (v.map (Bj σ))]/\v.all RN=true/\(∀c∈v,nmC Hs.n c)/\FixOk lo H H' Hs σ):CallSim P g0 f args lo H (.agg v) Hs:=by unfold al at u;cases U:P.funcs[f]? with|none=>rw[U] at u;cases u|some E=>rw[U] at u;simp only at u;split at u;{cases u};{cases hb:E.body with|none=>rw[hb] at u;cases u|some c=>rw[hb] at u;simp only at u;cases A:E.results.toList.mapM (yK P) with|none=>rw[A] at u;cases u|some b5=>cases K:a8 P c with|none=>rw[A,K] at u;cases u|some ic=>rw[A,K] at u;injection u with u;subst u;intro μ w q hr ha cs;have hs:=J (bc μ w q hr ha) E c U hb K;have ht:VRs μ (args++dg (E.ntmps - args.length)) (q++Array.replicate (E.ntmps - q.size) undef).toList:=by{have hl:args.length=q.size:=by{have:=ha.length;simpa using this};rw[hl,Bq,Array.toList_replicate];exact ha.append (ov _)};obtain⟨e,b4,H1,b3,w1,t1,ad,⟨e',F,ap,he,ba,σ,hv,bo,bd,aE⟩,a1,a2,a3,Z,a5⟩:=hs μ w _ none [] hr ht rfl rfl f [] cs;injection ap with q1 q2;subst q1 q2;rw[ba] at Z;have Z:ad=[]:=Z;subst Z;have I:Frame.enter P f q .normal=bN f none (q++Array.replicate (E.ntmps - q.size) undef) [] [.code c]:=by{simp[Frame.enter,bN,U,hb]};have a9:∃todo,Steps P (lone (Frame.enter P f q .normal) cs w) (lone (PP f t1 [] todo) cs w1):=by{rw[I];cases e with|normal=>exact⟨[],Steps.trans a5 (.one (uk (.inl rfl)))⟩|jmp j=>cases j with|exit id=>exact absurd rfl (he id)|ret=>obtain⟨pre,b1,_⟩:=a5;exact⟨_,Steps.trans b1 (.one (uk (.inr ⟨_,rfl⟩)))⟩};obtain⟨todo,bw⟩:=a9;obtain⟨v',Y,T⟩:=sH a1 a3 A hv;have T:VR b3 (.agg (v.map (Bj σ))) v':=T;obtain⟨m2,V,O,bt⟩:=V8 a0 hr a1 a2 aE;refine⟨.returned v',w1,PP f t1 [] todo,⟨v',m2,rfl,V,O,?_⟩,bw,rfl,rfl,rfl,rfl,E,U,Y⟩;obtain⟨l',e',a6⟩:=T;exact⟨l',e',mM bt bo bd a6⟩}
noncomputable def mu(P:Program)(g0:Nat)(f:FuncId)(C:List IV->Heap->Option (IV×Heap)):List IV->Nat->Heap->Option (IV×Heap):=λargs lo H=>match C args H with|some (v,H')=>if Keep lo H H'/\CallSim P g0 f args lo H v H' then some (v,H') else none|none=>none
def yC{f:FuncId}{C:List IV->Heap->Option (IV×Heap)}{args:List IV}{H H':Heap}{v:IV}(q:C args H=some (v,H'))(u:Keep lo H H')(hs:CallSim P g0 f args lo H v H'):mu P g0 f C args lo H=some (v,H'):=by simp_all[mu,if_pos]
def G1{f:FuncId}{C:List IV->Heap->Option (IV×Heap)}{args:List IV}{H H':Heap}{v:IV}(h:mu P g0 f C args lo H=some (v,H')):Keep lo H H'/\∀q,q<=lo->mu P g0 f C args q H=some (v,H'):=by unfold mu at h;split at h;{rename_i J H0 I;split at h;{rename_i u;injection h with h;injection h with E F;subst E F;exact⟨u.1,λq A=>yC I (u.1.lower A) (u.2.lower A)⟩};{cases h}};{cases h}
def LO{f:FuncId}{C:List IV->Heap->Option (IV×Heap)}{args:List IV}{H H':Heap}{v:IV}(h:mu P g0 f C args lo H=some (v,H')):CallSim P g0 f args lo H v H':=by grind[mu]
end
end Go.Iso
