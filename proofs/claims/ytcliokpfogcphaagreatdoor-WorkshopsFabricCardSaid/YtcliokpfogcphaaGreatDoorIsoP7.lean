/-
  rules of runs over ranges, slices and lists.
-/
import Derived.Test.YtcliokpfogcphaaGreatDoorIsoP6
import Derived.IntWalk
import Derived.Shelf.SlSortCmp.NoneTotal
set_option linter.unusedSimpArgs false
set_option linter.unusedVariables false
set_option maxRecDepth 100000
set_option linter.defProp false
namespace Go.Iso
section
variable {E:Env}{lo:Nat}{rd:Option Nat}{fr:Fr}{H:Heap}{Q:AG}
def R7:Option Jmp->Ex|none=>.normal|some j=>.jmp j
def aam:R7 none=.normal:=rfl
def aal{j:Jmp}:R7 (some j)=.jmp j:=rfl
def WF(l lo:Nat)(marks:List Nat)(fr:Fr)(Q:AG)(F:Heap)(ob:Option IObj):Prop:=match ob with|some (.loop st pend tm J q body I)=>st≠.busy/\lo<=l/\Q (.ex (R7 pend) {fr with marks:=marks++fr.marks}) (F.put l (.loop .exhausted pend tm J q body I))|_=>False
def adj(l lo:Nat)(marks:List Nat)(fr:Fr)(Q:AG):AG:=λo q=>match o with|.val _=>WF l lo marks fr Q q (q.get l)|_=>False
def ajc(E:Env)(lo:Nat)(F:List Nat)(q body:IC)(fr:Fr)(Q:AG)(g:IV)(e:Nat×List Nat×Heap):Prop:=W E lo (.apply g [.yield e.2.2.n]) (e.2.2.new (.loop .ready none fr.tm F q body e.1)) (adj e.2.2.n lo e.2.1 fr Q)
def adi{l:Nat}{marks:List Nat}{v:IV}:adj l lo marks fr Q (.val v) H=WF l lo marks fr Q H (H.get l):=rfl
def adh{l:Nat}{marks:List Nat}{st:LoopState}{pend:Option Jmp}{tm:List IV}{I:List Nat}{q body:IC}{F:Nat}:WF l lo marks fr Q H (some (.loop st pend tm I q body F))=(st≠.busy/\lo<=l/\Q (.ex (R7 pend) {fr with marks:=marks++fr.marks}) (H.put l (.loop .exhausted pend tm I q body F))):=rfl
def aey{f:IA}{ps:List Nat}{I body:IC}{g:IV}{e:Nat×List Nat×Heap}(hg:f.eval E.g0 fr.tm=some g)(he:mS rd H=some e):W E lo (.code (.rfn f ps I body) rd fr) H Q=ajc E lo ps I body fr Q g e:=by obtain⟨df,marks,H1⟩:=e;refine propext ⟨?_,?_⟩;{rintro⟨n,o,H',h,hq⟩;cases n with|zero=>cases h|succ n=>rw[run] at h;simp only[hg,he] at h;cases Y:run E n (.apply g [.yield H1.n]) lo (H1.new (.loop .ready none fr.tm ps I body df)) with|none=>rw[Y] at h;cases h|some p=>rw[Y] at h;obtain⟨o1,K⟩:=p;refine⟨n,o1,K,Y,?_⟩;cases o1 with|ex e fr=>cases h|val v=>simp only at h;show WF _ _ _ _ _ _ _;cases U:K.get H1.n with|none=>rw[U] at h;cases h|some ob=>rw[U] at h;cases ob with|loop st pend tm V F q O=>(simp only at h;split at h;{cases h};{rename_i hn;refine⟨λe=>hn (.inl e),Nat.le_of_not_lt λe=>hn (.inr e),?_⟩;cases pend with|none=>injection h with h;injection h with Z h4;subst Z h4;exact hq|some j=>injection h with h;injection h with Z h4;subst Z h4;exact hq})|_=>cases h};{intro h;refine ahT hg he (h.mono λo K h=>?_);cases o with|ex e fr=>exact h.elim|val v=>have J:WF H1.n lo marks fr Q K (K.get H1.n):=h;cases U:K.get H1.n with|none=>rw[U] at J;exact J.elim|some ob=>rw[U] at J;cases ob with|loop st pend tm V F q O=>exact⟨v,st,pend,tm,V,F,q,O,rfl,rfl,J.1,J.2.1,by cases pend<;>exact J.2.2⟩|_=>exact J.elim}
def aez{f:IA}{I:List Nat}{q body:IC}:W E lo (.code (.rfn f I q body) none fr) H Q=qX (f.eval E.g0 fr.tm) λg=>W E lo (.apply g [.yield (H.n+1)]) ((H.new .deferred).new (.loop .ready none fr.tm I q body H.n)) (adj (H.n+1) lo [H.n] fr Q):=by cases F:f.eval E.g0 fr.tm with|none=>(refine propext ⟨?_,λh=>h.elim⟩;rintro⟨n,o,H',h,J⟩;cases n with|zero=>cases h|succ n=>rw[run] at h;simp only[F] at h;cases h)|some g=>exact aey F (e:=(H.n,[H.n],H.new .deferred)) rfl
def Im(l:Nat)(Q:AG)(e:Ex)(H:Heap)(ob:Option IObj):Prop:=match ob with|some (.loop _ _ tm I q body F)=>(match e with|.normal=>Q (.val (.bool true)) (H.put l (.loop .ready none tm I q body F))|.jmp j=>Q (.val (.bool false)) (H.put l (.loop .done (some j) tm I q body F)))|_=>False
def VJ(l:Nat)(Q:AG):AG:=λo H=>match o with|.ex e _=>Im l Q e H (H.get l)|_=>False
def Ff(E:Env)(lo l:Nat)(body:IC)(Q:AG)(fr:Fr)(H:Heap)(ob:Option IObj):Prop:=match ob with|some (.loop .ready pend tm J F q I)=>W E lo (.code body (some l) fr) (H.put l (.loop .busy pend tm J F q I)) (VJ l Q)|_=>False
def Qh(E:Env)(lo l:Nat)(body:IC)(Q:AG):AG:=λo H=>match o with|.ex .normal fr=>Ff E lo l body Q fr H (H.get l)|_=>False
def Vh(E:Env)(lo l:Nat)(args:List IV)(Q:AG)(H:Heap)(ob:Option IObj):Prop:=match ob with|some (.loop _ _ tm F q body _)=>args.length=F.length/\lo<=l/\W E lo (.code q (some l) ⟨jT tm F args,[]⟩) H (Qh E lo l body Q)|_=>False
def ZJ{l:Nat}{e:Ex}:VJ l Q (.ex e fr) H=Im l Q e H (H.get l):=rfl
def ZH{l:Nat}{st:LoopState}{pend:Option Jmp}{tm:List IV}{I:List Nat}{q body:IC}{F:Nat}:Im l Q .normal H (some (.loop st pend tm I q body F))=Q (.val (.bool true)) (H.put l (.loop .ready none tm I q body F)):=rfl
def ZI{l:Nat}{j:Jmp}{st:LoopState}{pend:Option Jmp}{tm:List IV}{I:List Nat}{q body:IC}{F:Nat}:Im l Q (.jmp j) H (some (.loop st pend tm I q body F))=Q (.val (.bool false)) (H.put l (.loop .done (some j) tm I q body F)):=rfl
def WM{l:Nat}{body:IC}:Qh E lo l body Q (.ex .normal fr) H=Ff E lo l body Q fr H (H.get l):=rfl
def WL{l:Nat}{body q:IC}{pend:Option Jmp}{tm:List IV}{J:List Nat}{F:IC}{I:Nat}:Ff E lo l body Q fr H (some (.loop .ready pend tm J F q I))=W E lo (.code body (some l) fr) (H.put l (.loop .busy pend tm J F q I)) (VJ l Q):=rfl
def Vg{l:Nat}{args:List IV}{st:LoopState}{pend:Option Jmp}{tm:List IV}{F:List Nat}{q body:IC}{I:Nat}:Vh E lo l args Q H (some (.loop st pend tm F q body I))=(args.length=F.length/\lo<=l/\W E lo (.code q (some l) ⟨jT tm F args,[]⟩) H (Qh E lo l body Q)):=rfl
def Hv{l:Nat}{args:List IV}:W E lo (.apply (.yield l) args) H Q=Vh E lo l args Q H (H.get l):=by refine propext ⟨?_,?_⟩;{rintro⟨n,o,H',h,hq⟩;cases n with|zero=>cases h|succ n=>rw[run] at h;(try simp only at h);cases hg:H.get l with|none=>rw[hg] at h;cases h|some ob=>rw[hg] at h;cases ob with|loop st pend tm ps ad body df=>simp only at h;split at h;{rename_i hl;refine⟨hl.1,hl.2,?_⟩;cases h1:run E n (.code ad (some l) ⟨jT tm ps args,[]⟩) lo H with|none=>rw[h1] at h;cases h|some p=>rw[h1] at h;obtain⟨o1,H1⟩:=p;refine⟨n,o1,H1,h1,?_⟩;cases o1 with|val v=>cases h|ex e fr=>cases e with|jmp j=>cases h|normal=>simp only at h;show Ff _ _ _ _ _ _ _ _;simp only[oM] at h;cases hb:H1.get l with|none=>rw[hb] at h;cases h|some U=>rw[hb] at h;cases U with|loop Z I a1 a0 J F aS=>(cases Z with|ready=>(simp only at h;cases h2:run E n (.code body (some l) fr) lo (H1.put l (.loop .busy I a1 a0 J F aS)) with|none=>rw[h2] at h;cases h|some p=>rw[h2] at h;obtain⟨o3,H3⟩:=p;refine⟨n,o3,H3,h2,?_⟩;cases o3 with|val v=>cases h|ex e fr3=>simp only[HW] at h;show Im _ _ _ _ _;cases O:H3.get l with|none=>rw[O] at h;cases h|some V=>rw[O] at h;cases V with|loop a4 Y Kr a3 aE K a2=>(cases e with|normal=>injection h with h;injection h with h3 h4;subst h3 h4;exact hq|jmp j=>injection h with h;injection h with h3 h4;subst h3 h4;exact hq)|_=>cases h)|_=>cases h)|_=>cases h};{cases h}|_=>cases h};{intro h;cases hg:H.get l with|none=>rw[hg] at h;exact h.elim|some ob=>rw[hg] at h;cases ob with|loop st pend tm ps ad body df=>(obtain⟨h1,h2,h3⟩:=h;refine abl hg h1 h2 (h3.mono λo H1 h=>?_);cases o with|val v=>exact h.elim|ex e fr=>cases e with|jmp j=>exact h.elim|normal=>have h':Ff E lo l body Q fr H1 (H1.get l):=h;cases hb:H1.get l with|none=>rw[hb] at h';exact h'.elim|some U=>rw[hb] at h';cases U with|loop Z I a1 a0 J F aS=>(cases Z with|ready=>(refine⟨fr,_,rfl,by simp only[oM,hb],W.mono h' λo H3 h=>?_⟩;cases o with|val v=>exact h.elim|ex e fr3=>have q:Im l Q e H3 (H3.get l):=h;cases O:H3.get l with|none=>rw[O] at q;exact q.elim|some V=>rw[O] at q;cases V with|loop a4 Y Kr a3 aE K a2=>(cases e with|normal=>exact⟨_,_,(_,_),rfl,by simp only[HW,O];rfl,q⟩|jmp j=>exact⟨_,_,(_,_),rfl,by simp only[HW,O];rfl,q⟩)|_=>exact q.elim)|_=>exact h'.elim)|_=>exact h'.elim)|_=>exact h.elim}
def agW(I:Nat->Fr->Heap->Prop)(k:Nat)(Q:AG):AG:=λo H=>match o with|.ex .normal fr=>∃q,q<k/\I q fr H|o=>Q o H
def aA{c:IC}(I:Nat->Fr->Heap->Prop)(h:∀k fr H,I k fr H->∀L:AG,(∀q fr H,q<k->I q fr H->L (.ex .normal fr) H)->(∀j fr H,L (.ex (.jmp j) fr) H=Q (.ex (.jmp j) fr) H)->W E lo (.code c rd fr) H L):∀(k:Nat){fr:Fr}{H:Heap},I k fr H->W E lo (.code (.loop c) rd fr) H Q:=by intro k;induction k using Nat.strongRecOn with|ind k Z=>intro fr H V;rw[oN];refine(h k fr H V (agW I k Q) (λq fr H O U=>⟨q,O,U⟩) (λj fr H=>rfl)).mono λo H' F=>?_;cases o with|val v=>exact F|ex e K=>cases e with|jmp j=>exact F|normal=>obtain⟨q,Y,J⟩:=F;exact Z q Y J
end
def aj3{a b:Nat}(h:b<a):(a=b)=False:=by simp;omega
def aj2{a b:Nat}(h:a<b):(a=b)=False:=by simp;omega
def cLe{a b:Nat}(h:a<=b):(a<=b)=True:=by simp[h]
def aj1{a b:Nat}(h:b<a):(a<=b)=False:=by simp;omega
def cLt{a b:Nat}(h:a<b):(a<b)=True:=by simp[h]
def aj0{a b:Nat}(h:b<=a):(a<b)=False:=by simp;omega
def iLe{a b:Int}(h:a<=b):(a<=b)=True:=by simp[h]
def ajt{a b:Int}(h:b<a):(a<=b)=False:=by simp;omega
def iLt{a b:Int}(h:a<b):(a<b)=True:=by simp[h]
def ajs{a b:Int}(h:b<=a):(a<b)=False:=by simp;omega
def iGe{a b:Int}(h:a>=b):(a>=b)=True:=by simp;omega
def ajv{a b:Int}(h:a<b):(a>=b)=False:=by simp;omega
def iGt{a b:Int}(h:a>b):(a>b)=True:=by simp;omega
def aju{a b:Int}(h:a<=b):(a>b)=False:=by simp;omega
def ajx{a b:Int}(h:a=b):(a==b)=true:=by simp[h]
def ahb{a b:Int}(h:a<b\/b<a):(a==b)=false:=by simp;omega
def ajw{a b:Int}(h:a<b\/b<a):(a !=b)=true:=by simp;omega
def aha{a b:Int}(h:a=b):(a !=b)=false:=by simp[h]
def agj{a:Int}(h: -9223372036854775808<=a/\a<=9223372036854775807):IntKind.i64.wrap a=a:=IntWalk.i64_in a Om
def wU8{a:Int}(h:0<=a/\a<=255):IntKind.u8.wrap a=a:=IntWalk.u8_in a h
def Rt{l:List IV}:(IV.agg l).cells=l:=rfl
def Rs{k:IntKind}{n:Int}:(IV.int k n).cells=[.int k n]:=rfl
def OY{b:Bool}:(IV.bool b).cells=[.bool b]:=rfl
def Rm{s:List UInt8}:(IV.str s).cells=[.str s]:=rfl
def Rp{b o:Nat}:(IV.ptr b o).cells=[.ptr b o]:=rfl
def Ic:IV.nilPtr.cells=[.nilPtr]:=rfl
def LY{b o n c:Nat}{ex:Bool}:(IV.slice b o n c ex).cells=[.slice b o n c ex]:=rfl
def CO:IV.nilSlice.cells=[.nilSlice]:=rfl
def Rq{b:Nat}:(IV.map b).cells=[.map b]:=rfl
def Ie:IV.nilMap.cells=[.nilMap]:=rfl
def US{f:FuncId}{a b:List IV}:(IV.fn f a b).cells=[.fn f a b]:=rfl
def LX{b:Nat}:(IV.yield b).cells=[.yield b]:=rfl
def Hn:IV.nilFunc.cells=[.nilFunc]:=rfl
def LZ{t:TypeId}{v:IV}:(IV.iface t v).cells=[.iface t v]:=rfl
def CP:IV.nilIface.cells=[.nilIface]:=rfl
def nP{k:IntKind}{n:Int}:(IV.int k n).one=true:=rfl
def wC{b:Bool}:(IV.bool b).one=true:=rfl
def W3{s:List UInt8}:(IV.str s).one=true:=rfl
def W4{b o:Nat}:(IV.ptr b o).one=true:=rfl
def Np:IV.nilPtr.one=true:=rfl
def Gb{b o n c:Nat}{ex:Bool}:(IV.slice b o n c ex).one=true:=rfl
def xm:IV.nilSlice.one=true:=rfl
def W5{b:Nat}:(IV.map b).one=true:=rfl
def Nq:IV.nilMap.one=true:=rfl
def aas{f:FuncId}{a b:List IV}:(IV.fn f a b).one=true:=rfl
def Qw{b:Nat}:(IV.yield b).one=true:=rfl
def K9:IV.nilFunc.one=true:=rfl
def Qx{t:TypeId}{v:IV}:(IV.iface t v).one=true:=rfl
def HP:IV.nilIface.one=true:=rfl
def WP(ob:IObj)(o n:Nat):Option (List IV):=match ob with|.cells _ _ _ cs=>if o+n<=cs.length then some ((cs.drop o).take n) else none|_=>none
def aai{q:Bool}{e ez:Nat}{cs:List IV}{o n:Nat}:WP (.cells q e ez cs) o n=if o+n<=cs.length then some ((cs.drop o).take n) else none:=rfl
def WO{H:Heap}{ob:IObj}{b o n:Nat}:(H.new ob).read b o n=if H.n=b then WP ob o n else H.read b o n:=by unfold Heap.read;rw[ak];by_cases h:H.n=b;{simp only[h,if_true];cases ob<;>rfl};{simp[h]}
def WN{H:Heap}{ob:IObj}{b' b o n:Nat}:(H.put b' ob).read b o n=if b'=b then WP ob o n else H.read b o n:=by unfold Heap.read;rw[aa];by_cases h:b'=b;{simp only[h,if_true];cases ob<;>rfl};{simp[h]}
def ae{H:Heap}{q:Bool}{e ez:Nat}{cs:List IV}{b:Nat}(h:H.get b=some (.cells q e ez cs))(o n:Nat):H.read b o n=if o+n<=cs.length then some ((cs.drop o).take n) else none:=by unfold Heap.read;rw[h]
def R3{H H':Heap}{b:Nat}(h:H'.get b=H.get b)(o n:Nat):H'.read b o n=H.read b o n:=by unfold Heap.read;rw[h]
def Keep.read{lo:Nat}{H H':Heap}(k:Keep lo H H')(b o n:Nat)(q:b<lo)(E:b<H.n):H'.read b o n=H.read b o n:=R3 (k.2 b q E) o n
inductive SV where
 | nil
 | sl (b o n c:Nat) (ex:Bool)
 deriving Inhabited
def SV.iv:SV->IV|.nil=>.nilSlice|.sl b o n c ex=>.slice b o n c ex
def SV.blk:SV->Nat|.nil=>0|.sl b _ _ _ _=>b
def SV.off:SV->Nat|.nil=>0|.sl _ o _ _ _=>o
def SV.tight:SV->Prop|.nil=>True|.sl _ _ n c ex=>c=n/\ex=true
def fD(v:SV):v.iv.one=true:=by cases v<;>rfl
def Pg(v:SV):v.iv.cells=[v.iv]:=by cases v<;>rfl
def Jy:SV.nil.iv=.nilSlice:=rfl
def oi{b o n c:Nat}{ex:Bool}:(SV.sl b o n c ex).iv=.slice b o n c ex:=rfl
class Cell (α:Type) where
 z:Nat
 cs:α→List IV
 len:∀a,(cs a).length=z
 one:∀a,(cs a).all IV.one=true
 pos:0 < z
instance:Cell SV where
 z:=1
 cs v:=[v.iv]
 len _:=rfl
 one v:=by simp[fD]
 pos:=by omega
theorem eM(v:SV):Cell.cs v=[v.iv]:=rfl
def dK:Cell.z SV=1:=rfl
def ie{b o n c:Nat}{ex:Bool}:(SV.sl b o n c ex).blk=b:=rfl
def mV{b o n c:Nat}{ex:Bool}:(SV.sl b o n c ex).off=o:=rfl
section
variable {α:Type}[Cell α]
def aw(l:List α):List IV:=l.flatMap Cell.cs
def XW:aw ([]:List α)=[]:=rfl
theorem bL(a:α)(l:List α):aw (a::l)=Cell.cs a++aw l:=rfl
theorem jr(a b:List α):aw (a++b)=aw a++aw b:=by simp[aw]
def Oc(a:α):aw [a]=Cell.cs a:=by simp[aw]
def ax(l:List α):(aw l).length=l.length*Cell.z α:=by induction l with|nil=>simp[aw]|cons p l q=>rw[bL,be,q,Cell.len,cV,gP];omega
def mc(l:List α):(aw l).all IV.one=true:=by induction l with|nil=>rfl|cons p l q=>rw[bL,List.all_append,q,Cell.one];rfl
theorem wI(l:List α)(k:Nat):(aw l).drop (k*Cell.z α)=aw (l.drop k):=by induction l generalizing k with|nil=>simp[aw]|cons p l q=>cases k with|zero=>simp|succ k=>rw[bL,List.drop_succ_cons,gP,Nat.add_comm,<-Cell.len p,List.drop_length_add_append,Cell.len,q]
theorem Jh(l:List α)(k:Nat):(aw l).take (k*Cell.z α)=aw (l.take k):=by induction l generalizing k with|nil=>simp[aw]|cons p l q=>cases k with|zero=>simp[aw]|succ k=>rw[bL,KY,bL,gP,Nat.add_comm,<-Cell.len p,List.take_length_add_append,Cell.len,q]
def aaW(l:List α)(i:Nat)(h:i<l.length):((aw l).drop (i*Cell.z α)).take (Cell.z α)=Cell.cs l[i]:=by grind[wI,List.drop_eq_getElem_cons,bL,Cell.len,List.take_left]
def ew{H:Heap}{b o n a m:Nat}{cs:List IV}(h:H.read b o n=some cs)(F:a+m<=n):H.read b (o+a) m=some ((cs.drop a).take m):=by unfold Heap.read at h⊢;cases q:H.get b with|none=>rw[q] at h;cases h|some ob=>rw[q] at h;cases ob with|cells I e ez E=>simp only at h⊢;split at h;{injection h with h;rw[iP,<-h,List.drop_take,List.take_take,uS,show min m (n - a)=m from by omega]};{cases h}|_=>cases h
def Sl(H:Heap)(v:SV)(l:List α):Prop:=match v with|.nil=>l=[]|.sl b o n c _=>n=l.length/\n<=c/\(l≠[]->b<H.n/\H.read b o (l.length*Cell.z α)=some (aw l))
def Sl.keep{H H':Heap}{v:SV}{l:List α}(h:Sl H v l)(k:Keep H.n H H'):Sl H' v l:=by cases v with|nil=>exact h|sl b o n c ex=>exact⟨h.1,h.2.1,λq=>⟨bR (h.2.2 q).1 k.1,(k.read b o _ (h.2.2 q).1 (h.2.2 q).1).trans (h.2.2 q).2⟩⟩
def Sl.same{H H':Heap}{v:SV}{l:List α}(h:Sl H v l)(hn:H.n<=H'.n)(E:l≠[]->H'.get v.blk=H.get v.blk):Sl H' v l:=by cases v with|nil=>exact h|sl b o n c ex=>exact⟨h.1,h.2.1,λq=>⟨bR (h.2.2 q).1 hn,(R3 (E q) o _).trans (h.2.2 q).2⟩⟩
def Sl.blk_lt{H:Heap}{v:SV}{l:List α}(h:Sl H v l)(q:l≠[]):v.blk<H.n:=by cases v with|nil=>exact absurd h q|sl b o n c ex=>exact(h.2.2 q).1
def Sl.blk_lt'{H:Heap}{v:SV}{l:List α}(h:Sl H v l){i:Nat}(q:i<l.length):v.blk<H.n:=h.blk_lt (by grind)
def fC{H:Heap}:Sl H .nil ([]:List α):=rfl
def Sl.ln{H:Heap}{v:SV}{l:List α}(h:Sl H v l)(lo:Nat)(H':Heap):ev1 .lenSl [v.iv] lo H'=some (.int .i64 l.length,H'):=by cases v with|nil=>have h:l=[]:=h;subst h;rfl|sl b o n c ex=>rw[<-h.1];rfl
def Sl.lenI{H:Heap}{v:SV}{l:List α}(h:Sl H v l):rh v.iv=some l.length:=by cases v with|nil=>have h:l=[]:=h;subst h;rfl|sl b o n c ex=>rw[<-h.1];rfl
def Sl.srcI{H:Heap}{v:SV}{l:List α}(h:Sl H v l){z:Nat}(E:Cell.z α=z):kU H z l.length v.iv=some (aw l):=by subst E;cases v with|nil=>have h:l=[]:=h;subst h;rfl|sl b o n c ex=>show(if l.length=0 then some [] else H.read b o (l.length*Cell.z α))=_;by_cases q:l=[];{subst q;rfl};{rw[if_neg (by grind)];exact(h.2.2 q).2}
def Sl.idx{H:Heap}{v:SV}{l:List α}(h:Sl H v l)(z:Nat)(x:Int)(lo:Nat)(H':Heap)(h0:0<=x)(q:x<l.length):ev1 (.idxSl z) [v.iv,.int .i64 x] lo H'=some (.ptr v.blk (v.off+x.toNat*z),H'):=by cases v with|nil=>have h:l=[]:=h;subst h;simp at q;omega|sl b o n c ex=>have hn:=h.1;simp only[ev1,SV.iv,SV.blk,SV.off];rw[if_pos ⟨h0,Om⟩]
def Sl.read{H:Heap}{v:SV}{l:List α}(h:Sl H v l){z:Nat}(F:Cell.z α=z)(i:Nat)(q:i<l.length):H.read v.blk (v.off+i*z) z=some (Cell.cs l[i]):=by subst F;have E:l≠[]:=by{grind};cases v with|nil=>exact absurd h E|sl b o n c ex=>have:=ew (a:=i*Cell.z α) (m:=Cell.z α) (h.2.2 E).2 (by rw[<-gP];exact rQ _ q);rw[aaW l i q] at this;exact this
def Sl.part{H:Heap}{b o n c:Nat}{ex:Bool}{l:List α}(h:Sl H (.sl b o n c ex) l){z:Nat}(J:Cell.z α=z){a m c':Nat}{ex':Bool}(hm:a+m<=l.length)(I:m<=c'):Sl H (.sl b (o+a*z) m c' ex') ((l.drop a).take m):=by subst J;have E:((l.drop a).take m).length=m:=by{rw[dB,pK];omega};refine⟨E.symm,I,λF=>?_⟩;have q:l≠[]:=by{intro e;rw[e] at F;simp at F};refine⟨(h.2.2 q).1,?_⟩;have:=ew (a:=a*Cell.z α) (m:=m*Cell.z α) (h.2.2 q).2 (by rw[<-xM];exact rQ _ hm);grind[wI,Jh]
def E8(n:Nat)(a:α):tI n (Cell.cs a)=aw (List.replicate n a):=by induction n with|zero=>rfl|succ n q=>rw[tI,q,FN,bL]
def Ad(l:List α)(i:Nat)(a:α)(h:i<l.length):aB (aw l) (i*Cell.z α) (Cell.cs a)=aw (l.set i a):=by have q:i*Cell.z α+Cell.z α<=(aw l).length:=by{rw[ax,<-gP];exact rQ _ h};rw[fu _ _ _ (by rw[Cell.len];exact q),Jh,Cell.len,<-gP,wI,List.set_eq_take_append_cons_drop,if_pos h];rw[jr,bL,dc]
def cG(tm:List IV)(n:Nat)(h:tm.length=n):tm=(List.range n).map λi=>tm.getD i UN:=by subst h;apply nO<;>grind
def Own(H:Heap)(b e cap:Nat)(l:List α):Prop:=l.length<=cap/\b<H.n/\∃r,H.get b=some (.cells false e (Cell.z α) (aw l++r))/\r.length=(cap - l.length)*Cell.z α
def Own.sl{H:Heap}{b e cap:Nat}{l:List α}(h:Own H b e cap l)(ex:Bool):Sl H (.sl b 0 l.length cap ex) l:=by obtain⟨q,E,r,F,I⟩:=h;refine⟨rfl,q,λ_=>⟨E,?_⟩⟩;rw[ae F,bH,if_pos (by rw[be,ax];omega),xe,<-ax,List.take_left]
def Own.same{H H':Heap}{b e cap:Nat}{l:List α}(h:Own H b e cap l)(hn:H.n<=H'.n)(J:H'.get b=H.get b):Own H' b e cap l:=by obtain⟨q,E,r,F,I⟩:=h;exact⟨q,bR E hn,r,J.trans F,I⟩
def Own.keep{H H':Heap}{b e cap:Nat}{l:List α}(h:Own H b e cap l)(k:Keep H.n H H'):Own H' b e cap l:=h.same k.1 (k.2 b h.2.1 h.2.1)
def Own.full{H:Heap}{b e:Nat}{l:List α}(h:Own H b e l.length l):H.get b=some (.cells false e (Cell.z α) (aw l)):=by obtain⟨q,E,r,F,I⟩:=h;grind
def cZ{H:Heap}{b e:Nat}{l:List α}(q:b<H.n){z:Nat}(I:Cell.z α=z){cs:List IV}(F:H.get b=some (.cells false e z cs))(E:cs=aw l):Own H b e l.length l:=by subst I E;exact⟨an _,q,[],by rw[F,dz],by simp⟩
def Own.mksl{H:Heap}{e n:Nat}{z:Nat}(q:Cell.z α=z)(a:α):Own (H.new (.cells false e z (tI n (Cell.cs a)))) H.n e n (List.replicate n a):=by subst q;refine⟨by simp,by rw[ac];omega,[],by rw[ak,if_pos rfl,dz,E8],by simp⟩
def BJ{H:Heap}{e n:Nat}{z:Nat}(E:Cell.z α=z){cs:List IV}(q:cs.length=n*z):Own (H.new (.cells false e z cs)) H.n e n ([]:List α):=by subst E;exact⟨by simp,by rw[ac];omega,cs,by rw[ak,if_pos rfl];rfl,by simp[q]⟩
def Own.set{H:Heap}{b e cap:Nat}{l:List α}(h:Own H b e cap l){z:Nat}(U:Cell.z α=z)(i:Nat)(E:i<l.length)(a:α)(lo:Nat)(q:lo<=b):∃cs,H.write lo b (i*z) (Cell.cs a)=some (H.put b (.cells false e z cs))/\Own (H.put b (.cells false e z cs)) b e cap (l.set i a):=by subst U;obtain⟨F,I,r,J,K⟩:=h;have O:=ax l;have V:i*Cell.z α+Cell.z α<=l.length*Cell.z α:=by{rw[<-gP];exact rQ _ E};refine⟨aB (aw l++r) (i*Cell.z α) (Cell.cs a),?_,?_⟩;{unfold Heap.write;rw[J];simp only;rw[if_pos ⟨q,by rw[Cell.len,be];omega,Cell.one a⟩]};{refine⟨by simp[F],I,r,?_,by simp[K]⟩;rw[aa,if_pos rfl,<-Ad l i a E,fu _ _ _ (by rw[Cell.len,be];omega),fu _ _ _ (by rw[Cell.len];omega),Cell.len];grind}
def Own.push{H:Heap}{b e cap:Nat}{l m:List α}(h:Own H b e cap l){z:Nat}(K:Cell.z α=z)(V:l.length+m.length<=cap)(lo:Nat)(J:lo<=b):∃cs,H.write lo b (l.length*z) (aw m)=some (H.put b (.cells false e z cs))/\Own (H.put b (.cells false e z cs)) b e cap (l++m):=by subst K;obtain⟨O,I,r,U,F⟩:=h;have E:=ax l;have q:=ax m;have Y:(aw m).length<=r.length:=by{rw[q,F];exact rQ _ Om};refine⟨aB (aw l++r) (l.length*Cell.z α) (aw m),?_,?_⟩;{simp_all[Heap.write,if_pos,be,mc]};{refine⟨by simp;omega,I,r.drop (aw m).length,?_,?_⟩;{rw[aa,if_pos rfl,fu _ _ _ (by grind),jr,<-E,List.take_left,List.drop_length_add_append]};{rw[pK,F,q,be,<-Nat.sub_mul];congr 1;omega}}
end
section
variable {α:Type}[Cell α]
theorem Keep.newPut{H:Heap}{o o':IObj}:Keep H.n H ((H.new o).put H.n o'):=(Keep.new _ _).trans (.put _ _ (an _))
def gS{H:Heap}{v:SV}{l:List α}(F:Sl H v l){z:Nat}(U:Cell.z α=z)(e lo:Nat)(zs:List IV)(J:zs.length=z)(E:lo<=H.n):∃q,ev1 (.copy z) [.slice H.n 0 l.length l.length true,v.iv] lo (H.new (.cells false e z (tI l.length zs)))=some (.int .i64 l.length,q)/\q.n=H.n+1/\Keep H.n H q/\Own q H.n e l.length l:=by subst U;have I:=F.keep (H':=H.new (.cells false e (Cell.z α) (tI l.length zs))) (Keep.new _ _);have K:tu (.slice H.n 0 l.length l.length true)=some l.length:=rfl;by_cases h0:l=[];{subst h0;refine⟨H.new (.cells false e (Cell.z α) []),?_,ac _ _,Keep.new _ _,cZ (l:=[]) (cs:=[]) (by rw[ac];omega) rfl (by rw[ak,if_pos rfl]) rfl⟩;simp only[ev1,K,F.lenI];rfl};{have O:0<l.length:=List.length_pos_iff.2 h0;refine⟨(H.new (.cells false e (Cell.z α) (tI l.length zs))).put H.n (.cells false e (Cell.z α) (aw l)),?_,by rw[af,ac],Keep.newPut,cZ (by rw[af,ac];omega) rfl (by rw[aa,if_pos rfl]) rfl⟩;simp only[ev1,K,F.lenI];rw[Nat.min_self,iN,I.srcI rfl];simp only[bQ,Heap.write];rw[ak,if_pos rfl];simp only;have V:(tI l.length zs).length=(aw l).length:=by{rw[fI,J,ax]};rw[if_pos ⟨E,Om,mc l⟩,fu _ _ _ Om];grind}
def Own.put{H:Heap}{b e:Nat}{l:List α}(h:Own H b e l.length l){z:Nat}(E:Cell.z α=z)(i:Nat)(q:i<l.length)(a:α):Own (H.put b (.cells false e z (aB (aw l) (i*z) (Cell.cs a)))) b e l.length (l.set i a):=by subst E;rw[Ad l i a q];have:=cZ (H:=H.put b (.cells false e (Cell.z α) (aw (l.set i a)))) (l:=l.set i a) (b:=b) (e:=e) h.2.1 rfl (by rw[aa,if_pos rfl]) rfl;grind
def YF{H:Heap}{b e n:Nat}{ex:Bool}{d l:List α}{v:SV}(E:Own H b e n d)(hd:d.length=n)(F:Sl H v l){z:Nat}(hz:Cell.z α=z)(lo:Nat)(Y:l.length<=n)(ad:lo<=b):∃q,ev1 (.copy z) [.slice b 0 n n ex,v.iv] lo H=some (.int .i64 l.length,q)/\q.n=H.n/\(∀x,x≠b->q.get x=H.get x)/\Own q b e n (l++d.drop l.length):=by subst hz hd;have I:tu (.slice b 0 d.length d.length ex)=some d.length:=rfl;have O:=E.full;by_cases h0:l=[];{subst h0;refine⟨H,?_,rfl,λ_ _=>rfl,by simpa using E⟩;simp only[ev1,I,F.lenI];rw[if_pos (by simp)];rfl};{have K:0<l.length:=List.length_pos_iff.2 h0;have V:=ax l;have U:=ax d;have Z:(aw l).length<=(aw d).length:=by{simp_all[rQ]};refine⟨H.put b (.cells false e (Cell.z α) (aw (l++d.drop l.length))),?_,af _ _ _,λx hx=>by rw[aa,if_neg (Ne.symm hx)],?_⟩;{simp only[ev1,I,F.lenI];rw[zF Y,iN,F.srcI rfl];simp only[bQ,Heap.write,O];simp_all[if_pos,mc,fu,xd,nN,bH,wI,jr]};{have J:(l++d.drop l.length).length=d.length:=by{rw[be,pK];omega};have:=cZ (H:=H.put b (.cells false e (Cell.z α) (aw (l++d.drop l.length)))) (l:=l++d.drop l.length) (b:=b) (e:=e) E.2.1 rfl (by rw[aa,if_pos rfl]) rfl;grind}}
def ju{H:Heap}{b e cap:Nat}{ex:Bool}{l m:List α}{v:SV}(K:Own H b e cap l)(I:Sl H v m){z:Nat}(J:Cell.z α=z)(bytes lo:Nat)(U:l.length+m.length<=cap)(E:lo<=b):∃q,ev1 (.append e z bytes) [.slice b 0 l.length cap ex,v.iv] lo H=some (.slice b 0 (l.length+m.length) cap ex,q)/\q.n=H.n/\(∀b',b'≠b->q.get b'=H.get b')/\Own q b e cap (l++m):=by simp only[ev1,I.lenI,I.srcI J,bQ,eV];rw[if_neg (by rw[mc];decide)];by_cases h0:m=[];{grind};{have F:0<m.length:=List.length_pos_iff.2 h0;obtain⟨cs,V,O⟩:=K.push J U lo E;simp_all[af,aa,if_neg,Ne.symm,if_pos,bH]}
def qH{H:Heap}{b e n:Nat}{l m:List α}{v:SV}(V:Own H b e n l)(hn:n=l.length)(J:Sl H v m){z:Nat}(Y:Cell.z α=z)(bytes lo:Nat)(hm:m≠[])(O:(l.length+m.length)*(bytes+1)<=2^40)(F:lo<=b):∃q,ev1 (.append e z bytes) [.slice b 0 l.length n false,v.iv] lo H=some (.slice H.n 0 (l.length+m.length) (l.length+m.length) false,q)/\q.n=H.n+1/\(∀b',b'≠b->b'<H.n->q.get b'=H.get b')/\Own q H.n e (l.length+m.length) (l++m):=by subst hn Y;have I:0<m.length:=List.length_pos_iff.2 hm;have U:=V.full;simp only[ev1,J.lenI,J.srcI rfl,bQ,eV];rw[if_neg (by rw[mc];decide)];rw[iN,iN,if_pos O,U];simp only[jE,if_false];have E:=ax l;rw[if_pos ⟨trivial,trivial,Cell.pos,trivial,F,Om⟩];refine⟨_,rfl,by rw[ac,af],λb' K Z=>by rw[ak,if_neg (by rw[af];omega),aa,if_neg (Ne.symm K)],?_⟩;rw[<-E,xS,<-jr,<-be];exact cZ (by rw[ac,af];omega) rfl (by rw[ak,if_pos (af _ _ _)]) rfl
def yp{H:Heap}{e:Nat}{m:List α}{v:SV}(F:Sl H v m){z:Nat}(J:Cell.z α=z)(bytes lo:Nat)(hm:m≠[])(I:m.length*(bytes+1)<=2^40):∃q,ev1 (.append e z bytes) [.nilSlice,v.iv] lo H=some (.slice H.n 0 m.length m.length false,q)/\q.n=H.n+1/\Keep H.n H q/\Own q H.n e m.length m:=by subst J;have E:0<m.length:=List.length_pos_iff.2 hm;simp only[ev1,F.lenI,F.srcI rfl,bQ,eV];rw[if_neg (by rw[mc];decide)];rw[iN,if_pos I];exact⟨_,rfl,ac _ _,Keep.new _ _,cZ (by rw[ac];omega) rfl (by rw[ak,if_pos rfl]) rfl⟩
def oe{H:Heap}{b o n e:Nat}{l m:List α}{v:SV}(hs:Sl H (.sl b o l.length n true) l)(I:Sl H v m){z:Nat}(K:Cell.z α=z)(bytes lo:Nat)(hm:m≠[])(hn:n<l.length+m.length)(J:(l.length+m.length)*(bytes+1)<=2^40):∃E,ev1 (.append e z bytes) [.slice b o l.length n true,v.iv] lo H=some (.slice H.n 0 (l.length+m.length) (l.length+m.length) false,E)/\E.n=H.n+1/\Keep H.n H E/\Own E H.n e (l.length+m.length) (l++m):=by subst K;have F:0<m.length:=List.length_pos_iff.2 hm;have q:=hs.srcI rfl;simp only[SV.iv] at q;simp only[ev1,I.lenI,I.srcI rfl,bQ,eV];rw[if_neg (by rw[mc];decide)];rw[iN,iN,if_pos J,if_pos trivial,q];refine⟨_,rfl,ac _ _,Keep.new _ _,?_⟩;rw[<-jr,<-be];exact cZ (by rw[ac];omega) rfl (by rw[ak,if_pos rfl]) rfl
end
section
variable {α:Type}[Cell α]
def Sl2(H:Heap)(v:SV)(ls:List (List α)):Prop:=∃vs:List SV,Sl H v vs/\vs.length=ls.length/\∀(i:Nat)(h:i<ls.length)(q:i<vs.length),Sl H vs[i] ls[i]
def Sl2.keep{H H':Heap}{v:SV}{ls:List (List α)}(h:Sl2 H v ls)(k:Keep H.n H H'):Sl2 H' v ls:=by obtain⟨vs,q,E,F⟩:=h;exact⟨vs,q.keep k,E,λi a b=>(F i a b).keep k⟩
def Sl2.ln{H:Heap}{v:SV}{ls:List (List α)}(h:Sl2 H v ls)(lo:Nat)(H':Heap):ev1 .lenSl [v.iv] lo H'=some (.int .i64 ls.length,H'):=by obtain⟨vs,q,E,F⟩:=h;rw[q.ln,E]
def Sl2.idx{H:Heap}{v:SV}{ls:List (List α)}(h:Sl2 H v ls)(z:Nat)(x:Int)(lo:Nat)(H':Heap)(h0:0<=x)(E:x<ls.length):ev1 (.idxSl z) [v.iv,.int .i64 x] lo H'=some (.ptr v.blk (v.off+x.toNat*z),H'):=by obtain⟨vs,g1,g2,q⟩:=h;exact g1.idx z x lo H' h0 Om
def Sl2.elem{H:Heap}{v:SV}{ls:List (List α)}(h:Sl2 H v ls)(i:Nat)(E:i<ls.length):∃w:SV,H.read v.blk (v.off+i*1) 1=some [w.iv]/\Sl H w ls[i]/\v.blk<H.n:=by obtain⟨vs,g1,g2,q⟩:=h;exact⟨vs[i]'Om,g1.read (α:=SV) rfl i Om,q i E Om,g1.blk_lt' (i:=i) Om⟩
def Sl2.nil{H:Heap}:Sl2 H .nil ([]:List (List α)):=⟨[],rfl,rfl,λi h=>by simp at h⟩
def Fresh(n0:Nat)(H:Heap)(e:Nat)(v:SV)(l:List α):Prop:=(v=.nil/\l=[])\/∃b,v=.sl b 0 l.length l.length true/\n0<=b/\Own H b e l.length l
def Fresh.sl{n0:Nat}{H:Heap}{e:Nat}{v:SV}{l:List α}(h:Fresh n0 H e v l):Sl H v l:=by rcases h with⟨rfl,rfl⟩|⟨b,rfl,E,q⟩;{exact fC};{exact q.sl true}
def Fresh.keep{n0:Nat}{H H':Heap}{e:Nat}{v:SV}{l:List α}(h:Fresh n0 H e v l)(k:Keep H.n H H'):Fresh n0 H' e v l:=by rcases h with⟨rfl,rfl⟩|⟨b,rfl,q,E⟩;{exact .inl ⟨rfl,rfl⟩};{exact .inr ⟨b,rfl,q,E.keep k⟩}
end
def Sl.cellsAt{α:Type}[Cell α]{H:Heap}{v:SV}{l:List α}(h:Sl H v l)(I:l≠[]):∃E e ez cs,H.get v.blk=some (.cells E e ez cs):=by cases v with|nil=>exact absurd h I|sl b o n c ex=>have q:=(h.2.2 I).2;unfold Heap.read at q;show ∃E e ez cs,H.get b=_;cases F:H.get b with|none=>rw[F] at q;cases q|some ob=>rw[F] at q;cases ob with|cells E e ez cs=>exact⟨_,_,_,_,rfl⟩|_=>cases q
def Sl.off{α:Type}[Cell α]{H:Heap}{v:SV}{l:List α}(h:Sl H v l)(E:l≠[]){x:Nat}{ob:IObj}(hx:H.get x=some ob)(F:∀q e ez cs,ob≠.cells q e ez cs):v.blk≠x:=by intro e;obtain⟨q,a,b,c,I⟩:=h.cellsAt E;grind
def bA{α:Type}:List (List α)->Nat|[]=>0|a::l=>if bA l=0/\a=[] then 0 else bA l+1
theorem ld{α:Type}:∀l:List (List α),bA l<=l.length|[]=>an _|a::l=>by have:=ld l;grind[bA,List.length_cons]
def jX{α:Type}:∀(l:List (List α))(i:Nat)(h:i<l.length),bA l<=i->l[i]=[]|[],_,h,_=>by simp at h|a::l,0,h,k=>by grind[bA]|a::l,i+1,h,k=>by have:bA l<=i:=by{grind[bA]};exact jX l i (by simpa using h) this
theorem qt{α:Type}:∀(l:List (List α))(n:Nat)(h:n<l.length),bA l=n+1->l[n]≠[]|[],_,h,_=>by simp at h|a::l,n,h,k=>by unfold bA at k;split at k;{omega};{rename_i hn;cases n with|zero=>simp only[Qn];exactλe=>hn ⟨Om,e⟩|succ n=>exact qt l n (by simpa using h) Om}
def uO{α:Type}{l:List (List α)}{n:Nat}(hn:n<=l.length)(q:∀i (h:i<l.length),n<=i->l[i]=[])(E:∀m (h:m<l.length),n=m+1->l[m]≠[]):n=bA l:=by rcases KU n (bA l) with h|h|h;{exfalso;have F:=ld l;exact qt l (bA l - 1) Om Om (q _ Om Om)};{exact h};{exfalso;exact E (n - 1) Om Om (jX l _ Om Om)}
section
variable {α:Type}
def lU(f:Nat->α)(a b n x:Nat):α:=if a<=x/\x<a+n then f (x+b - a) else if b<=x/\x<b+n then f (x+a - b) else f x
def sQ(f:Nat->α)(a m b x:Nat):α:=if a<=x/\x<a+(b - m) then f (x+(m - a)) else if a+(b - m)<=x/\x<b then f (x - (b - m)) else f x
def PW(f:Nat->α)(a b x:Nat):lU f a b 0 x=f x:=by simp_all[lU,if_neg]
def PX{f g:Nat->α}{a b n:Nat}(q:a+n<b)(E:∀x,g x=if x=b+n then lU f a b n (a+n) else if x=a+n then lU f a b n (b+n) else lU f a b n x)(x:Nat):g x=lU f a b (n+1) x:=by rw[E];unfold lU;grind
theorem WD{f g:Nat->α}{m i j:Nat}(J:i<=m)(K:0<j)(I:j<i)(E:∀x,g x=lU f (m - i) m j x)(x:Nat):sQ g (m - (i - j)) m (m+j) x=sQ f (m - i) m (m+j) x:=by unfold sQ;by_cases F:m - (i - j)<=x/\x<m - (i - j)+(m+j - m);{rw[if_pos F,E];unfold lU;by_cases q:m<=x+(m - (m - (i - j)))<;>grind};{rw[if_neg F];by_cases q:m - (i - j)+(m+j - m)<=x/\x<m+j;{rw[if_pos q,E];unfold lU;grind};{rw[if_neg q,E];unfold lU;grind}}
theorem TI{f g:Nat->α}{m i j:Nat}(K:i<=m)(I:0<i)(J:i<j)(q:∀x,g x=lU f (m - i) (m+j - i) i x)(x:Nat):sQ g (m - i) m (m+(j - i)) x=sQ f (m - i) m (m+j) x:=by unfold sQ;by_cases E:m - i<=x/\x<m - i+(m+(j - i) - m);{rw[if_pos E,q,iP];unfold lU;grind};{rw[if_neg E];by_cases F:m - i+(m+(j - i) - m)<=x/\x<m+(j - i);{rw[if_pos F,q];unfold lU;grind};{rw[if_neg F,q];unfold lU;grind}}
def WC{f g:Nat->α}{m i:Nat}(E:i<=m)(q:∀x,g x=lU f (m - i) m i x)(x:Nat):g x=sQ f (m - i) m (m+i) x:=by rw[q];unfold lU sQ;grind
def MV(f:Nat->α){a m b:Nat}(q:a<=m)(E:m<=b)(h:a=m\/m=b)(x:Nat):sQ f a m b x=f x:=by unfold sQ;grind
end
section
variable {α:Type}[Inhabited α]
def aX(l:List α)(x:Nat):α:=l.getD x default
theorem oG{l:List α}{x:Nat}(h:x<l.length):aX l x=l[x]:=by unfold aX;grind
def lT(l:List α)(i j:Nat):List α:=(l.set i (aX l j)).set j (aX l i)
def oY(l:List α)(i j:Nat):(lT l i j).length=l.length:=by simp[lT]
def PV{l:List α}{i j:Nat}(q:i<l.length)(E:j<l.length):(lT l i j).Perm l:=by grind[lT,oG,List.set_set_perm]
theorem lX{l:List α}{i j:Nat}(F:i<l.length)(I:j<l.length)(x:Nat):aX (lT l i j) x=if x=j then aX l i else if x=i then aX l j else aX l x:=by unfold lT;by_cases q:x=j;{subst q;rw[if_pos rfl,oG (by simpa using I)];simp};{rw[if_neg q];by_cases E:x=i;{subst E;rw[if_pos rfl,oG (by simpa using F)];rw[mA (Ne.symm q),pL]};simp_all[if_neg,aX,bB,List.getElem?_set_ne,Ne.symm]}
structure Mix(a b:Nat)(l l':List α):Prop where
 len:l'.length=l.length
 perm:l'.Perm l
 out:∀x,(x < a∨b≤x)→aX l' x=aX l x
 img:∀x,a≤x→x < b→∃y,a≤y∧y < b∧aX l' x=aX l y
theorem Mix.refl(a b:Nat)(l:List α):Mix a b l l:=⟨rfl,.refl _,λ_ _=>rfl,λx q E=>⟨x,q,E,rfl⟩⟩
def Mix.trans{a b:Nat}{l m n:List α}(h:Mix a b l m)(k:Mix a b m n):Mix a b l n:=by refine⟨k.len.trans h.len,k.perm.trans h.perm,λx hx=>(k.out x hx).trans (h.out x hx),λx q E=>?_⟩;obtain⟨y,F,I,J⟩:=k.img x q E;obtain⟨z,K,O,U⟩:=h.img y F I;grind
def Mix.wide{a b c d:Nat}{l m:List α}(h:Mix a b l m)(F:c<=a)(hd:b<=d):Mix c d l m:=by refine⟨h.len,h.perm,λx hx=>h.out x Om,λx q E=>?_⟩;by_cases hx:a<=x/\x<b;{obtain⟨y,I,J,K⟩:=h.img x hx.1 hx.2;grind};{exact⟨x,q,E,h.out x Om⟩}
def Mix.swap{a b i j:Nat}{l:List α}(F:b<=l.length)(I:a<=i/\i<b)(J:a<=j/\j<b):Mix a b l (lT l i j):=by have q:i<l.length:=Om;have E:j<l.length:=Om;refine⟨oY _ _ _,PV q E,λx hx=>?_,λx K O=>?_⟩;{rw[lX q E,iN,iN]};{rw[lX q E];grind}
variable (lt:α->α->Prop)
def Srt(l:List α)(a b:Nat):Prop:=∀i j,a<=i->i<j->j<b->lt (aX l i) (aX l j)
def Srt.part{lt:α->α->Prop}{l:List α}{a b c d:Nat}(h:Srt lt l a b)(I:a<=c)(hd:d<=b):Srt lt l c d:=λi j E q F=>h i j Om q Om
def Srt.out{lt:α->α->Prop}{l q:List α}{a b c d:Nat}(h:Srt lt l a b)(k:Mix c d l q)(hd:b<=c\/d<=a):Srt lt q a b:=λi j E F I=>by rw[k.out i Om,k.out j Om];exact h i j E F I
def Y5{lt:α->α->Prop}{l l1 l2:List α}{a m b:Nat}(J:Mix a m l l1)(E:Mix m b l1 l2)(K:Srt lt l1 a m)(O:Srt lt l2 m b)(U:∀x y,a<=x->x<m->m<=y->y<b->lt (aX l x) (aX l y)):Srt lt l2 a b:=by intro i j F q I;by_cases c1:j<m;{rw[E.out i Om,E.out j Om];exact K i j F q c1};{by_cases c2:m<=i;{exact O i j c2 q I};{rw[E.out i Om];obtain⟨x,V,Y,Z⟩:=J.img i F Om;obtain⟨y,y1,y2,y3⟩:=E.img j Om I;rw[Z,y3,J.out y Om];exact U x y V Y y1 y2}}
def ZP{lt ord:α->α->Prop}{l l1:List α}{a m b mid start q:Nat}(h1:a<=start)(h2:start<=mid)(h3:start<=m)(h4:mid<=q)(h5:m<=q)(h6:q<=b)(he:start+q=mid+m)(sL:Srt lt l a m)(sR:Srt lt l m b)(I:∀i j,a<=i->i<m->m<=j->j<b->ord (aX l i) (aX l j))(pA:∀i j,a<=i->i<start->q<=j->j<b->lt (aX l i) (aX l j))(pB:∀i j,m<=i->i<q->start<=j->j<m->lt (aX l i) (aX l j))(Y:∀x,aX l1 x=sQ (aX l) start m q x):(Srt lt l1 a start/\Srt lt l1 start mid/\Srt lt l1 mid q/\Srt lt l1 q b)/\(∀i j,a<=i->i<start->start<=j->j<mid->ord (aX l1 i) (aX l1 j))/\(∀i j,mid<=i->i<q->q<=j->j<b->ord (aX l1 i) (aX l1 j))/\ ∀x y,a<=x->x<mid->mid<=y->y<b->lt (aX l1 x) (aX l1 y):=by have O:∀x,x<start->aX l1 x=aX l x:=λx hx=>by{rw[Y];unfold sQ;grind};have U:∀x,start<=x->x<mid->aX l1 x=aX l (x+(m - start)):=λx hx Z=>by{rw[Y];unfold sQ;rw[iP]};have J:∀x,mid<=x->x<q->aX l1 x=aX l (x - (q - m)):=λx hx Z=>by{rw[Y];unfold sQ;grind};have V:∀x,q<=x->aX l1 x=aX l x:=λx hx=>by{rw[Y];unfold sQ;grind};refine⟨⟨λi j q1 F E=>?_,λi j q1 F E=>?_,λi j q1 F E=>?_,λi j q1 F E=>?_⟩,λi j q1 F E K=>?_,λi j q1 F E K=>?_,λx y q1 F E K=>?_⟩;{rw[O i Om,O j E];exact sL i j q1 F Om};{rw[U i q1 Om,U j Om E];exact sR _ _ Om Om Om};{rw[J i q1 Om,J j Om E];exact sL _ _ Om Om Om};{rw[V i q1,V j Om];exact sR _ _ Om F E};{rw[O i F,U j E K];exact I _ _ q1 Om Om Om};{rw[J i q1 F,V j E];exact I _ _ Om Om Om K};{by_cases c1:x<start;{rw[O x c1];by_cases c2:y<q;{rw[J y E c2];exact sL _ _ q1 Om Om};grind};{rw[U x Om F];by_cases c2:y<q;{rw[J y E c2];exact pB _ _ Om Om Om Om};{rw[V y Om];exact sR _ _ Om Om K}}}
def L9{lt:α->α->Prop}{l:List α}(h:Srt lt l 0 l.length):l.Pairwise lt:=by rw[IM];intro i j F E q;have:=h i j (dL _) q E;grind[oG]
def oO{lt:α->α->Prop}{l:List α}(h:l.Pairwise lt)(a b:Nat)(I:b<=l.length):Srt lt l a b:=by rw[IM] at h;intro i j q E F;grind[oG]
end
theorem B0{α:Type}{lt:α->α->Prop}(q:∀a,¬lt a a)(J:∀a b c,lt a b->lt b c->lt a c):∀{l m:List α},l.Pairwise lt->m.Pairwise lt->(∀x,x∈l↔x∈m)->l=m|[],[],_,_,_=>rfl|[],b::m,_,_,h=>absurd ((h b).2 (by simp)) (by simp)|a::l,[],_,_,h=>absurd ((h a).1 (by simp)) (by simp)|a::l,b::m,I,hm,h=>by rw[List.pairwise_cons] at I hm;have F:a=b:=by{rcases List.mem_cons.1 ((h a).1 (by simp)) with e|e;{exact e};{rcases List.mem_cons.1 ((h b).2 (by simp)) with E|E;{exact E.symm};{exact absurd (J _ _ _ (I.1 b E) (hm.1 a e)) (q a)}}};subst F;congr 1;refine B0 q J I.2 hm.2 λx=>⟨λhx=>?_,λhx=>?_⟩<;>grind
def T1{f:Fp}:bP .none f=true:=by cases f<;>rfl
def IU{f:Fp}:bP f .none=true:=by cases f<;>rfl
def TY{b o n b' o' q:Nat}:bP (.rd b o n) (.rd b' o' q)=true:=rfl
def TX{b o n b' o' q:Nat}:bP (.rd b o n) (.wr b' o' q)=mU b o n b' o' q:=rfl
def TW{b o n b' o' q:Nat}:bP (.wr b o n) (.rd b' o' q)=mU b o n b' o' q:=rfl
def TV{b o n b' o' q:Nat}:bP (.wr b o n) (.wr b' o' q)=mU b o n b' o' q:=rfl
def T0{b o n b':Nat}:bP (.rd b o n) (.wb b')=decide (b'≠b):=rfl
def T3{b o n b':Nat}:bP (.wb b') (.rd b o n)=decide (b'≠b):=rfl
def Qs{b o n b':Nat}:bP (.wr b o n) (.wb b')=decide (b'≠b):=rfl
def T2{b o n b':Nat}:bP (.wb b') (.wr b o n)=decide (b'≠b):=rfl
def T4{b b':Nat}:bP (.wb b) (.wb b')=decide (b≠b'):=rfl
def bn{q:fk}{o:IOp}{xs:List IV}(h:jA o xs=some .none):bK (some q) o xs=some (some ((o.idx,.none)::q)):=by simp_all[bK,sa,if_pos,xh,IU]
section
variable {fc:fk}{dst:Option Nat}{args:List IA}{g:Option (Nat×Bool)}{amb:Bool}{idx mask:Nat}{xs:List IV}
def QB{o:IOp}:bK none o xs=some none:=rfl
def Nx:bK (some fc) ⟨dst,.move,args,g,amb,idx,mask⟩ xs=some (some ((idx,.none)::fc)):=bn rfl
def QC{op:BinOp}:bK (some fc) ⟨dst,.bin op,args,g,amb,idx,mask⟩ xs=some (some ((idx,.none)::fc)):=bn rfl
def Ub{op:UnOp}:bK (some fc) ⟨dst,.un op,args,g,amb,idx,mask⟩ xs=some (some ((idx,.none)::fc)):=bn rfl
def NA{k:IntKind}:bK (some fc) ⟨dst,.conv k,args,g,amb,idx,mask⟩ xs=some (some ((idx,.none)::fc)):=bn rfl
def Ld{z:Nat}:bK (some fc) ⟨dst,.idxSl z,args,g,amb,idx,mask⟩ xs=some (some ((idx,.none)::fc)):=bn rfl
def Bj{z:Nat}:bK (some fc) ⟨dst,.fieldAddr z,args,g,amb,idx,mask⟩ xs=some (some ((idx,.none)::fc)):=bn rfl
def Le{z:Nat}{n:Option Nat}:bK (some fc) ⟨dst,.field z n,args,g,amb,idx,mask⟩ xs=some (some ((idx,.none)::fc)):=bn rfl
def Lc:bK (some fc) ⟨dst,.lenSl,args,g,amb,idx,mask⟩ xs=some (some ((idx,.none)::fc)):=bn rfl
def Nv:bK (some fc) ⟨dst,.pick,args,g,amb,idx,mask⟩ xs=some (some ((idx,.none)::fc)):=bn rfl
def zP{l z:Nat}:bK (some fc) ⟨dst,.idxArrAddr l z,args,g,amb,idx,mask⟩ xs=some (some ((idx,.none)::fc)):=bn rfl
end
def ai2(m k:Nat):Nat.testBit m k=decide (m / 2^k%2=1):=Nat.testBit_eq_decide_div_mod_eq
section
variable {α:Type}[Cell α]
def Gr(n0:Nat)(H:Heap)(e:Nat)(v:SV)(l:List α):Prop:=(v=.nil/\l=[])\/∃b,v=.sl b 0 l.length l.length false/\n0<=b/\l≠[]/\Own H b e l.length l
def Gr.nil{n0:Nat}{H:Heap}{e:Nat}:Gr n0 H e .nil ([]:List α):=.inl ⟨rfl,rfl⟩
def Gr.sl{n0:Nat}{H:Heap}{e:Nat}{v:SV}{l:List α}(h:Gr n0 H e v l):Sl H v l:=by rcases h with⟨rfl,rfl⟩|⟨b,rfl,_,_,q⟩;{exact fC};{exact q.sl false}
def Gr.blk{n0:Nat}{H:Heap}{e:Nat}{v:SV}{l:List α}(h:Gr n0 H e v l)(E:l≠[]):H.get v.blk=some (.cells false e (Cell.z α) (aw l)):=by rcases h with⟨_,rfl⟩|⟨b,rfl,_,_,q⟩;{exact absurd rfl E};{exact q.full}
def Gr.keep{n0:Nat}{H H':Heap}{e:Nat}{v:SV}{l:List α}(h:Gr n0 H e v l)(k:Keep H.n H H'):Gr n0 H' e v l:=by rcases h with h|⟨b,q,E,F,I⟩;{exact .inl h};{exact .inr ⟨b,q,E,F,I.keep k⟩}
def KeepG(n0 e z:Nat)(H H':Heap):Prop:=H.n<=H'.n/\∀x,x<H.n->(x<n0\/∀cs,H.get x≠some (.cells false e z cs))->H'.get x=H.get x
def KeepG.refl(n0 e z:Nat)(H:Heap):KeepG n0 e z H H:=⟨an _,λ_ _ _=>rfl⟩
def KeepG.trans{n0 e z:Nat}{a b c:Heap}(h:KeepG n0 e z a b)(k:KeepG n0 e z b c):KeepG n0 e z a c:=by refine⟨eC h.1 k.1,λx E F=>?_⟩;have q:=h.2 x E F;rw[<-q];exact k.2 x (bR E h.1) (by rw[q];exact F)
def KeepG.of{n0 e z:Nat}{H H':Heap}(k:Keep H.n H H'):KeepG n0 e z H H':=⟨k.1,λx h _=>k.2 x h h⟩
def KeepG.low{n0 e z:Nat}{H H':Heap}(k:KeepG n0 e z H H')(hn:n0<=H.n):Keep n0 H H':=⟨k.1,λx q E=>k.2 x E (.inl q)⟩
def KeepG.keep{n0 e z:Nat}{H0 H H':Heap}(k:KeepG n0 e z H H')(h:Keep H0.n H0 H)(hn:H0.n<=n0):Keep H0.n H0 H':=⟨eC h.1 k.1,λx q E=>(k.2 x (bR q h.1) (.inl Om)).trans (h.2 x q E)⟩
def KeepG.get{n0 e z x:Nat}{H H':Heap}{ob:IObj}(k:KeepG n0 e z H H')(hx:x<H.n)(E:H.get x=some ob)(q:∀cs,ob≠.cells false e z cs):H'.get x=some ob:=by rw[k.2 x hx (.inr λcs h=>q cs (by grind))];exact E
def Own.keepG{n0 e q z b cap:Nat}{H H':Heap}{l:List α}(h:Own H b e cap l)(k:KeepG n0 q z H H')(K:e≠q):Own H' b e cap l:=by obtain⟨F,E,r,I,J⟩:=h;refine Own.same ⟨F,E,r,I,J⟩ k.1 (k.2 b E (.inr λcs O=>?_));grind
def OwnS(n0:Nat)(H:Heap)(e:Nat)(v:SV)(l:List α):Prop:=(v=.nil/\l=[])\/∃b cap ex,v=.sl b 0 l.length cap ex/\n0<=b/\Own H b e cap l
def OwnS.sl{n0:Nat}{H:Heap}{e:Nat}{v:SV}{l:List α}(h:OwnS n0 H e v l):Sl H v l:=by rcases h with⟨rfl,rfl⟩|⟨b,cap,ex,rfl,_,h⟩;{exact fC};{exact h.sl ex}
def OwnS.keep{n0:Nat}{H H':Heap}{e:Nat}{v:SV}{l:List α}(h:OwnS n0 H e v l)(k:Keep H.n H H'):OwnS n0 H' e v l:=by rcases h with h|⟨b,cap,ex,q,E,F⟩;{exact .inl h};{exact .inr ⟨b,cap,ex,q,E,F.keep k⟩}
def OwnS.keepG{n0 n1 e E z:Nat}{H H':Heap}{v:SV}{l:List α}(h:OwnS n0 H e v l)(k:KeepG n1 E z H H')(q:e≠E):OwnS n0 H' e v l:=by rcases h with h|⟨b,cap,ex,F,I,J⟩;{exact .inl h};{exact .inr ⟨b,cap,ex,F,I,J.keepG k q⟩}
def Fresh.own{n0:Nat}{H:Heap}{e:Nat}{v:SV}{l:List α}(h:Fresh n0 H e v l):OwnS n0 H e v l:=by rcases h with h|⟨b,q,E,F⟩;{exact .inl h};{exact .inr ⟨b,l.length,true,q,E,F⟩}
def Gr.own{n0:Nat}{H:Heap}{e:Nat}{v:SV}{l:List α}(h:Gr n0 H e v l):OwnS n0 H e v l:=by rcases h with h|⟨b,q,E,_,F⟩;{exact .inl h};{exact .inr ⟨b,l.length,false,q,E,F⟩}
def Gr.push{n0:Nat}{H:Heap}{e:Nat}{v:SV}{l:List α}(h:Gr n0 H e v l){a:α}{u:SV}(V:Sl H u [a]){z:Nat}(J:Cell.z α=z)(bytes lo:Nat)(ad:lo<=n0)(hn:n0<=H.n)(U:(l.length+1)*(bytes+1)<=2^40):∃q w,ev1 (.append e z bytes) [v.iv,u.iv] lo H=some (SV.iv w,q)/\KeepG n0 e z H q/\Gr n0 q e w (l++[a]):=by rcases h with⟨rfl,rfl⟩|⟨b,rfl,h2,h3,O⟩;{obtain⟨q,F,Y,I,K⟩:=yp (e:=e) V J bytes lo (by simp) (by simpa using U);exact⟨q,.sl H.n 0 1 1 false,F,KeepG.of I,.inr ⟨H.n,rfl,hn,by simp,K⟩⟩};{obtain⟨q,F,Y,I,K⟩:=qH (n:=l.length) O rfl V J bytes lo (by simp) (by simpa using U) Om;refine⟨q,.sl H.n 0 (l.length+1) (l.length+1) false,F,⟨Om,λx Z E=>I x ?_ Z⟩,.inr ⟨H.n,by simp,hn,by simp,by grind⟩⟩;rintro rfl;rcases E with E|E;{omega};{exact E _ (by rw[O.full,J])}}
def pa{H:Heap}{e z:Nat}(q:Cell.z α=z)(a:α):Own (H.new (.cells false e z (Cell.cs a))) H.n e 1 [a]:=by have:=cZ (H:=H.new (.cells false e z (Cell.cs a))) (b:=H.n) (e:=e) (l:=[a]) (by rw[ac];omega) q (by rw[ak,if_pos rfl]) (Oc a).symm;exact this
def Gr.pushNew{n0:Nat}{H:Heap}{e:Nat}{v:SV}{l:List α}(h:Gr n0 H e v l)(a:α){z:Nat}(F:Cell.z α=z)(bytes lo:Nat)(E:lo<=n0)(hn:n0<=H.n)(J:(l.length+1)*(bytes+1)<=2^40):∃q w,ev1 (.append e z bytes) [v.iv,.slice H.n 0 1 1 true] lo (H.new (.cells false e z (Cell.cs a)))=some (SV.iv w,q)/\KeepG n0 e z H q/\Gr n0 q e w (l++[a]):=by obtain⟨q,w,I,K,g1⟩:=(h.keep (.new _ (.cells false e z (Cell.cs a)))).push (a:=a) ((pa F a).sl true) F bytes lo E (by rw[ac];omega) J;exact⟨q,w,I,(KeepG.of (.new _ _)).trans K,g1⟩
end
def HV{α:Type}(f:Nat->List α)(n:Nat):(List.range (n+1)).flatMap f=(List.range n).flatMap f++f n:=by rw[List.range_succ,KX];simp
end Go.Iso
section
namespace Go.Iso
def VM:kT []=.tuple []:=rfl
def VL{v:IV}:kT [v]=v:=rfl
def VK{v w:IV}{l:List IV}:kT (v::w::l)=.tuple (v::w::l):=rfl
def BAS:=ao @aex (ao @ahU (ao @aeA (ao @mG (ao @abm (ao @aci (ao @aeB (ao @Pc (ao @Rz (ao @aaT (ao @aaU (ao @ahV (ao @ala (ao @XT (ao @XU (ao @ahK (ao @ahL (ao @ahJ (ao @ahM (ao @aer (ao @ahd (ao @ac0 (ao @aao (ao @eq_self.{1} (ao @Nat.left_eq_add (ao @Nat.add_eq_left (ao @Nat.add_left_cancel_iff (ao @Nat.add_assoc (ao @U0 (ao @S9 (ao @S8 (ao @ZE (ao @ZD (ao @adv (ao @adw (ao @agL (ao @List.getD_cons_zero.{0} (ao @List.getD_cons_succ.{0} (ao @ZM (ao @ZN (ao @ac1 (ao @aeo (ao @aen (ao @aep (ao @aba (ao @abb (ao @acJ (ao @abn (ao @if_true.{1} (ao @if_false.{1} (ao @Option.map_some.{0,0} (ao @Option.map_none.{0,0} (ao @Option.bind_some.{0,0} (ao @Option.bind_none.{0,0} (ao @List.nil_append.{0} (ao @List.append_nil.{0} (ao @List.cons_append.{0} (ao @List.length_cons.{0} (ao @List.length_nil.{0} (ao @Nat.zero_add (ao @adl (ao @adm (ao @Xv (ao @ZF (ao @beq_self_eq_true.{0} (ao @Bool.false_eq_true (ao @Bool.not_true (ao @Bool.not_false (ao @Option.getD_some.{0} (ao @Option.getD_none.{0} (ao @Rt (ao @Rs (ao @OY (ao @Rm (ao @Rp (ao @Ic (ao @LY (ao @CO (ao @Rq (ao @Ie (ao @US (ao @LX (ao @Hn (ao @LZ (ao @CP (ao @ak (ao @ac (ao @aa (ao @af (ao @List.drop_succ_cons.{0} (ao @List.drop_zero.{0} (ao @List.take_succ_cons.{0} (ao @List.take_zero.{0} (ao @Nat.add_zero (ao @Nat.le_refl (ao @Option.some.injEq.{0} (ao @and_true (ao @true_and (ao @and_false (ao @false_and (ao @BEq.rfl.{0} (ao @nP (ao @wC (ao @W3 (ao @W4 (ao @Np (ao @Gb (ao @xm (ao @W5 (ao @Nq (ao @aas (ao @Qw (ao @K9 (ao @Qx (ao @HP (ao @List.all_cons.{0} (ao @List.all_nil.{0} (ao @Bool.and_self (ao @Bool.and_true (ao @Bool.true_and (ao @Nat.le_add_right (ao @Nat.add_sub_cancel (ao @bne_self_eq_false.{0} (ao @Bool.false_bne (ao @Bool.bne_false (ao @Bool.or_true (ao @Bool.true_or (ao @Int.toNat_natCast (ao @Option.isSome_some.{0} (ao @aez (ao @adi (ao @adh (ao @Hv (ao @Vg (ao @WM (ao @WL (ao @ZJ (ao @ZH (ao @ZI (ao @aam (ao @aal (ao @ne_eq.{1} (ao @not_false_eq_true (ao @aj3 (ao @aj2 (ao @cLe (ao @aj1 (ao @cLt (ao @aj0 (ao @iLe (ao @ajt (ao @iLt (ao @ajs (ao @iGe (ao @ajv (ao @iGt (ao @aju (ao @ajx (ao @ahb (ao @ajw (ao @aha (ao @agj (ao @wU8 (ao @decide_true (ao @decide_false (ao @WO (ao @WN (ao @aai (ao @Pg (ao @fD (ao @Jy (ao @oi (ao @eM (ao @ie (ao @mV (ao @Nat.zero_mul (ao @Bool.true_eq_false (ao @Bool.false_or (ao @Bool.or_false (ao @Bool.false_and (ao @Bool.and_false (ao @not_true_eq_false (ao @Nat.sub_zero (ao @List.getElem?_cons_zero.{0} (ao @List.getElem?_cons_succ.{0} (ao @dm.eq_1 (ao @dm.eq_2 (ao @IA.eval.eq_1 (ao @IA.eval.eq_2 (ao @IA.eval.eq_3 (ao @Fr.put.eq_1 (ao @Fr.put.eq_2 (ao @ft.eq_1 (ao @ft.eq_2 (ao @eu.eq_1 (ao @eu.eq_2 (ao @aY.eq_1 (ao @aY.eq_2 (ao @rN.eq_1 (ao @rN.eq_2 (ao @ah.eq_1 (ao @ah.eq_2 (ao @List.set.eq_1.{0} (ao @List.set.eq_2.{0} (ao @List.set.eq_3.{0} (ao @List.drop.eq_1.{0} (ao @List.drop.eq_2.{0} (ao @List.drop.eq_3.{0} (ao @List.take.eq_1.{0} (ao @List.take.eq_2.{0} (ao @List.take.eq_3.{0} (ao @List.append.eq_1.{0} (ao @List.append.eq_2.{0} (ao @aB.eq_1 (ao @aB.eq_2 (ao @aB.eq_3 (ao @aB.eq_4 (ao @jJ.eq_1 (ao @jJ.eq_2 (ao @bK.eq_1 (ao @bK.eq_2 (ao @VM (ao @VL (ao @VK (ao @T1 (ao @IU (ao @TY (ao @TX (ao @TW (ao @TV (ao @T0 (ao @T3 (ao @Qs (ao @T2 (ao @T4 (@ai2)))))))))))))))))))))))))))))))))))))))))))))))))))))))))))))))))))))))))))))))))))))))))))))))))))))))))))))))))))))))))))))))))))))))))))))))))))))))))))))))))))))))))))))))))))))))))))))))))))))))))))))))))))))))))))))))))))))))))))
def ai:=ao @QB (ao @Nx (ao @QC (ao @Ub (ao @NA (ao @Ld (ao @Bj (ao @Le (ao @Lc (ao @Nv (@zP))))))))))
end Go.Iso
end
namespace Go.Iso
def ahP{b o n b' o' q:Nat}(h:b<b'):mU b o n b' o' q=true:=by grind[mU]
def ahQ{b o n b' o' q:Nat}(h:b'<b):mU b o n b' o' q=true:=by grind[mU]
def ajm:Fp->Bool|.none|.rd _ _ _=>true|_=>false
def vc:fk->Bool|[]=>true|p::q=>ajm p.2&&vc q
def Ua:vc []=true:=rfl
def Qy{i:Nat}{q:fk}:vc ((i,.none)::q)=vc q:=rfl
def Xc{i b o n:Nat}{q:fk}:vc ((i,.rd b o n)::q)=vc q:=rfl
def Xb{i b o n:Nat}{q:fk}:vc ((i,.wr b o n)::q)=false:=rfl
def I1{b o n mask:Nat}:∀{q:fk},vc q=true->(q.all λp=>mask.testBit p.1||bP p.2 (.rd b o n))=true|[],_=>rfl|(i,f)::q,h=>by simp only[vc,cQ] at h;rw[nM,I1 h.2,xQ];cases f with|none=>simp[bP]|rd=>simp[bP]|_=>cases h.1
section
variable {fc:fk}{dst:Option Nat}{args:List IA}{g:Option (Nat×Bool)}{amb:Bool}{idx mask:Nat}{xs:List IV}
def NB:bK (some fc) ⟨dst,.call,args,g,amb,idx,mask⟩ xs=some (some ((idx,.none)::fc)):=bn rfl
def Lg{e z:Nat}{zs:List IV}:bK (some fc) ⟨dst,.alloc e z zs,args,g,amb,idx,mask⟩ xs=some (some ((idx,.none)::fc)):=bn rfl
def Lf{zs:List IV}{os:List (Nat×Nat)}:bK (some fc) ⟨dst,.build zs os,args,g,amb,idx,mask⟩ xs=some (some ((idx,.none)::fc)):=bn rfl
def Gi{e z n:Nat}{zs:List IV}{os:List (Nat×Nat)}:bK (some fc) ⟨dst,.buildSl e z n zs os,args,g,amb,idx,mask⟩ xs=some (some ((idx,.none)::fc)):=bn rfl
def Ny{n:Option Nat}{b a:Nat}:bK (some fc) ⟨dst,.load n,args,g,amb,idx,mask⟩ [.ptr b a]=if vc fc=true then some (some ((idx,.rd b a (n.getD 1))::fc)) else(sa fc ⟨dst,.load n,args,g,amb,idx,mask⟩ [.ptr b a]).map some:=by simp_all[bK,sa,jA,if_pos,I1]
end
def FR:=ao @NB (ao @Lg (ao @Lf (ao @Gi @Ny)))
def FW:=ao @Ua (ao @Qy (ao @Xc (ao @Xb (ao @ahP @ahQ))))
end Go.Iso
section
namespace Go.Iso
def J1{a b:Prop}(h:a)(k:b):a/\b:=⟨h,k⟩
def HH:=J1 @BAS (J1 @jA.eq_def (J1 @sa.eq_def (J1 @opW.eq_def (J1 @so.eq_def (J1 @ev1.eq_def (J1 @jT.eq_def (J1 @unI.eq_def (J1 @j7.eq_def (J1 @Oq.eq_def @dM.eq_def)))))))))
def aj:=J1 HH @Heap.write.eq_def
def hZ:=J1 aj FW
def ko:=J1 ai FR
def aq{H0 H1:Heap}(q:H0=H1)(x:Nat){v:Option IObj}(h:H0.get x=v:=by simp(disch:=omega)only[aj,↓ai,seval];rfl):H1.get x=v:=q▸h
def aH{n:Nat}{H H0 H1:Heap}(q:H0=H1)(a:H.n<=H1.n:=by omega)(h:∀x,x<n->x<H.n->H0.get x=H.get x:=by intros;simp(disch:=omega)only[aj,↓ai,seval]):Keep n H H1:=⟨a,q▸h⟩
end Go.Iso
end
namespace Go.Iso
section
variable {α:Type}[Cell α]
def mP(l:List α)(i:Nat)(h:i<l.length):aw l=aw (l.take i)++(Cell.cs l[i]++aw (l.drop (i+1))):=by grind[bL,jr,List.drop_eq_getElem_cons,List.take_append_drop]
end
section
variable {α:Type}[Cell α]
def Gr.blkLt{n0:Nat}{H:Heap}{e:Nat}{v:SV}{l:List α}(h:Gr n0 H e v l)(F:l≠[]):v.blk<H.n/\n0<=v.blk:=by rcases h with⟨_,rfl⟩|⟨b,rfl,q,I,E⟩;{exact absurd rfl F};{exact⟨E.2.1,q⟩}
def Gr.pushNewO{n0:Nat}{H:Heap}{e:Nat}{v:SV}{l:List α}(h:Gr n0 H e v l)(a:α){z:Nat}(O:Cell.z α=z)(bytes lo:Nat)(ad:lo<=n0)(hn:n0<=H.n)(V:(l.length+1)*(bytes+1)<=2^40):∃q w,ev1 (.append e z bytes) [v.iv,.slice H.n 0 1 1 true] lo (H.new (.cells false e z (Cell.cs a)))=some (SV.iv w,q)/\H.n<=q.n/\(∀y,y<H.n->(l≠[]->y≠v.blk)->q.get y=H.get y)/\Gr n0 q e w (l++[a])/\H.n<=w.blk:=by have Y:Sl (H.new (.cells false e z (Cell.cs a))) (.sl H.n 0 1 1 true) [a]:=(pa O a).sl true;have kN:Keep H.n H (H.new (.cells false e z (Cell.cs a))):=.new _ _;have aE:=ac H (.cells false e z (Cell.cs a));rcases h with⟨rfl,rfl⟩|⟨b,rfl,h2,h3,h4⟩;{obtain⟨q,F,Z,I,U⟩:=yp (e:=e) Y O bytes lo (by simp) (by simpa using V);exact⟨q,.sl (H.new (.cells false e z (Cell.cs a))).n 0 1 1 false,F,Om,λy E _=>(I.2 y Om Om).trans (kN.2 y E E),.inr ⟨_,rfl,Om,by simp,U⟩,by show _<=(H.new _).n;omega⟩};{obtain⟨q,F,Z,I,U⟩:=qH (n:=l.length) (h4.keep kN) rfl Y O bytes lo (by simp) (by simpa using V) Om;refine⟨q,.sl (H.new (.cells false e z (Cell.cs a))).n 0 (l.length+1) (l.length+1) false,F,Om,λy E J=>?_,.inr ⟨(H.new (.cells false e z (Cell.cs a))).n,by simp,Om,by simp,by grind⟩,by show _<=(H.new _).n;omega⟩;have K:y≠b:=J h3;rw[I y K Om];exact kN.2 y E E}
end
def slO(z:Nat)(H:Heap)(v:SV):Prop:=∀b o n c ex,v=.sl b o n c ex->(ex||pX H b z)=true
def SV.cut(z:Nat)(v:SV)(a n:Nat):SV:=match v with|.nil=>.nil|.sl b o _ c ex=>.sl b (o+a*z) n (c - a) ex
def SV.clip(z:Nat)(v:SV)(n:Nat):SV:=match v with|.nil=>.nil|.sl b o _ _ _=>.sl b (o+0*z) (n - 0) (n - 0) true
def YU{k n:Nat}(h:k<=n):cM n (.int .i64 (k:Int))=some k:=by show(if 0<=(k:Int)/\(k:Int)<=(n:Int) then some (k:Int).toNat else none)=_;rw[iP];simp
section
variable {α:Type}[Cell α]
def Sl.slcClip{H:Heap}{v:SV}{l:List α}(h:Sl H v l){z:Nat}{H':Heap}(hs:slO z H' v)(lo:Nat):ev1 (.slc z false true true) [v.iv,.int .i64 (l.length:Int),.int .i64 (l.length:Int)] lo H'=some ((v.clip z l.length).iv,H'):=by cases v with|nil=>have h:l=[]:=h;subst h;rfl|sl b o m c ex=>have hn:=h.1;have q:=h.2.1;have e:=hs _ _ _ _ _ rfl;simp only[ev1,SV.clip,SV.iv,e,if_true,bE,YU (show l.length<=c by omega),YU (an l.length),fh,bQ]
def aaY{H:Heap}{b e cap:Nat}{l:List α}(h:Own H b e cap l){z:Nat}(E:Cell.z α=z):pX H b z=true:=by subst E;obtain⟨F,I,r,q,J⟩:=h;unfold pX;rw[q];simp
def Gr.slO{n0:Nat}{H:Heap}{e:Nat}{v:SV}{l:List α}(h:Gr n0 H e v l){z:Nat}(J:Cell.z α=z):slO z H v:=by intro b o n c ex q;rcases h with⟨E,_⟩|⟨b',E,_,_,I⟩;{rw[E] at q;cases q};{rw[E] at q;injection q with F K O U V;subst F;rw[aaY I J,Fy]}
end
open Classical
section
variable {P:Program}{g0 lo:Nat}{μ:Mu}{H H':Heap}{w:World}{ρ:Operand->Value}{xs:List IV}{v:IV}
variable {dst:Option Tmp}{type:TypeId}{pos:String}{after:Array Edge}{guard:Option (Tmp×Bool)}
def AH:∀{q:List (IV×IV×Nat)}{l:List MapEntry}{e:MapEntry},EsR μ q l->e∈l->∃k v,(k,v,e.born)∈q/\VR μ k e.key/\VR μ v e.val|[],_,_,h,J=>by cases h;cases J|(k,v,s)::q,_,x,K,h=>by obtain⟨e,V,rfl,F,I,U,E⟩:=K;cases h with|head=>exact⟨k,v,by grind,F,I⟩|tail _ h=>obtain⟨O,v',a,b,c⟩:=AH E h;exact⟨O,v',jo _ a,b,c⟩
def KA(h:Rel P g0 μ H.get H.n w){x:Operand}{r b q K E:Nat}{seen:List Nat}{es:List (IV×IV×Nat)}(hg:H.get r=some (.iter (some b) q seen K))(hm:aP H b=some (es,E))(cc:lo<=r)(a7:∀e∈es,e.2.2<K)(a3:∀e∈es,e.2.2<q)(bt:∃e∈es,e.2.2∉seen)(hx:VRs μ [.ptr r 0] [ρ x]):∃k v s,(k,v,s)∈es/\s∉seen/\Gives P g0 lo μ H w (execOp ρ ⟨dst,.next x false,type,pos,after,guard⟩) (.tuple [.bool true,k,v]) (H.put r (.iter (some b) q (seen++[s]) E)):=by obtain⟨y,hy,hv⟩:=wR hx;injection hy with hy _;subst hy;obtain⟨a,a5,hl⟩:=hv;have bz:∀o,H.get r=some o->o≠.dead->∃c p ez z,μ r=.at c p ez z/\ObjR P μ o p ez z w.heap[c]?/\a=⟨c,p+0,none⟩:=by{intro o ho hd;unfold LocR at hl;cases hb:μ r with|no=>rw[hb] at hl;exact hl.elim|dead=>have:=h.ded r hb;rw[ho] at this;injection this with this;exact absurd this hd|«at» c p ez z=>rw[hb] at hl;obtain⟨ob,a1,cl⟩:=h.obj r c p ez z hb;rw[ho] at a1;injection a1 with a1;subst a1;exact⟨c,p,ez,z,rfl,cl,hl⟩};obtain⟨c,p,ez,z,hb,⟨rfl,m',O,b4⟩,ha⟩:=bz _ hg (by simp);subst ha;obtain⟨rm,cp,z2,I,a0,cw,V,ad⟩:=q9 h hm b4;injection a0 with a0;subst a0;have a9:=Hz (f:=λs=>decide (K<=s)) ad;have bw:es≠[]:=by{obtain⟨e,he,_⟩:=bt;exact List.ne_nil_of_mem he};have ba:(!seen.toArray.isEmpty&&!I.isEmpty&&I.all λe=>decide (e.born>=K))=false:=by{have:(I.all λe=>decide (e.born>=K))=false:=by{rw[<-Array.all_toList,<-a9,Bool.eq_false_iff];intro hh;cases es with|nil=>exact bw rfl|cons e es=>simp only[nM,cQ,decide_eq_true_eq] at hh;have:=a7 e (xi ..);omega};rw[this,Bool.and_false]};have g1:(getObj c).run P w=.ok (.mapIter (some rm) q seen.toArray K) w:=by{simp[getObj,Sem.run,O]};have aS:(I.filter λe=>!seen.toArray.contains e.born).toList=I.toList.filter λe=>!seen.contains e.born:=by{rw[Array.toList_filter];simp};have bc:=Hy (f:=λs=>!seen.contains s) ad;have f1:((I.filter λe=>!seen.toArray.contains e.born).filter λe=>decide (e.born<q))=I.filter λe=>!seen.toArray.contains e.born:=by{rw[Array.filter_eq_self];intro e he;obtain⟨k,v,J,_,_⟩:=AH ad (Array.mem_toList_iff.2 (Array.mem_filter.1 he).1);simpa using a3 _ J};have f2:((I.filter λe=>!seen.toArray.contains e.born).filter λe=>decide (e.born>=q))=#[]:=by{rw[Array.filter_eq_empty_iff];intro e he;obtain⟨k,v,J,_,_⟩:=AH ad (Array.mem_toList_iff.2 (Array.mem_filter.1 he).1);have:=a3 _ J;simp only at this;simp;omega};have a4:(I.filter λe=>!seen.toArray.contains e.born)≠#[]:=by{intro F;rw[F] at aS;obtain⟨e,he,hs⟩:=bt;rw[<-aS] at bc;have bo:=EsR.length bc;simp only[dA] at bo;have:e∈es.filter λe=>!seen.contains e.2.2:=List.mem_filter.2 ⟨he,by simpa using hs⟩;rw[List.length_eq_zero_iff.1 bo] at this;cases this};generalize hL:(I.filter λe=>!seen.toArray.contains e.born)=L at *;have b6:c<w.heap.size:=(Array.getElem?_eq_some_iff.1 O).1;have fin:∀(i:Nat)(Z:World),Z.heap=w.heap->Z.os=w.os->Z.tape=w.tape->Z.output=w.output->w.drawn<=Z.drawn->i<L.size->∃F k0 v0,L[i]? =some F/\(k0,v0,F.born)∈es/\F.born∉seen/\ (∃U,Rel P g0 U (H.put r (.iter (some b) q (seen++[F.born]) E)).get (H.put r (.iter (some b) q (seen++[F.born]) E)).n {Z with heap:=Z.heap.setIfInBounds c (.mapIter (some rm) q (seen.toArray.push F.born) E)}/\ Post lo μ H.get H.n w U (H.put r (.iter (some b) q (seen++[F.born]) E)).get (H.put r (.iter (some b) q (seen++[F.born]) E)).n {Z with heap:=Z.heap.setIfInBounds c (.mapIter (some rm) q (seen.toArray.push F.born) E)}/\ VR U (.tuple [.bool true,k0,v0]) (.tuple #[.bool true,F.key,F.val])):=by{intro i Z q1 q2 q3 q4 q5 hi;obtain⟨F,Y⟩:∃F,L[i]? =some F:=⟨L[i],by simp[hi]⟩;have J:F∈L:=Array.mem_of_getElem? Y;rw[<-hL] at J;obtain⟨ce,cf⟩:=Array.mem_filter.1 J;obtain⟨k0,v0,aE,ca,cm⟩:=AH ad (Array.mem_toList_iff.2 ce);obtain⟨hr,hp⟩:=h.update (lo:=lo) (w':={Z with heap:=Z.heap.setIfInBounds c (.mapIter (some rm) q (seen.toArray.push F.born) E)}) (o:=.iter (some b) q (seen++[F.born]) E) hb cc ⟨_,hg,rfl⟩ (by simp[q1]) (λc' b5=>by simp only[q1];rw[Qp (Ne.symm b5)]) (by simp only[q1];rw[R5 b6];exact⟨rfl,some rm,by simp,b4⟩) q2 q3 q4 q5;exact⟨F,k0,v0,Y,aE,by simpa using cf,μ,hr,hp,⟨_,rfl,_,_,rfl,rfl,_,_,rfl,ca,_,_,rfl,cm,rfl⟩⟩};have a2:L.isEmpty=false:=by{simpa [Array.isEmpty_iff] using a4};have b3:0<L.size:=Array.size_pos_iff.2 a4;by_cases b7:L.size<=1;{obtain⟨F,k0,v0,Y,aE,a6,U,h1,h2,h3⟩:=fin 0 w rfl rfl rfl rfl (an _) b3;refine⟨k0,v0,F.born,aE,a6,.value (.tuple #[.bool true,F.key,F.val]),.tuple #[.bool true,F.key,F.val],_,U,?_,.inl rfl,h1,h2,h3⟩;simp only[execOp,Instr.next,a5,Sem.run_bind,g1,Result.andThen_ok,cD V,ba,jE,if_false,hL,f1,f2,a2];simp[choose,Sem.run,Question.forced,setObj,O,b7,Y]};{have b8:(Question.mapNext L.size).forced=false:=by{simp[Question.forced];omega};have cd:(Question.mapNext L.size).cut (w.tape w.drawn (.mapNext L.size))<L.size:=A5 _ b3;obtain⟨F,k0,v0,Y,aE,a6,U,h1,h2,h3⟩:=fin _ {w with drawn:=w.drawn+1} rfl rfl rfl rfl (sT _) cd;refine⟨k0,v0,F.born,aE,a6,.value (.tuple #[.bool true,F.key,F.val]),.tuple #[.bool true,F.key,F.val],_,U,?_,.inl rfl,h1,h2,h3⟩;simp only[execOp,Instr.next,a5,Sem.run_bind,g1,Result.andThen_ok,cD V,ba,jE,if_false,hL,f1,f2,a2];have hd:w.drew.heap=w.heap:=rfl;simp[choose,Sem.run,b8,setObj,hd,O,Y];exact⟨rfl,rfl⟩}
end
open Classical
def CallSim.lower{P:Program}{g0:Nat}{f:FuncId}{args:List IV}{lo E:Nat}{H H':Heap}{v:IV}(V:E<=lo)(h:CallSim P g0 f args lo H v H'):CallSim P g0 f args E H v H':=by intro μ w q Y U;exact(h μ w q Y U).mono λe w' ⟨v',F,I,J,K,O⟩=>⟨v',F,I,J,K.lower V,O⟩
def NItem(P:Program)(g0 lo:Nat)(J:Item)(rd:Option Nat)(fr:Fr)(H:Heap)(Q:AG):Prop:=∀(μ:Mu)(w:World)(t:Array Value)(r:Option Nat)(ds:List Deferred),Rel P g0 μ H.get H.n w->VRs μ fr.tm t.toList->RdR μ rd r->DsR μ fr.marks ds->∀(f:FuncId)(k:List Item)(cs:List Frame),∃e E H' q w' I F,Q (.ex e E) H'/\Rel P g0 q H'.get H'.n w'/\Post lo μ H.get H.n w q H'.get H'.n w'/\VRs q E.tm I.toList/\DsR q E.marks F/\ Arr P f r I F cs w' (lone (cE f r t ds (J::k)) cs w) k e
section
variable {P:Program}{E:Env}{g0 lo:Nat}{rd:Option Nat}{fr:Fr}{H:Heap}{Q Q':AG}
def NItem.mono{J:Item}(h:NItem P g0 lo J rd fr H Q)(hq:∀e q H',Q (.ex e q) H'->Q' (.ex e q) H'):NItem P g0 lo J rd fr H Q':=by intro μ w t r ds O U I F f k cs;obtain⟨e,q,H',V,w1,t1,K,Y,Z,a2,a3,a4,a5⟩:=h μ w t r ds O U I F f k cs;grind
def Pi{J:Item}{e:Ex}{q:Fr}{H':Heap}(h:ItemSim P g0 lo J rd fr H e q H')(hq:Q (.ex e q) H'):NItem P g0 lo J rd fr H Q:=by intro μ w t r ds O U I F f k cs;obtain⟨V,w1,t1,K,Y,Z,a3,a4,a5⟩:=h μ w t r ds O U I F f k cs;grind
def mW(J:EnvOk P E){c:Code}{F:IC}(K:bj P c=some F)(h:W E lo (.code F rd fr) H Q):NItem P E.g0 lo (.code c) rd fr H Q:=by obtain⟨n,o,H',q,O⟩:=h;obtain⟨e,I,rfl,hs⟩:=Hl (DC J n) n (an _) c F rd fr lo H o H' K q;exact Pi hs O
def NItem.seq{K O q:Item}(hs:∀f r t ds k cs w,step P (lone (cE f r t ds (K::k)) cs w)=.next (lone (cE f r t ds (O::q::k)) cs w))(aE:∀id k,exitTo id (q::k)=exitTo id k)(h1:NItem P g0 lo O rd fr H λo H1=>match o with|.ex .normal F=>NItem P g0 lo q rd F H1 Q|o=>Q o H1):NItem P g0 lo K rd fr H Q:=by intro μ w t r ds hr ht J ad f k cs;obtain⟨e,F,H1,U,w1,t1,I,a0,a1,V,a3,a4,a5⟩:=h1 μ w t r ds hr ht J ad f (q::k) cs;cases e with|normal=>obtain⟨e2,Z,H2,aS,w2,t2,Y,b0,b1,b2,b3,b4,b5⟩:=a0 U w1 t1 r I a1 a3 (J.mono V.le) a4 f k cs;exact⟨e2,Z,H2,aS,w2,t2,Y,b0,b1,V.trans b2,b3,b4,b5.head (Steps.head (hs f r t ds k cs w) a5)⟩|jmp j=>exact⟨.jmp j,F,H1,U,w1,t1,I,a0,a1,V,a3,a4,(a5.skipItem aE).head (.one (hs f r t ds k cs w))⟩
def NItem.seqC{a b:Code}(F:NItem P g0 lo (.code a) rd fr H λo H1=>match o with|.ex .normal q=>NItem P g0 lo (.code b) rd q H1 Q|o=>Q o H1):NItem P g0 lo (.code (.seq a b)) rd fr H Q:=NItem.seq (λf r t ds k cs w=>P2) (Ct b) F
def Mb{id:Nat}{c:Code}(h:NItem P g0 lo (.code c) rd fr H λo H'=>match o with|.ex (.jmp (.exit q)) Z=>Q (.ex (if q=id then .normal else .jmp (.exit q)) Z) H'|o=>Q o H'):NItem P g0 lo (.code (.block id c)) rd fr H Q:=by intro μ w t r ds hr ht aE ad f k cs;obtain⟨e1,I,H1,J,w1,t1,F,K,O,U,V,Y,a5⟩:=h μ w t r ds hr ht aE ad f (.inBlock id::k) cs;have st:step P (lone (cE f r t ds (.code (.block id c)::k)) cs w)=.next (lone (cE f r t ds (.code c::.inBlock id::k)) cs w):=MG;cases e1 with|normal=>exact⟨.normal,I,H1,J,w1,t1,F,K,O,U,V,Y,Steps.head st (Steps.trans a5 (.one EQ))⟩|jmp j=>obtain⟨pre,b1,b2⟩:=a5;cases j with|ret=>exact⟨.jmp .ret,I,H1,J,w1,t1,F,K,O,U,V,Y,pre++[.inBlock id],Steps.head st (by simpa using b1),λq e=>by cases e⟩|exit q=>refine⟨_,I,H1,J,w1,t1,F,K,O,U,V,Y,?_⟩;have hx:=b2 q rfl;rw[vz] at hx;by_cases he:q=id;{subst he;simp only[if_true] at hx⊢;exact Steps.head st (b1.trans (.one (RZ hx)))};{rw[if_neg (Ne.symm he)] at hx;rw[if_neg he];refine⟨pre++[.inBlock id],Steps.head st (by simpa using b1),λaS e=>?_⟩;grind}
def NItem.inLoop{c:Code}(Inv:Nat->Fr->Heap->Prop)(K:∀n fr H,Inv n fr H->NItem P g0 lo (.code c) rd fr H λo H'=>match o with|.ex .normal q=>∃m,m<n/\Inv m q H'|o=>Q o H'):∀n fr H,Inv n fr H->NItem P g0 lo (.inLoop c) rd fr H Q:=by intro n;induction n using Nat.strongRecOn with|_ n O=>intro fr H J;refine NItem.seq (λf r t ds k cs w=>AW) (nD c) ((K n fr H J).mono λe q H' I=>?_);cases e with|normal=>obtain⟨m,hm,F⟩:=I;exact O m hm q H' F|jmp j=>exact I
def NItem.loopC{c:Code}(Inv:Nat->Fr->Heap->Prop)(n:Nat)(h0:Inv n fr H)(I:∀n fr H,Inv n fr H->NItem P g0 lo (.code c) rd fr H λo H'=>match o with|.ex .normal q=>∃m,m<n/\Inv m q H'|o=>Q o H'):NItem P g0 lo (.code (.loop c)) rd fr H Q:=by refine NItem.seq (λf r t ds k cs w=>Kw) (nD c) ((I n fr H h0).mono λe q H' J=>?_);cases e with|normal=>obtain⟨m,hm,F⟩:=J;exact NItem.inLoop Inv I m q H' F|jmp j=>exact J
def NOp(P:Program)(g0:Nat)(o:Oper)(lo:Nat)(xs:List IV)(H:Heap)(R:IV->Heap->Prop):Prop:=∀(μ:Mu)(w:World)(t:Array Value),Rel P g0 μ H.get H.n w->VRs μ xs (o.op.operands.toList.map (fB t))->∀(f:FuncId)(rd:Option Nat)(ds:List Deferred)(k:List Item)(cs:List Frame)(ops:Array Oper)(i:Nat)(rest:List Nat),∃(v:IV) (H':Heap) (v':Value) (w':World) (q:Mu),R v H'/\Rel P g0 q H'.get H'.n w'/\Post lo μ H.get H.n w q H'.get H'.n w'/\VR q v v'/\ (ops[i]? =some o->Region.wanted o (yielded ops t)=true->Steps P (lone (cE f rd t ds (.inRegion ops (i::rest)::k)) cs w) (lone (cE f rd (tY t o.dst v') ds (.inRegion ops rest::k)) cs w'))
def NItem.region(hE:EnvOk P E){id:Nat}{ops:Array Oper}{pre post:List IOp}{io:IOp}(O:eE P ops false=some [(.seq,pre++io::post)])(hg:io.guard=none){R:IV->Heap->Prop}(a0:W E lo (.ops none pre rd fr) H λo H1=>∃q xs,o=.ex .normal q/\dm E.g0 q.tm io.args=some xs/\ (∀o,d6 P o.op=some io.kd->NOp P E.g0 o lo xs H1 R)/\ ∀v H2,R v H2->W E lo (.ops none post rd (q.put io.dst v)) H2 λo H'=>∃ad,o=.ex .normal ad/\Q (.ex .normal ad) H'):NItem P E.g0 lo (.code (.region id ops false)) rd fr H Q:=by simp only[eE] at O;cases h1:ops.toList.mapM (mr P ops) with|none=>rw[h1] at O;cases O|some l=>rw[h1] at O;simp only[zG,bQ,jE,if_false] at O;have O:l=pre++io::post:=by{grind};subst O;obtain⟨hl,aq⟩:=vi h1;obtain⟨n,o,H1,a5,q,xs,rfl,ba,a9,U⟩:=a0;obtain⟨bw,S1,e1,J⟩:=wB (N:=n) pre n (an _) _ _ _ _ _ a5;injection e1 with _ e1;subst e1;have aS:∀(j:Nat)(F:IOp),(pre++io::post)[j]? =some F->∃o,ops[j]? =some o/\OpOk P ops o F:=λj F hj=>by{obtain⟨o,q1,q2⟩:=aq j F hj;obtain⟨e3,e4,e5,e6⟩:=rq q2;exact⟨o,by simpa using q1,e3,e4,e5,e6⟩};have aE:ops.size=pre.length+(post.length+1):=by{grind};intro μ w t r ds hr ht b7 a7 f k cs;have j6:List.range ops.size=List.range' 0 pre.length++(pre.length::List.range' (pre.length+1) post.length):=by{rw[Qj,aE,<-List.range'_append_1,bH,KQ]};obtain⟨bc,t1,w1,a1,a2,Z,a4⟩:=Dh (a:=0) (ops:=ops) (DC hE n) (λj F hj=>by have b6:j<pre.length:=(List.getElem?_eq_some_iff.1 hj).1;simp_all[IN,bH]) J hr ht f r ds k cs (pre.length::List.range' (pre.length+1) post.length);obtain⟨o,ho,I⟩:=aS pre.length io (by simp);have Y:Region.wanted o (yielded ops t1)=true:=by{rw[sB I.guard (by simpa using Z.length) (λd w' _=>ma Z d),hg];rfl};have a6:=gZ a1 I.args ba (λi _=>ma Z i);obtain⟨v,H2,v',w2,bo,b0,b1,b2,b3,b4⟩:=a9 o I.kd bc w1 t1 a1 a6 f r ds k cs ops pre.length (List.range' (pre.length+1) post.length);have b4:=b4 ho Y;have b5:VRs bo (q.put io.dst v).tm (tY t1 o.dst v').toList:=by{rw[I.dst];cases o.dst with|none=>exact VRs.mono b2.le _ _ Z|some d=>simp only[Fr.put,tY,Ci];exact(VRs.mono b2.le _ _ Z).set d b3};obtain⟨n3,o3,H3,V,fr3,rfl,hq⟩:=U v H2 b0;obtain⟨bz,S3,e3,K⟩:=wB (N:=n3) post n3 (an _) _ _ _ _ _ V;injection e3 with _ e3;subst e3;obtain⟨bt,t3,w3,c1,c2,c3,c4⟩:=Dh (a:=pre.length+1) (ops:=ops) (DC hE n3) (λj F hj=>by obtain⟨o,q1,q2⟩:=aS (pre.length+1+j) F (by grind);exact⟨o,q1,q2⟩) K b1 b5 f r ds k cs [];rw[dz] at c4;refine⟨.normal,fr3,H3,bt,w3,t3,ds,hq,c1,(a2.trans b2).trans c2,c3,?_,?_⟩;{have hm:fr3.marks=fr.marks:=by{rw[K.marks];have:(q.put io.dst v).marks=q.marks:=by{cases io.dst<;>rfl};rw[this,J.marks]};rw[hm];exact a7.mono ((a2.trans b2).trans c2).le};{refine Steps.head Ix ?_;rw[j6];exact a4.trans (b4.trans (c4.trans (.one qT)))}
def NOp.next{o:Oper}(K:d6 P o.op=some .nextM){r b q I F:Nat}{seen:List Nat}{O:List (IV×IV×Nat)}(hg:H.get r=some (.iter (some b) q seen I))(hm:aP H b=some (O,F))(Z:lo<=r)(J:∀e∈O,e.2.2<I)(U:∀e∈O,e.2.2<q)(ad:∃e∈O,e.2.2∉seen):NOp P g0 o lo [.ptr r 0] H λv H'=>∃k x s,(k,x,s)∈O/\s∉seen/\v=.tuple [.bool true,k,x]/\H'=H.put r (.iter (some b) q (seen++[s]) F):=by intro μ w t hr hx f rd ds k cs ops i rest;obtain⟨y,V⟩:∃y,o.op=.next y false:=by{cases ho:o.op<;>rw[ho] at K<;>simp only[d6,NR,bh,jG,jH] at K;(all_goals (repeat' split at K));(all_goals (try simp only[jH,jG,reduceCtorEq,and_false,exists_false] at K));all_goals first|(cases K;done)|exact⟨_,rfl⟩|grind};obtain⟨dst,op,type,pos,after,guard⟩:=o;simp only at V;subst V;have hx:VRs μ [.ptr r 0] [fB t y]:=by{simpa [Op.operands] using hx};obtain⟨k0,v0,s0,h1,h2,nx,v',w',a0,Y,aE,aS,hp,hv⟩:=KA (dst:=dst) (type:=type) (pos:=pos) (after:=after) (guard:=guard) (ρ:=fB t) hr hg hm Z J U ad hx;exact⟨_,_,v',w',a0,⟨k0,v0,s0,h1,h2,Rr⟩,aS,hp,hv,λho hw=>.one (MF ho hw (GC K) Y aE)⟩
def SP(P:Program)(g0:Nat)(f:FuncId)(args:List IV)(lo:Nat)(H:Heap)(R:IV->Heap->Prop):Prop:=∀(μ:Mu)(w:World)(q:Array Value),Rel P g0 μ H.get H.n w->VRs μ args q.toList->Calls P f q w λe w'=>∃(v:IV) (H':Heap) (v':Value) (F:Mu),R v H'/\e=.returned v'/\Rel P g0 F H'.get H'.n w'/\Post lo μ H.get H.n w F H'.get H'.n w'/\VR F v v'
def NOp.call{o:Oper}(hk:d6 P o.op=some .call){g:FuncId}{q cap args:List IV}{fn:Func}{body:Code}(hf:P.funcs[g]? =some fn)(hb:fn.body=some body)(hn:(fn.name=="runtime.NumGoroutine")=false){R:IV->Heap->Prop}(h:SP P g0 g (q++args++cap) lo H R):NOp P g0 o lo (.fn g q cap::args) H R:=by obtain⟨fo,F,ts,ho⟩:=Sh hk;intro μ w t hr hx f rd ds k cs ops i rest;have U:o.op.operands.toList.map (fB t)=fB t fo::F.toList.map (fB t):=by{rw[ho];simp[Op.operands,Call.operands]};rw[U] at hx;obtain⟨y,yl,hy,aS,K⟩:=hx;simp only[lq] at hy;obtain⟨rfl,rfl⟩:=hy;obtain⟨l',r',Y,hl,aE⟩:=aS;have K:VRs μ args (F.map (fB t)).toList:=by{simpa using K};have a0:VRs μ (q++args++cap) ((l'++F.map (fB t))++r').toList:=by{rw[Fm,Fm];exact(hl.append K).append aE};obtain⟨e,w',fr,⟨v,H',v',a1,hR,rfl,ad,hp,hv⟩,J,a2,I⟩:=h μ w _ hr a0 (cE f rd t ds (.inRegion ops (i::rest)::k)::cs);refine⟨v,H',v',w',a1,hR,ad,hp,hv,λO hw=>?_⟩;rw[<-tc O];have V:(execOp (fB t) o).run P w=.ok (.enter g ((l'++F.map (fB t))++r')) w:=by{have Z:¬fn.name="runtime.NumGoroutine":=by{simpa using hn};simp only[execOp,ho,resolve,Y];simp[Deferred.ofValue,invoke,callFunc,hf,Z,hb]};refine Steps.head (step_lone_go ?_) (Steps.trans J (.one (step_leave_returned I)));rw[uK O hw (λc e=>by rw[ho] at e;cases e),vr];simp only[stepG.apply,Sem.runT_eq,V,if_true,GStep.bare_after];simp_all[cE]
end
open Go.Sort Go.Proofs Go.Shelf
section
variable {P:Program}{g0 lo:Nat}{μ:Mu}{H:Heap}{w:World}
def TP{n n':Nat}{g g':Gt}{K:Mu}{w':World}(E:Post n μ g n w K g' n' w'):∃q os,w'=grow (w.drewN q) os:=by have U:w'.heap=w.heap++w'.heap.extract w.heap.size w'.heap.size:=by{apply Array.ext_getElem?;intro i;by_cases V:i<w.heap.size;{rw[Array.getElem?_append_left V];exact E.frame i V λb p ez z I J=>Om};grind};refine⟨w'.drawn - w.drawn,w'.heap.extract w.heap.size w'.heap.size,?_⟩;have I:=E.os;have J:=E.tape;have O:=E.output;have h4:=E.drawn;obtain⟨h,t,d,o,u⟩:=w;obtain⟨F,Y,d',o',Z⟩:=w';simp only at I J O h4 U⊢;subst I J O;show World.mk F Y d' o' Z=World.mk (h++F.extract h.size F.size) Y (d+(d' - d)) o' Z;rw[<-U,show d+(d' - d)=d' by omega]
def N7(os:Array Obj){c:Nat}(q:c<w.heap.size):(grow w os).heap[c]? =w.heap[c]?:=Array.getElem?_append_left q
def Rel.grown{g:Gt}{n:Nat}(h:Rel P g0 μ g n w)(os:Array Obj):Rel P g0 μ g n (grow w os):=⟨h.lt,h.inj,λb c p ez z q=>by rw[N7 os (h.clt q)];exact h.obj b c p ez z q,h.glob,h.ded⟩
def Post.grown{g:Gt}{n:Nat}(h:Rel P g0 μ g n w)(os:Array Obj):Post lo μ g n w μ g n (grow w os) where le:=μ.le_refl;hn:=an _;old:=λ_ _ h=>h;low:=λ_ _ _=>⟨rfl,rfl⟩;own:=λ_ _ h=>h;new:=λb c p ez z I e=>absurd (h.lt b (by grind)) Om;full:=λb E F=>Om;size:=by{simp_all};frame:=λc q _=>N7 os q;os:=rfl;tape:=rfl;output:=rfl;drawn:=an _
def toV:IV->Value|.int k n=>.int k n|_=>undef
def Sj:IV->Bool|.int _ _=>true|_=>false
def AF:∀{L:List IV}{vs:List Value},L.all Sj=true->(VRs μ L vs↔vs=L.map toV)|[],vs,_=>by constructor<;>exactλh=>h|x::L,vs,h=>by simp only[nM,cQ] at h;have F:=λvs=>AF (L:=L) (vs:=vs) h.2;obtain⟨k,n,rfl⟩:∃k n,x=.int k n:=by{cases x with|int k n=>exact⟨k,n,rfl⟩|_=>exact absurd h.1 (by simp[Sj])};constructor;{rintro⟨y,ys,rfl,q,E⟩;have q:y=.int k n:=q;rw[q,(F ys).1 E];rfl};{rintro rfl;exact⟨_,_,rfl,rfl,(F _).2 rfl⟩}
theorem HO(F:Array Value)(cs:Array Value)(h:F.size<=cs.size):(putCells id 0 F cs).toList.take F.size=F.toList:=by apply xT;intro i;rw[List.getElem?_take];by_cases q:i<F.size;{rw[if_pos q,IK,IK];unfold putCells;rw[Array.getElem?_mapIdx,Fv (by omega:i<cs.size)];simp only[fh];rw[iP,sU,getElem!_pos F i q,Fv q];rfl};grind
def aag(h:Rel P g0 μ H.get H.n w){b c e ez z:Nat}{cs q:List IV}(U:μ b=.at c 0 ez z)(K:lo<=b)(V:H.get b=some (.cells false e ez cs)){F:Array Value}(Y:VRs μ q F.toList)(hl:q.length=cs.length)(m:Nat):Rel P g0 μ (H.put b (.cells false e ez q)).get (H.put b (.cells false e ez q)).n (putRow id (Sort.ahead w m) c 0 F)/\Post lo μ H.get H.n w μ (H.put b (.cells false e ez q)).get (H.put b (.cells false e ez q)).n (putRow id (Sort.ahead w m) c 0 F):=by obtain⟨o,E,O⟩:=h.obj b c 0 ez z U;rw[V] at E;injection E with E;subst E;obtain⟨_,_,I,Z,hz,ad,hv⟩:=O;have aE:F.size=q.length:=by{rw[<-xk,Y.length]};refine h.update U K ⟨_,V,rfl⟩ (by show(w.heap.modify c _).size=_;rw[Array.size_modify]) (λc' J=>by show(w.heap.modify c _)[c']? =_;rw[Array.getElem?_modify,if_neg (Ne.symm J)]) ?_ rfl rfl rfl (Nat.le_add_right _ _);refine⟨rfl,rfl,putCells id 0 F I,?_,?_,Om,?_⟩;{show(w.heap.modify c _)[c]? =_;rw[Array.getElem?_modify,if_pos rfl,Z];rfl};{unfold putCells;rw[Array.size_mapIdx];exact hz};grind[HO]
section
variable {α:Type}[Inhabited α]
def Fh:∀(l:List Value),(List.range l.length).map (λt=>l[t]!)=l:=by intro l;apply nO (by simp);grind
def Lu(enc:α->List Value)(k:Nat)(F:∀x,(enc x).length=k)(E:0<k):∀(l:List α),(flatK enc k l.toArray).toList=l.flatMap enc:=by have key:∀(l:List α),(List.range (l.length*k)).map (λt=>(enc l[t / k]!)[t%k]!)=l.flatMap enc:=by{intro l;induction l with|nil=>simp|cons a l I=>rw[cV,gP,Nat.add_comm,List.range_add,qv,FH,<-I];congr 1;{(conv=>rhs;rw[<-Fh (enc a),F]);apply FM;intro t q;have q:=List.mem_range.1 q;rw[Nat.div_eq_of_lt q,Nat.mod_eq_of_lt q];rfl};{rw[uU];apply FM;intro t _;show(enc (a::l)[(k+t) / k]!)[(k+t)%k]! =_;rw[Nat.add_div_left _ E,Nat.add_mod_left];rfl}};simp_all[flatK,Array.toList_map,Array.toList_range]
end
section
variable {α:Type}[Inhabited α][Cell α]
def yf(x:α):List Value:=(Cell.cs x).map toV
omit [Inhabited α] in theorem Ou(x:α):(yf x).length=Cell.z α:=by unfold yf;rw[cv,Cell.len]
omit [Inhabited α] in theorem UE(l:List α):l.flatMap yf=(aw l).map toV:=by unfold aw yf;rw[List.map_flatMap]
def Pe(E:α->α->Int)(b e ez:Nat)(l:List α)(H:Heap)(v:IV)(H':Heap):Prop:=v=.tuple []/\∃q:List α,q.Perm l/\q.Pairwise (λx y=>ltOf E y x=false)/\H'.n=H.n/\(∀x,x≠b->H'.get x=H.get x)/\H'.get b=some (.cells false e ez (aw q))
def ET{ρ:Ren}(L:SlLaysF0.n6 P ρ)(F:∀x:α,(Cell.cs x).all Sj=true)(aE:∀w,(isAgg (ρ.t 24)).run P w=.ok true w)(zE:∀w,(Go.sizeOf (ρ.t 24)).run P w=.ok (Cell.z α) w)(cf:α->α->Int)(hO:SWO (ltOf cf)){g b e ez lb:Nat}{ex:Bool}{l:List α}(bz:lo<=b)(hg:H.get b=some (.cells false e ez (aw l)))(b3:l.length<4611686018427387904)(eg:∀args w,(callFunc g args).run P w=.ok (.enter g args) w)(a5:∀(x y:α)(H':Heap),∃a3,CallSim P g0 g [.agg (Cell.cs x),.agg (Cell.cs y)] H'.n H' (.int .i64 (cf x y)) a3):SP P g0 (ρ.f 6) [.slice b 0 l.length lb ex,.fn g [] []] lo H (Pe cf b e ez l H):=by intro μ w aS hr ha;obtain⟨v1,ca,e1,b4,v2,cc,rfl,b5,rfl⟩:=ha;obtain⟨a,cap,rfl,Z,K⟩:=b4;obtain⟨l1,r1,rfl,I,J⟩:=b5;have I:l1.toList=[]:=I;have J:r1.toList=[]:=J;have I:l1=#[]:=Array.toList_eq_nil_iff.1 I;have J:r1=#[]:=Array.toList_eq_nil_iff.1 J;subst I J;have a0:aS=#[.slice (some a) l.length cap,.func (.func g) #[] #[]]:=by{apply xL;rw[e1]};subst a0;have a9:∃c q z,μ b=.at c 0 q z/\q=ez/\(cap=0\/a=⟨c,0,none⟩):=by{unfold SlR at K;cases hb:μ b with|no=>rw[hb] at K;exact K.elim|dead=>have:=hr.ded b hb;rw[hg] at this;injection this with this;cases this|«at» c p q z=>rw[hb] at K;obtain⟨o,U,a2⟩:=hr.obj b c p q z hb;rw[hg] at U;injection U with U;subst U;obtain⟨rfl,rfl,_⟩:=a2;exact⟨c,_,z,rfl,rfl,by simpa using K.1⟩};obtain⟨c,q,z,hb,rfl,a1⟩:=a9;by_cases ad:l=[];{subst ad;exact(AnyF.slices_SortFunc_none L (some a) cap _ w).mono λe' w' ⟨V,h2⟩=>by subst V h2;exact⟨.tuple [],H,.tuple #[],μ,⟨rfl,[],.refl _,.nil,rfl,λ_ _=>rfl,hg⟩,rfl,hr,Post.refl hr,⟨#[],Rr⟩⟩};have b6:0<l.length:=List.length_pos_iff.2 ad;have ha:a=⟨c,0,none⟩:=by{rcases a1 with h|h;{have V:=Z.1;have h2:=Z.2.1;omega};{exact h}};subst ha;have Y:∀l:List α,(aw l).all Sj=true:=λl=>by{unfold aw;rw[List.all_flatMap,xh];exactλx _=>F x};have hF:∀d:Array α,(flatK yf (Cell.z α) d).toList=(aw d.toList).map toV:=λd=>by{rw[<-UE,<-Lu yf (Cell.z α) Ou Cell.pos]};have a7:∀d:Array α,VRs μ (aw d.toList) (flatK yf (Cell.z α) d).toList:=λd=>(AF (Y _)).2 (hF d);obtain⟨o,U,a2⟩:=hr.obj b c 0 q z hb;rw[hg] at U;injection U with U;subst U;obtain⟨_,_,O,hc,hz,b8,hv⟩:=a2;have bc:O.toList.take (aw l).length=(flatK yf (Cell.z α) l.toArray).toList:=by{rw[hF];exact(AF (Y _)).1 hv};have a4:c<w.heap.size:=(Array.getElem?_eq_some_iff.1 hc).1;have hH:HoldsK yf (Cell.z α) w c 0 l.toArray:=by{intro j hj;have bw:j<(aw l).length:=by{rw[ax];simpa using hj};have b7:j<O.size:=Om;refine⟨?_,?_⟩;{unfold World.cell?;simp only[hc,Bb,jE,if_false,bH];have V:(O.toList.take (aw l).length)[j]? =O[j]?:=by{rw[List.getElem?_take,if_pos bw,IK]};rw[<-V,bc,IK,Fv hj,getElem!_pos _ j hj];rfl};{unfold World.frozen?;simp only[hc];simp}};have hW:∀(d:Array α)(m:Nat)(os:Array Obj),d.size=l.length->Rel P g0 μ (H.put b (.cells false e q (aw d.toList))).get (H.put b (.cells false e q (aw d.toList))).n (sortWorldK yf (Cell.z α) w c 0 m d os)/\ Post lo μ H.get H.n w μ (H.put b (.cells false e q (aw d.toList))).get (H.put b (.cells false e q (aw d.toList))).n (sortWorldK yf (Cell.z α) w c 0 m d os):=by{intro d m os hd;obtain⟨r1,p1⟩:=aag (lo:=lo) hr hb bz hg (a7 d) (by rw[ax,ax,xk,hd]) m;exact⟨r1.grown os,p1.trans (Post.grown r1 os)⟩};have ba:CmpLays P g #[] yf (Cell.z α) cf c 0 l.toArray.size w:=by{intro m os dk bo x y;obtain⟨r1,_⟩:=hW dk m os (by simpa using bo);obtain⟨a3,hs⟩:=a5 x y (H.put b (.cells false e q (aw dk.toList)));have hx:∀x:α,VR μ (.agg (Cell.cs x)) (.agg (yf x).toArray):=λx=>⟨_,rfl,(AF (F x)).2 rfl⟩;refine(hs μ _ _ r1 ⟨_,_,rfl,hx x,_,_,rfl,hx y,rfl⟩).mono λe' w' ⟨v',cd,V,_,h3,h4⟩=>?_;have h4:v'=.int .i64 (cf x y):=h4;subst V h4;exact⟨rfl,TP h3⟩};have a6:∀x:α,∀v∈yf x,v.oneCell'=true:=by{intro x v hv;obtain⟨y,hy,rfl⟩:=List.mem_map.1 hv;have:=List.all_eq_true.1 (F x) y hy;cases y<;>first|(cases this;done)|rfl};have E:=AnyQ.slices_SortFunc L (Cell.z α) aE zE yf Ou a6 cf hO g #[] c 0 cap l.toArray w eg ba hH a4 (by simpa using b3);rw[FJ] at E;refine E.mono λe' w' ⟨V,d',m,os,hp,hs,hw⟩=>?_;subst V hw;have hd:d'.size=l.length:=by{simpa using hp.1};obtain⟨r1,p1⟩:=hW d' m os hd;refine⟨.tuple [],H.put b (.cells false e q (aw d'.toList)),.tuple #[],μ,⟨rfl,d'.toList,?_,?_,rfl,λx hx=>by rw[aa,if_neg (Ne.symm hx)],by rw[aa,if_pos rfl]⟩,rfl,r1,p1,⟨#[],Rr⟩⟩;{have:=hp.2.2;have e1:d'.extract 0 l.length=d':=by{rw[<-hd];exact Array.extract_size};have e2:l.toArray.extract 0 l.length=l.toArray:=by{rw[<-FJ];exact Array.extract_size};rw[e1,e2] at this;simpa using this};{rw[IM];intro i j hi hj bt;have:=hs i j (dL _) bt (by rw[<-hd,<-xk];exact hj);rw[getElem!_pos d' i (by simpa using hi),getElem!_pos d' j (by simpa using hj)] at this;simpa using this}
end
end
open Classical
def W7:IV->Bool|.int _ _=>true|.bool _=>true|.nilSlice=>true|.slice _ _ _ _ _=>true|_=>false
section
variable {P:Program}{g0 lo:Nat}
def lC{c:Code}{x y:IC}(h:bj P c=some (.seq x y)):∃a b,c=.seq a b/\bj P a=some x/\bj P b=some y:=by cases c<;>simp only[bj,jG,zG,jH,A7,qw,reduceCtorEq,and_false,exists_false] at h;grind
def BC{c:Code}{l:List (Sg×List IOp)}(h:bj P c=some (.ops l)):∃id ops q,c=.region id ops q/\eE P ops q=some l:=by cases c<;>simp only[bj,jG,zG,jH,A7,qw,reduceCtorEq,and_false,exists_false] at h;grind
def OL{c:Code}{x:IC}{n:Nat}(h:bj P c=some (.block n x)):∃a,c=.block n a/\bj P a=some x:=by cases c<;>simp only[bj,jG,zG,jH,A7,qw,reduceCtorEq,and_false,exists_false] at h;grind
def Ri{c:Code}{x:IC}(h:bj P c=some (.loop x)):∃a,c=.loop a/\bj P a=some x:=by cases c<;>simp only[bj,jG,zG,jH,A7,qw,reduceCtorEq,and_false,exists_false] at h;grind
end
open Classical
def Fa(q:Nat->Nat):IV->IV|.slice b o n lb ex=>.slice (q b) o n lb ex|v=>v
def nmC(n:Nat):IV->Prop|.slice b _ _ _ _=>b<n|_=>True
def Qf{μ q:Mu}{E:Nat->Nat}{n:Nat}(hm:∀b,b<n->q b=μ (E b)\/q b=.dead):∀{v:IV}{v':Value},W7 v=true->nmC n v->VR μ (Fa E v) v'->VR q v v'|.int _ _,_,_,_,h=>h|.bool _,_,_,_,h=>h|.nilSlice,_,_,_,h=>h|.slice b o n lb ex,_,_,J,h=>by obtain⟨a,cap,e,F,I⟩:=h;refine⟨a,cap,e,F,?_⟩;unfold SlR at I⊢;rcases hm b J with e|e<;>grind
def qu{μ q:Mu}{I:Nat->Nat}{n:Nat}(hm:∀b,b<n->q b=μ (I b)\/q b=.dead):∀{cs:List IV}{l:List Value},cs.all W7=true->(∀c∈cs,nmC n c)->VRs μ (cs.map (Fa I)) l->VRs q cs l|[],_,_,_,h=>h|c::cs,_,E,F,h=>by simp only[nM,cQ] at E;obtain⟨y,ys,e,J,K⟩:=h;exact⟨y,ys,e,Qf hm E.1 (F c xi) J,qu hm E.2 (λc O=>F c (jo _ O)) K⟩
section
variable {μ μ1 μ':Mu}
def Hx(μ μ1 μ':Mu):Prop:=∀b,μ b≠.no->μ' b=μ1 b\/μ' b=.dead
def LocR.swap(hs:Hx μ μ1 μ'){b o:Nat}{q a:Addr}(h0:LocR μ b o q)(h:LocR μ1 b o a):LocR μ' b o a:=by have hn:μ b≠.no:=by{intro e;unfold LocR at h0;rw[e] at h0;exact h0};unfold LocR at h⊢;rcases hs b hn with e|e<;>grind
def SlR.swap(hs:Hx μ μ1 μ'){b o c0 cap:Nat}{ex:Bool}{q a:Addr}(h0:SlR μ b o ex c0 q)(h:SlR μ1 b o ex cap a):SlR μ' b o ex cap a:=by have hn:μ b≠.no:=by{intro e;unfold SlR at h0;rw[e] at h0;exact h0};unfold SlR at h⊢;rcases hs b hn with e|e<;>grind
mutual
def VR.swap(hs:Hx μ μ1 μ'):∀(x:IV)(U v:Value),VR μ x U->VR μ1 x v->VR μ' x v|.bool _,_,_,_,h=>h|.int _ _,_,_,_,h=>h|.str _,_,_,_,h=>h|.ptr _ _,_,_,h0,h=>by obtain⟨a,e,k⟩:=h;obtain⟨_,_,k0⟩:=h0;exact⟨a,e,k0.swap hs k⟩|.nilPtr,_,_,_,h=>h|.slice _ _ _ _ _,_,_,h0,h=>by obtain⟨a,c,e,k,l⟩:=h;obtain⟨_,_,_,_,K⟩:=h0;exact⟨a,c,e,k,K.swap hs l⟩|.nilSlice,_,_,_,h=>h|.map _,_,_,h0,h=>by obtain⟨a,e,k⟩:=h;obtain⟨_,_,k0⟩:=h0;exact⟨a,e,k0.swap hs k⟩|.nilMap,_,_,_,h=>h|.fn _ l r,_,_,h0,h=>by obtain⟨q,O,e,E,I⟩:=h;obtain⟨_,_,_,F,J⟩:=h0;exact⟨q,O,e,VRs.swap hs l _ _ F E,VRs.swap hs r _ _ J I⟩|.yield _,_,_,h0,h=>by obtain⟨a,e,k⟩:=h;obtain⟨_,_,k0⟩:=h0;exact⟨a,e,k0.swap hs k⟩|.nilFunc,_,_,_,h=>h|.iface _ x,_,_,h0,h=>by obtain⟨V,e,k⟩:=h;obtain⟨_,_,k0⟩:=h0;exact⟨V,e,VR.swap hs x _ _ k0 k⟩|.nilIface,_,_,_,h=>h|.agg l,_,_,h0,h=>by obtain⟨q,e,k⟩:=h;obtain⟨_,_,k0⟩:=h0;exact⟨q,e,VRs.swap hs l _ _ k0 k⟩|.tuple l,_,_,h0,h=>by obtain⟨q,e,k⟩:=h;obtain⟨_,_,k0⟩:=h0;exact⟨q,e,VRs.swap hs l _ _ k0 k⟩
def VRs.swap(hs:Hx μ μ1 μ'):∀(x:List IV)(E v:List Value),VRs μ x E->VRs μ1 x v->VRs μ' x v|[],_,_,_,h=>h|x::xs,_,_,h0,h=>by obtain⟨y,ys,e,k,ks⟩:=h;obtain⟨_,_,_,k0,q⟩:=h0;exact⟨y,ys,e,VR.swap hs x _ _ k0 k,VRs.swap hs xs _ _ q ks⟩
end
def EsR.swap(hs:Hx μ μ1 μ'):∀{q:List (IV×IV×Nat)}{F l:List MapEntry},EsR μ q F->EsR μ1 q l->EsR μ' q l|[],_,_,_,h=>h|(k,v,_)::_,_,_,h0,h=>by obtain⟨e,E,a,b,c,d,f⟩:=h;obtain⟨_,_,_,b0,c0,_,f0⟩:=h0;exact⟨e,E,a,VR.swap hs k _ _ b0 b,VR.swap hs v _ _ c0 c,d,EsR.swap hs f0 f⟩
def ObjR.swap{P:Program}(hs:Hx μ μ1 μ'){o:IObj}{p p0 ez J z z0:Nat}{h h0:Option Obj}(k0:ObjR P μ o p0 J z0 h0)(k:ObjR P μ1 o p ez z h):ObjR P μ' o p ez z h:=by cases o with|cells ro e Y cs=>cases ro;{obtain⟨a,b,q,c,d,F,f⟩:=k;obtain⟨_,_,_,_,_,_,f0⟩:=k0;exact⟨a,b,q,c,d,F,VRs.swap hs _ _ _ f0 f⟩};{obtain⟨a,q,F,Z,b,c,f⟩:=k;obtain⟨_,_,_,_,_,_,f0⟩:=k0;exact⟨a,q,F,Z,b,c,VRs.swap hs _ _ _ f0 f⟩}|map es E=>obtain⟨a,I,b,c⟩:=k;obtain⟨_,_,_,c0⟩:=k0;exact⟨a,I,b,EsR.swap hs c0 c⟩|loop st pend tm ps U body df=>obtain⟨a,L,b,c,d,e,f,g,i,j⟩:=k;obtain⟨_,_,_,_,_,V,_,_,_,j0⟩:=k0;exact⟨a,L,b,c,d,VRs.swap hs _ _ _ V e,f,g,i,j0.swap hs j⟩|deferred=>exact k|taken=>exact k|iter m K seen O=>obtain⟨a,m',b,c⟩:=k;obtain⟨_,_,_,c0⟩:=k0;exact⟨a,m',b,VR.swap hs _ _ _ c0 c⟩|dead=>exact k
end
structure FixOk(lo:Nat)(H H1 Hs:Heap)(σ:Nat→Nat):Prop where
 hn:H.n≤Hs.n
 s0:∀b,b < H.n→σ b=b
 s1:∀b,H.n≤b→b < Hs.n→H.n≤σ b∧σ b < H1.n
 s2:∀b b',H.n≤b→b < Hs.n→H.n≤b'→b' < Hs.n→σ b=σ b'→b=b'
 low:∀b,b < lo→b < H.n→Hs.get b=H.get b
 old:∀b,b < H.n→(Hs.get b=H.get b∧H1.get b=H.get b)∨(lo≤b∧Hs.get b=some .dead)∨
  (lo≤b∧bD H.get b∧∃e z cs,Hs.get b=some (.cells false e z cs)∧H1.get b=some (.cells false e z (cs.map (Fa σ)))∧cs.all W7=true∧∀c∈cs,nmC Hs.n c)
 new:∀b,H.n≤b→b < Hs.n→∃e z cs,Hs.get b=some (.cells false e z cs)∧H1.get (σ b)=some (.cells false e z (cs.map (Fa σ)))∧cs.all W7=true∧∀c∈cs,nmC Hs.n c
section
variable {P:Program}{g0 lo:Nat}
def aaX{μ F:Mu}{H H1 K:Heap}{w w1:World}{Y:Nat->Nat}(cd:g0<=lo)(hr:Rel P g0 μ H.get H.n w)(r1:Rel P g0 F H1.get H1.n w1)(p1:Post lo μ H.get H.n w F H1.get H1.n w1)(E:FixOk lo H H1 K Y):∃a6,Rel P g0 a6 K.get K.n w1/\Post lo μ H.get H.n w a6 K.get K.n w1/\∀b,b<K.n->a6 b=F (Y b)\/a6 b=.dead:=by let m2:Mu:=λb=>if b<K.n then(if K.get b=some .dead/\F (Y b)≠.no then .dead else F (Y b)) else .no;have b4:∀b,K.n<=b->m2 b=.no:=λb h=>by{grind};have b3:∀b,b<K.n->K.get b=some .dead->F (Y b)≠.no->m2 b=.dead:=λb I q h3=>by{grind};have bc:∀b,b<K.n->¬(K.get b=some .dead/\F (Y b)≠.no)->m2 b=F (Y b):=λb I q=>by{grind};have aE:∀b,b<K.n->m2 b=F (Y b)\/m2 b=.dead:=λb h=>by{grind};have b8:∀b,b<K.n->F (Y b)=.no->m2 b=.no:=λb I q=>by{grind};have a5:∀b c p ez z,m2 b=.at c p ez z->b<K.n/\F (Y b)=.at c p ez z/\K.get b≠some .dead:=by{grind};have ba:∀b b',b<K.n->b'<K.n->Y b=Y b'->b=b':=by{intro b b' I q he;rcases eS b H.n with c1|c1<;>rcases eS b' H.n with c2|c2;{rw[E.s0 b c1,E.s0 b' c2] at he;exact he};{have:=E.s0 b c1;have:=E.s1 b' c2 q;omega};{have:=E.s0 b' c2;have:=E.s1 b c1 I;omega};{exact E.s2 b b' c1 I c2 q he}};have bt:Hx μ F m2:=λb J=>by{have U:=hr.lt b J;have:=aE b (bR U E.hn);rwa [E.s0 b U] at this};have bo:∀b,b<K.n->bD K.get b->bD H1.get (Y b):=by{rintro b J ⟨o,I,q⟩;rcases eS b H.n with c|c;{rw[E.s0 b c];rcases E.old b c with⟨O,Z⟩|⟨_,O⟩|⟨_,_,e,z,cs,O,Z,_⟩;{exact⟨o,by rw[Z,<-O];exact I,q⟩};{rw[O] at I;injection I with I;subst I;cases q};{exact⟨_,Z,rfl⟩}};{obtain⟨e,z,cs,O,Z,_⟩:=E.new b c J;exact⟨_,Z,rfl⟩}};have b6:μ.le m2:=λb J=>by{have U:=hr.lt b J;rcases bt b J with e|e;{rw[e];exact p1.le b J};{exact .inr e}};refine⟨m2,⟨?_,?_,?_,?_,?_⟩,⟨b6,E.hn,?_,?_,?_,?_,?_,p1.size,p1.frame,p1.os,p1.tape,p1.output,p1.drawn⟩,aE⟩;{grind};{intro b b' c p ez z p' ca z' J bw ho;obtain⟨I,q,_⟩:=a5 _ _ _ _ _ J;obtain⟨h3,h4,_⟩:=a5 _ _ _ _ _ bw;exact ba b b' I h3 (r1.inj _ _ _ _ _ _ _ _ _ q h4 (bo b I ho))};{intro b c p ez z J;obtain⟨I,q,h3⟩:=a5 _ _ _ _ _ J;obtain⟨o1,g1,k1⟩:=r1.obj _ c p ez z q;rcases eS b H.n with cc|cc;{have e0:=E.s0 b cc;rw[e0] at g1 q;rcases E.old b cc with⟨O,Z⟩|⟨_,O⟩|⟨_,_,e,z',cs,O,Z,a3,a4⟩;{rw[Z] at g1;refine⟨o1,by rw[O];exact g1,?_⟩;have b7:μ b≠.no:=λh=>by{rw[p1.old b cc h] at q;cases q};obtain⟨c0,p0,aS,z0,bz⟩:∃c0 p0 aS z0,μ b=.at c0 p0 aS z0:=by{cases hm:μ b with|no=>exact absurd hm b7|dead=>have:=hr.ded b hm;rw[g1] at this;injection this with this;subst this;exact k1.elim|«at» c0 p0 aS z0=>exact⟨_,_,_,_,rfl⟩};obtain⟨o0,V,k0⟩:=hr.obj b _ _ _ _ bz;rw[g1] at V;injection V with V;subst V;exact k0.swap bt k1};{exact absurd O h3};{rw[Z] at g1;injection g1 with g1;subst g1;obtain⟨q1,q2,a7,q3,q4,q5,q6⟩:=k1;rw[cv] at q5 q6;exact⟨_,O,q1,q2,a7,q3,q4,q5,qu aE a3 a4 q6⟩}};{obtain⟨e,z',cs,O,Z,a3,a4⟩:=E.new b cc I;rw[Z] at g1;injection g1 with g1;subst g1;obtain⟨q1,q2,a7,q3,q4,q5,q6⟩:=k1;rw[cv] at q5 q6;exact⟨_,O,q1,q2,a7,q3,q4,q5,qu aE a3 a4 q6⟩}};{intro i hi;have b5:=hr.glob i hi;have U:=hr.lt i (by grind);have I:=r1.glob i hi;have e0:=E.s0 i U;rcases aE i (bR U E.hn) with e|e;{rw[e,e0];exact I};{have hd:K.get i=some .dead:=by{grind};rw[E.low i Om U] at hd;obtain⟨o,g,k⟩:=hr.obj i _ _ _ _ b5;rw[hd] at g;injection g with g;subst g;exact k.elim}};{intro b J;have U:b<K.n:=KM λh=>by{rw[b4 b h] at J;cases J};by_cases q:K.get b=some .dead/\F (Y b)≠.no;{exact q.1};{rw[bc b U q] at J;have hd:=r1.ded _ J;rcases eS b H.n with cc|cc;{rw[E.s0 b cc] at hd;rcases E.old b cc with⟨O,Z⟩|⟨_,O⟩|⟨_,_,e,z',cs,O,Z,_⟩<;>grind};{obtain⟨e,z',cs,O,Z,_⟩:=E.new b cc U;grind}}};{intro b J h;exact b8 b (bR J E.hn) (by rw[E.s0 b J];exact p1.old b J h)};{intro b J ad;have hl:=p1.low b J ad;have hg:=E.low b J ad;refine⟨?_,hg⟩;have a9:=bR ad E.hn;by_cases q:K.get b=some .dead/\F (Y b)≠.no;{rw[b3 b a9 q.1 q.2];have h3:=q.2;rw[E.s0 b ad,hl.1] at h3;cases hm:μ b with|no=>exact absurd hm h3|dead=>rfl|«at» c0 p0 aS z0=>obtain⟨o0,V,k0⟩:=hr.obj b _ _ _ _ hm;rw[<-hg,q.1] at V;injection V with V;subst V;exact k0.elim};{rw[bc b a9 q,E.s0 b ad];exact hl.1}};{rintro b J ⟨o,I,q⟩;rcases E.old b J with⟨O,_⟩|⟨_,O⟩|⟨_,a0,_⟩;{exact⟨o,by rw[<-O];exact I,q⟩};{rw[O] at I;injection I with I;subst I;cases q};{exact a0}};{intro b c p ez z J e;obtain⟨I,q,_⟩:=a5 _ _ _ _ _ e;exact p1.new _ c p ez z (E.s1 b J I).1 q};{intro b I q;have:=E.s1 b I q;have h3:=p1.full _ this.1 this.2;grind}
def YO{f:FuncId}{fn:IFn}(E:mF P f=some fn){args:List IV}{H Hs:Heap}{v:List IV}(a7:g0<=lo){NC:Prop}(bo:∀(μ:Mu)(w:World)(q:Array Value),Rel P g0 μ H.get H.n w->VRs μ args q.toList->NC)(O:NC->∀I c,P.funcs[f]? =some I->I.body=some c->bj P c=some fn.body->NItem P g0 lo (.code c) none ⟨args++ft (fn.ntmps - args.length),[]⟩ H λo H'=>∃e J,o=.ex e J/\(∀id,e≠.jmp (.exit id))/\J.marks=[]/\ ∃σ,aY H' J.tm fn.results=some [.agg (v.map (Fa σ))]/\v.all W7=true/\(∀c∈v,nmC Hs.n c)/\FixOk lo H H' Hs σ):CallSim P g0 f args lo H (.agg v) Hs:=by unfold mF at E;cases Z:P.funcs[f]? with|none=>rw[Z] at E;cases E|some I=>rw[Z] at E;simp only at E;split at E;{cases E};{cases hb:I.body with|none=>rw[hb] at E;cases E|some c=>rw[hb] at E;simp only at E;cases F:I.results.toList.mapM (Cy P) with|none=>rw[F] at E;cases E|some b6=>cases U:bj P c with|none=>rw[F,U] at E;cases E|some ic=>rw[F,U] at E;injection E with E;subst E;intro μ w q hr ha cs;have hs:=O (bo μ w q hr ha) I c Z hb U;have ht:VRs μ (args++ft (I.ntmps - args.length)) (q++Array.replicate (I.ntmps - q.size) undef).toList:=by{have hl:args.length=q.size:=by{have:=ha.length;simpa using this};rw[hl,Fm,Array.toList_replicate];exact ha.append (sF _)};obtain⟨e,b5,H1,b4,w1,t1,aS,⟨e',J,a0,he,bc,σ,hv,bw,bt,a6⟩,a1,a2,a3,a4,a5⟩:=hs μ w _ none [] hr ht rfl rfl f [] cs;injection a0 with q1 q2;subst q1 q2;rw[bc] at a4;have a4:aS=[]:=a4;subst a4;have K:Frame.enter P f q .normal=cE f none (q++Array.replicate (I.ntmps - q.size) undef) [] [.code c]:=by{simp[Frame.enter,cE,Z,hb]};have ba:∃todo,Steps P (lone (Frame.enter P f q .normal) cs w) (lone (Vb f t1 [] todo) cs w1):=by{rw[K];cases e with|normal=>exact⟨[],Steps.trans a5 (.one (zq (.inl rfl)))⟩|jmp j=>cases j with|exit id=>exact absurd rfl (he id)|ret=>obtain⟨pre,b1,_⟩:=a5;exact⟨_,Steps.trans b1 (.one (zq (.inr ⟨_,rfl⟩)))⟩};obtain⟨todo,b3⟩:=ba;obtain⟨v',aE,Y⟩:=xc a1 a3 F hv;have Y:VR b4 (.agg (v.map (Fa σ))) v':=Y;obtain⟨m2,ad,V,bz⟩:=aaX a7 hr a1 a2 a6;refine⟨.returned v',w1,Vb f t1 [] todo,⟨v',m2,rfl,ad,V,?_⟩,b3,rfl,rfl,rfl,rfl,I,Z,aE⟩;obtain⟨l',e',a9⟩:=Y;exact⟨l',e',qu bz bw bt a9⟩}
noncomputable def pW(P:Program)(g0:Nat)(f:FuncId)(C:List IV->Heap->Option (IV×Heap)):List IV->Nat->Heap->Option (IV×Heap):=λargs lo H=>match C args H with|some (v,H')=>if Keep lo H H'/\CallSim P g0 f args lo H v H' then some (v,H') else none|none=>none
def Cq{f:FuncId}{C:List IV->Heap->Option (IV×Heap)}{args:List IV}{H H':Heap}{v:IV}(q:C args H=some (v,H'))(E:Keep lo H H')(hs:CallSim P g0 f args lo H v H'):pW P g0 f C args lo H=some (v,H'):=by simp_all[pW,if_pos]
def Lw{f:FuncId}{C:List IV->Heap->Option (IV×Heap)}{args:List IV}{H H':Heap}{v:IV}(h:pW P g0 f C args lo H=some (v,H')):Keep lo H H'/\∀q,q<=lo->pW P g0 f C args q H=some (v,H'):=by unfold pW at h;split at h;{rename_i O H0 K;split at h;{rename_i E;injection h with h;injection h with I J;subst I J;exact⟨E.1,λq F=>Cq K (E.1.lower F) (E.2.lower F)⟩};{cases h}};{cases h}
def QR{f:FuncId}{C:List IV->Heap->Option (IV×Heap)}{args:List IV}{H H':Heap}{v:IV}(h:pW P g0 f C args lo H=some (v,H')):CallSim P g0 f args lo H v H':=by grind[pW]
end
open Go.Proofs Go.Shelf
section
variable {P:Program}{ρ:Ren}{g0 lo:Nat}{H:Heap}
end
end Go.Iso
