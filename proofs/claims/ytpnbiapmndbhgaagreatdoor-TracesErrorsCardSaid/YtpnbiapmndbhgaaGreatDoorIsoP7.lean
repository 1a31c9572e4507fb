/-
  rules of runs over ranges, slices and lists.
-/
import Derived.Test.YtpnbiapmndbhgaaGreatDoorIsoP6
import Derived.IntWalk
import Derived.Shelf.SlSortCmp.NoneTotal
set_option linter.unusedSimpArgs false
set_option linter.unusedVariables false
set_option maxRecDepth 100000
set_option linter.defProp false
namespace Go.Iso
section
variable {E:Env}{lo:Nat}{rd:Option Nat}{fr:Fr}{H:Heap}{Q:Out→Heap→Prop}
def Iq:Option Jmp→Ex
 | none=>.normal
 | some j=>.jmp j
theorem adG:Iq none=.normal:=rfl
theorem adF{j:Jmp}:Iq (some j)=.jmp j:=rfl
def PV(l lo:Nat)(marks:List Nat)(fr:Fr)(Q:Out→Heap→Prop)(H2:Heap)(ob:Option IObj):Prop:=
 match ob with
 | some (.loop st pend tm ps asg body df)=>st≠.busy∧lo≤l∧Q (.ex (Iq pend) {fr with marks:=marks++fr.marks}) (H2.put l (.loop .exhausted pend tm ps asg body df))
 | _=>False
def amX(l lo:Nat)(marks:List Nat)(fr:Fr)(Q:Out→Heap→Prop):Out→Heap→Prop:=fun o H2=>
 match o with
 | .val _=>PV l lo marks fr Q H2 (H2.get l)
 | _=>False
def asw(E:Env)(lo:Nat)(ps:List Nat)(asg body:IC)(fr:Fr)(Q:Out→Heap→Prop)(g:IV)(e:Nat×List Nat×Heap):Prop:=
 W E lo (.apply g [.yield e.2.2.n]) (e.2.2.new (.loop .ready none fr.tm ps asg body e.1)) (amX e.2.2.n lo e.2.1 fr Q)
theorem amW{l:Nat}{marks:List Nat}{v:IV}:amX l lo marks fr Q (.val v) H=PV l lo marks fr Q H (H.get l):=rfl
theorem amV{l:Nat}{marks:List Nat}{st:LoopState}{pend:Option Jmp}{tm:List IV}{ps:List Nat}{asg body:IC}{df:Nat}:
  PV l lo marks fr Q H (some (.loop st pend tm ps asg body df))=(st≠.busy∧lo≤l∧Q (.ex (Iq pend) {fr with marks:=marks++fr.marks}) (H.put l (.loop .exhausted pend tm ps asg body df))):=rfl
theorem an0{f:IA}{ps:List Nat}{asg body:IC}{g:IV}{e:Nat×List Nat×Heap}(hg:f.eval E.g0 fr.tm=some g)(he:gY rd H=some e):W E lo (.code (.rfn f ps asg body) rd fr) H Q=asw E lo ps asg body fr Q g e:=by
 obtain⟨df,marks,H1⟩:=e;refine propext ⟨?_,?_⟩
 ·rintro⟨n,o,H',h,hq⟩
  cases n with
  | zero=>cases h
  | succ n=>
    rw[run] at h;simp only[hg,he] at h
    cases h1:run E n (.apply g [.yield H1.n]) lo (H1.new (.loop .ready none fr.tm ps asg body df)) with
    | none=>rw[h1] at h;cases h
    | some p=>
      rw[h1] at h;obtain⟨o1,H2⟩:=p;refine⟨n,o1,H2,h1,?_⟩
      cases o1 with
      | ex e fr=>cases h
      | val v=>
        simp only at h
        show PV _ _ _ _ _ _ _
        cases h2:H2.get H1.n with
        | none=>rw[h2] at h;cases h
        | some ob=>
          rw[h2] at h
          cases ob with
          | loop st pend tm ps' asg' body' df'=>
            simp only at h;split at h
            ·cases h
            ·rename_i hn;refine⟨fun e=>hn (.inl e),Nat.le_of_not_lt fun e=>hn (.inr e),?_⟩
             cases pend with
             | none=>injection h with h;injection h with h3 h4;subst h3 h4;exact hq
             | some j=>injection h with h;injection h with h3 h4;subst h3 h4;exact hq
          | _=>cases h
 ·intro h;refine aqd hg he (h.mono fun o H2 h=>?_)
  cases o with
  | ex e fr=>exact h.elim
  | val v=>
    have h':PV H1.n lo marks fr Q H2 (H2.get H1.n):=h
    cases h2:H2.get H1.n with
    | none=>rw[h2] at h';exact h'.elim
    | some ob=>
      rw[h2] at h'
      cases ob with
      | loop st pend tm ps' asg' body' df'=>exact⟨v,st,pend,tm,ps',asg',body',df',rfl,rfl,h'.1,h'.2.1,by cases pend<;>exact h'.2.2⟩
      | _=>exact h'.elim
theorem an1{f:IA}{ps:List Nat}{asg body:IC}:W E lo (.code (.rfn f ps asg body) none fr) H Q=kG (f.eval E.g0 fr.tm) fun g=>
  W E lo (.apply g [.yield (H.n+1)]) ((H.new .deferred).new (.loop .ready none fr.tm ps asg body H.n)) (amX (H.n+1) lo [H.n] fr Q):=by
 cases hg:f.eval E.g0 fr.tm with
 | none=>
   refine propext ⟨?_,fun h=>h.elim⟩;rintro⟨n,o,H',h,hq⟩
   cases n with
   | zero=>cases h
   | succ n=>rw[run] at h;simp only[hg] at h;cases h
 | some g=>exact an0 hg (e:=(H.n,[H.n],H.new .deferred)) rfl
def zV(l:Nat)(Q:Out→Heap→Prop)(e:Ex)(H:Heap)(ob:Option IObj):Prop:=
 match ob with
 | some (.loop _ _ tm ps asg body df)=>
   match e with
   | .normal=>Q (.val (.bool true)) (H.put l (.loop .ready none tm ps asg body df))
   | .jmp j=>Q (.val (.bool false)) (H.put l (.loop .done (some j) tm ps asg body df))
 | _=>False
def O4(l:Nat)(Q:Out→Heap→Prop):Out→Heap→Prop:=fun o H=>
 match o with
 | .ex e _=>zV l Q e H (H.get l)
 | _=>False
def xL(E:Env)(lo l:Nat)(body:IC)(Q:Out→Heap→Prop)(fr:Fr)(H:Heap)(ob:Option IObj):Prop:=
 match ob with
 | some (.loop .ready pend tm ps asg body' df)=>W E lo (.code body (some l) fr) (H.put l (.loop .busy pend tm ps asg body' df)) (O4 l Q)
 | _=>False
def Gb(E:Env)(lo l:Nat)(body:IC)(Q:Out→Heap→Prop):Out→Heap→Prop:=fun o H=>
 match o with
 | .ex .normal fr=>xL E lo l body Q fr H (H.get l)
 | _=>False
def OK(E:Env)(lo l:Nat)(args:List IV)(Q:Out→Heap→Prop)(H:Heap)(ob:Option IObj):Prop:=
 match ob with
 | some (.loop _ _ tm ps asg body _)=>args.length=ps.length∧lo≤l∧W E lo (.code asg (some l) ⟨eG tm ps args,[]⟩) H (Gb E lo l body Q)
 | _=>False
theorem ac8{l:Nat}{e:Ex}:O4 l Q (.ex e fr) H=zV l Q e H (H.get l):=rfl
theorem ac6{l:Nat}{st:LoopState}{pend:Option Jmp}{tm:List IV}{ps:List Nat}{asg body:IC}{df:Nat}:zV l Q .normal H (some (.loop st pend tm ps asg body df))=Q (.val (.bool true)) (H.put l (.loop .ready none tm ps asg body df)):=rfl
theorem ac7{l:Nat}{j:Jmp}{st:LoopState}{pend:Option Jmp}{tm:List IV}{ps:List Nat}{asg body:IC}{df:Nat}:zV l Q (.jmp j) H (some (.loop st pend tm ps asg body df))=Q (.val (.bool false)) (H.put l (.loop .done (some j) tm ps asg body df)):=rfl
theorem P1{l:Nat}{body:IC}:Gb E lo l body Q (.ex .normal fr) H=xL E lo l body Q fr H (H.get l):=rfl
theorem P0{l:Nat}{body body':IC}{pend:Option Jmp}{tm:List IV}{ps:List Nat}{asg:IC}{df:Nat}:xL E lo l body Q fr H (some (.loop .ready pend tm ps asg body' df))=W E lo (.code body (some l) fr) (H.put l (.loop .busy pend tm ps asg body' df)) (O4 l Q):=rfl
theorem OJ{l:Nat}{args:List IV}{st:LoopState}{pend:Option Jmp}{tm:List IV}{ps:List Nat}{asg body:IC}{df:Nat}:OK E lo l args Q H (some (.loop st pend tm ps asg body df))=(args.length=ps.length∧lo≤l∧W E lo (.code asg (some l) ⟨eG tm ps args,[]⟩) H (Gb E lo l body Q)):=rfl
theorem Fj{l:Nat}{args:List IV}:W E lo (.apply (.yield l) args) H Q=OK E lo l args Q H (H.get l):=by
 refine propext ⟨?_,?_⟩
 ·rintro⟨n,o,H',h,hq⟩
  cases n with
  | zero=>cases h
  | succ n=>
    rw[run] at h
    try simp only at h
    cases hg:H.get l with
    | none=>rw[hg] at h;cases h
    | some ob=>
      rw[hg] at h
      cases ob with
      | loop st pend tm ps asg body df=>
        simp only at h;split at h
        ·rename_i hl;refine⟨hl.1,hl.2,?_⟩
         cases h1:run E n (.code asg (some l) ⟨eG tm ps args,[]⟩) lo H with
         | none=>rw[h1] at h;cases h
         | some p=>
           rw[h1] at h;obtain⟨o1,H1⟩:=p;refine⟨n,o1,H1,h1,?_⟩
           cases o1 with
           | val v=>cases h
           | ex e fr=>cases e with
             | jmp j=>cases h
             | normal=>
               simp only at h
               show xL _ _ _ _ _ _ _ _
               simp only[iJ] at h
               cases hb:H1.get l with
               | none=>rw[hb] at h;cases h
               | some ob2=>
                 rw[hb] at h
                 cases ob2 with
                 | loop st2 pend2 tm2 ps2 asg2 body2 df2=>
                   cases st2 with
                   | ready=>
                     simp only at h
                     cases h2:run E n (.code body (some l) fr) lo (H1.put l (.loop .busy pend2 tm2 ps2 asg2 body2 df2)) with
                     | none=>rw[h2] at h;cases h
                     | some p=>
                       rw[h2] at h;obtain⟨o3,H3⟩:=p;refine⟨n,o3,H3,h2,?_⟩
                       cases o3 with
                       | val v=>cases h
                       | ex e fr3=>
                         simp only[zN] at h
                         show zV _ _ _ _ _
                         cases hc:H3.get l with
                         | none=>rw[hc] at h;cases h
                         | some ob3=>
                           rw[hc] at h
                           cases ob3 with
                           | loop st3 pend3 Pb ps3 asg3 body3 df3=>
                             cases e with
                             | normal=>injection h with h;injection h with h3 h4;subst h3 h4;exact hq
                             | jmp j=>injection h with h;injection h with h3 h4;subst h3 h4;exact hq
                           | _=>cases h
                   | _=>cases h
                 | _=>cases h
        ·cases h
      | _=>cases h
 ·intro h
  cases hg:H.get l with
  | none=>rw[hg] at h;exact h.elim
  | some ob=>
    rw[hg] at h
    cases ob with
    | loop st pend tm ps asg body df=>
      obtain⟨h1,h2,h3⟩:=h;refine aex hg h1 h2 (h3.mono fun o H1 h=>?_)
      cases o with
      | val v=>exact h.elim
      | ex e fr=>cases e with
        | jmp j=>exact h.elim
        | normal=>
          have h':xL E lo l body Q fr H1 (H1.get l):=h
          cases hb:H1.get l with
          | none=>rw[hb] at h';exact h'.elim
          | some ob2=>
            rw[hb] at h'
            cases ob2 with
            | loop st2 pend2 tm2 ps2 asg2 body2 df2=>
              cases st2 with
              | ready=>
                refine⟨fr,_,rfl,by simp only[iJ,hb],W.mono h' fun o H3 h=>?_⟩
                cases o with
                | val v=>exact h.elim
                | ex e fr3=>
                  have h'':zV l Q e H3 (H3.get l):=h
                  cases hc:H3.get l with
                  | none=>rw[hc] at h'';exact h''.elim
                  | some ob3=>
                    rw[hc] at h''
                    cases ob3 with
                    | loop st3 pend3 Pb ps3 asg3 body3 df3=>
                      cases e with
                      | normal=>exact⟨_,_,(_,_),rfl,by simp only[zN,hc];rfl,h''⟩
                      | jmp j=>exact⟨_,_,(_,_),rfl,by simp only[zN,hc];rfl,h''⟩
                    | _=>exact h''.elim
              | _=>exact h'.elim
            | _=>exact h'.elim
    | _=>exact h.elim
def apC(I:Nat→Fr→Heap→Prop)(k:Nat)(Q:Out→Heap→Prop):Out→Heap→Prop:=fun o H=>
 match o with
 | .ex .normal fr=>∃k',k' < k∧I k' fr H
 | o=>Q o H
theorem aO{c:IC}(I:Nat→Fr→Heap→Prop)(h:∀k fr H,I k fr H→∀L:Out→Heap→Prop,(∀k' fr H,k' < k→I k' fr H→L (.ex .normal fr) H)→(∀j fr H,L (.ex (.jmp j) fr) H=Q (.ex (.jmp j) fr) H)→W E lo (.code c rd fr) H L):∀(k:Nat) {fr:Fr} {H:Heap},I k fr H→W E lo (.code (.loop c) rd fr) H Q:=by
 intro k
 induction k using Nat.strongRecOn with
 | ind k ih=>
   intro fr H hi;rw[iL];refine(h k fr H hi (apC I k Q) (fun k' fr H h1 h2=>⟨k',h1,h2⟩) (fun j fr H=>rfl)).mono fun o H' hc=>?_
   cases o with
   | val v=>exact hc
   | ex e fr'=>cases e with
     | jmp j=>exact hc
     | normal=>
       obtain⟨k',hk,hi'⟩:=hc;exact ih k' hk hi'
end
theorem auV{a b:Nat}(h:b < a):(a=b)=False:=by simp;omega
theorem auU{a b:Nat}(h:a < b):(a=b)=False:=by simp;omega
theorem cLe{a b:Nat}(h:a≤b):(a≤b)=True:=by simp[h]
theorem auT{a b:Nat}(h:b < a):(a≤b)=False:=by simp;omega
theorem cLt{a b:Nat}(h:a < b):(a < b)=True:=by simp[h]
theorem auS{a b:Nat}(h:b≤a):(a < b)=False:=by simp;omega
theorem iLe{a b:Int}(h:a≤b):(a≤b)=True:=by simp[h]
theorem auw{a b:Int}(h:b < a):(a≤b)=False:=by simp;omega
theorem iLt{a b:Int}(h:a < b):(a < b)=True:=by simp[h]
theorem auv{a b:Int}(h:b≤a):(a < b)=False:=by simp;omega
theorem iGe{a b:Int}(h:a≥b):(a≥b)=True:=by simp;omega
theorem auy{a b:Int}(h:a < b):(a≥b)=False:=by simp;omega
theorem iGt{a b:Int}(h:a>b):(a>b)=True:=by simp;omega
theorem aux{a b:Int}(h:a≤b):(a>b)=False:=by simp;omega
theorem auA{a b:Int}(h:a=b):(a==b)=true:=by simp[h]
theorem apN{a b:Int}(h:a < b∨b < a):(a==b)=false:=by simp;omega
theorem auz{a b:Int}(h:a < b∨b < a):(a !=b)=true:=by simp;omega
theorem apM{a b:Int}(h:a=b):(a !=b)=false:=by simp[h]
theorem asp{a:Int}(h: -9223372036854775808≤a∧a≤9223372036854775807):IntKind.i64.wrap a=a:=IntWalk.i64_in a (by omega)
theorem wU8{a:Int}(h:0≤a∧a≤255):IntKind.u8.wrap a=a:=IntWalk.u8_in a h
theorem Hf{l:List IV}:(IV.agg l).cells=l:=rfl
theorem He{k:IntKind}{n:Int}:(IV.int k n).cells=[.int k n]:=rfl
theorem E9{b:Bool}:(IV.bool b).cells=[.bool b]:=rfl
theorem G9{s:List UInt8}:(IV.str s).cells=[.str s]:=rfl
theorem Ha{b o:Nat}:(IV.ptr b o).cells=[.ptr b o]:=rfl
theorem zP:IV.nilPtr.cells=[.nilPtr]:=rfl
theorem CV{b o n c:Nat}{ex:Bool}:(IV.slice b o n c ex).cells=[.slice b o n c ex]:=rfl
theorem vh:IV.nilSlice.cells=[.nilSlice]:=rfl
theorem Hb{b:Nat}:(IV.map b).cells=[.map b]:=rfl
theorem zQ:IV.nilMap.cells=[.nilMap]:=rfl
theorem Oi{f:FuncId}{a b:List IV}:(IV.fn f a b).cells=[.fn f a b]:=rfl
theorem CU{b:Nat}:(IV.yield b).cells=[.yield b]:=rfl
theorem zf:IV.nilFunc.cells=[.nilFunc]:=rfl
theorem CW{t:TypeId}{v:IV}:(IV.iface t v).cells=[.iface t v]:=rfl
theorem vi:IV.nilIface.cells=[.nilIface]:=rfl
theorem rI{k:IntKind}{n:Int}:(IV.int k n).one=true:=rfl
theorem oV{b:Bool}:(IV.bool b).one=true:=rfl
theorem Qg{s:List UInt8}:(IV.str s).one=true:=rfl
theorem Qh{b o:Nat}:(IV.ptr b o).one=true:=rfl
theorem Ea:IV.nilPtr.one=true:=rfl
theorem Gy{b o n c:Nat}{ex:Bool}:(IV.slice b o n c ex).one=true:=rfl
theorem zF:IV.nilSlice.one=true:=rfl
theorem Qi{b:Nat}:(IV.map b).one=true:=rfl
theorem Eb:IV.nilMap.one=true:=rfl
theorem adK{f:FuncId}{a b:List IV}:(IV.fn f a b).one=true:=rfl
theorem Gx{b:Nat}:(IV.yield b).one=true:=rfl
theorem Ci:IV.nilFunc.one=true:=rfl
theorem Gz{t:TypeId}{v:IV}:(IV.iface t v).one=true:=rfl
theorem zG:IV.nilIface.one=true:=rfl
def P4(ob:IObj)(o n:Nat):Option (List IV):=
 match ob with
 | .cells _ _ _ cs=>if o+n≤cs.length then some ((cs.drop o).take n) else none
 | _=>none
theorem adD{ro:Bool}{e ez:Nat}{cs:List IV}{o n:Nat}:P4 (.cells ro e ez cs) o n=if o+n≤cs.length then some ((cs.drop o).take n) else none:=rfl
theorem P3{H:Heap}{ob:IObj}{b o n:Nat}:(H.new ob).read b o n=if H.n=b then P4 ob o n else H.read b o n:=by
 unfold Heap.read;rw[al];by_cases h:H.n=b
 ·simp only[h,if_true];cases ob<;>rfl
 ·simp[h]
theorem P2{H:Heap}{ob:IObj}{b' b o n:Nat}:(H.put b' ob).read b o n=if b'=b then P4 ob o n else H.read b o n:=by
 unfold Heap.read;rw[ae];by_cases h:b'=b
 ·simp only[h,if_true];cases ob<;>rfl
 ·simp[h]
theorem af{H:Heap}{ro:Bool}{e ez:Nat}{cs:List IV}{b:Nat}(h:H.get b=some (.cells ro e ez cs))(o n:Nat):H.read b o n=if o+n≤cs.length then some ((cs.drop o).take n) else none:=by
 unfold Heap.read;rw[h]
theorem B0{H H':Heap}{b:Nat}(h:H'.get b=H.get b)(o n:Nat):H'.read b o n=H.read b o n:=by
 unfold Heap.read;rw[h]
theorem Keep.read{lo:Nat}{H H':Heap}(k:Keep lo H H')(b o n:Nat)(h1:b < lo)(h2:b < H.n):H'.read b o n=H.read b o n:=B0 (k.2 b h1 h2) o n
inductive SV where
 | nil
 | sl (b o n c:Nat) (ex:Bool)
 deriving Inhabited
def SV.iv:SV→IV
 | .nil=>.nilSlice
 | .sl b o n c ex=>.slice b o n c ex
def SV.blk:SV→Nat
 | .nil=>0
 | .sl b _ _ _ _=>b
def SV.off:SV→Nat
 | .nil=>0
 | .sl _ o _ _ _=>o
def SV.tight:SV→Prop
 | .nil=>True
 | .sl _ _ n c ex=>c=n∧ex=true
theorem jx(v:SV):v.iv.one=true:=by cases v<;>rfl
theorem Fo(v:SV):v.iv.cells=[v.iv]:=by cases v<;>rfl
theorem A4:SV.nil.iv=.nilSlice:=rfl
theorem jS{b o n c:Nat}{ex:Bool}:(SV.sl b o n c ex).iv=.slice b o n c ex:=rfl
class Cell (α:Type) where
 z:Nat
 cs:α→List IV
 len:∀a,(cs a).length=z
 one:∀a,(cs a).all IV.one=true
 pos:0 < z
instance:Cell SV where
 z:=1
 cs v:=[v.iv]
 len _:=rfl
 one v:=by simp[jx]
 pos:=by omega
theorem sA(v:SV):Cell.cs v=[v.iv]:=rfl
theorem mG:Cell.z SV=1:=rfl
theorem iM{b o n c:Nat}{ex:Bool}:(SV.sl b o n c ex).blk=b:=rfl
theorem lH{b o n c:Nat}{ex:Bool}:(SV.sl b o n c ex).off=o:=rfl
section
variable {α:Type}[Cell α]
def aD(l:List α):List IV:=l.flatMap Cell.cs
theorem dx(a:α)(l:List α):aD (a::l)=Cell.cs a++aD l:=rfl
theorem cy(a b:List α):aD (a++b)=aD a++aD b:=by simp[aD]
theorem EG(a:α):aD [a]=Cell.cs a:=by simp[aD]
theorem aw(l:List α):(aD l).length=l.length*Cell.z α:=by
 induction l with
 | nil=>simp[aD]
 | cons p l ih=>rw[dx,aW,ih,Cell.len,fe,dB];omega
theorem i2(l:List α):(aD l).all IV.one=true:=by
 induction l with
 | nil=>rfl
 | cons p l ih=>rw[dx,List.all_append,ih,Cell.one];rfl
theorem oY(l:List α)(k:Nat):(aD l).drop (k*Cell.z α)=aD (l.drop k):=by
 induction l generalizing k with
 | nil=>simp[aD]
 | cons p l ih=>
   cases k with
   | zero=>simp
   | succ k=>rw[dx,List.drop_succ_cons,dB,Nat.add_comm,←Cell.len p,List.drop_length_add_append,Cell.len,ih]
theorem AN(l:List α)(k:Nat):(aD l).take (k*Cell.z α)=aD (l.take k):=by
 induction l generalizing k with
 | nil=>simp[aD]
 | cons p l ih=>
   cases k with
   | zero=>simp[aD]
   | succ k=>rw[dx,List.take_succ_cons,dx,dB,Nat.add_comm,←Cell.len p,List.take_length_add_append,Cell.len,ih]
theorem aea(l:List α)(i:Nat)(h:i < l.length):((aD l).drop (i*Cell.z α)).take (Cell.z α)=Cell.cs l[i]:=by
 rw[oY,pD h,dx,←Cell.len l[i],List.take_left]
theorem D1{H:Heap}{b o n a m:Nat}{cs:List IV}(h:H.read b o n=some cs)(ha:a+m≤n):H.read b (o+a) m=some ((cs.drop a).take m):=by
 unfold Heap.read at h⊢
 cases hg:H.get b with
 | none=>rw[hg] at h;cases h
 | some ob=>
   rw[hg] at h
   cases ob with
   | cells ro e ez cs0=>
     simp only at h⊢;split at h
     ·injection h with h;rw[if_pos (by omega),←h,List.drop_take,List.take_take,pu,show min m (n - a)=m from by omega]
     ·cases h
   | _=>cases h
def Sl(H:Heap)(v:SV)(l:List α):Prop:=
 match v with
 | .nil=>l=[]
 | .sl b o n c _=>n=l.length∧n≤c∧(l≠[]→b < H.n∧H.read b o (l.length*Cell.z α)=some (aD l))
theorem Sl.keep{H H':Heap}{v:SV}{l:List α}(h:Sl H v l)(k:Keep H.n H H'):Sl H' v l:=by
 cases v with
 | nil=>exact h
 | sl b o n c ex=>exact⟨h.1,h.2.1,fun hl=>⟨du (h.2.2 hl).1 k.1,(k.read b o _ (h.2.2 hl).1 (h.2.2 hl).1).trans (h.2.2 hl).2⟩⟩
theorem Sl.same{H H':Heap}{v:SV}{l:List α}(h:Sl H v l)(hn:H.n≤H'.n)(hg:l≠[]→H'.get v.blk=H.get v.blk):Sl H' v l:=by
 cases v with
 | nil=>exact h
 | sl b o n c ex=>exact⟨h.1,h.2.1,fun hl=>⟨du (h.2.2 hl).1 hn,(B0 (hg hl) o _).trans (h.2.2 hl).2⟩⟩
theorem Sl.blk_lt{H:Heap}{v:SV}{l:List α}(h:Sl H v l)(hl:l≠[]):v.blk < H.n:=by
 cases v with
 | nil=>exact absurd h hl
 | sl b o n c ex=>exact(h.2.2 hl).1
theorem Sl.blk_lt'{H:Heap}{v:SV}{l:List α}(h:Sl H v l){i:Nat}(hl:i < l.length):v.blk < H.n:=h.blk_lt (by intro e;rw[e] at hl;simp at hl)
theorem Sl.empty{H:Heap}:Sl H .nil ([]:List α):=rfl
theorem Sl.ln{H:Heap}{v:SV}{l:List α}(h:Sl H v l)(lo:Nat)(H':Heap):ev1 .lenSl [v.iv] lo H'=some (.int .i64 l.length,H'):=by
 cases v with
 | nil=>have h:l=[]:=h;subst h;rfl
 | sl b o n c ex=>rw[←h.1];rfl
theorem Sl.lenI{H:Heap}{v:SV}{l:List α}(h:Sl H v l):jb v.iv=some l.length:=by
 cases v with
 | nil=>have h:l=[]:=h;subst h;rfl
 | sl b o n c ex=>rw[←h.1];rfl
theorem Sl.srcI{H:Heap}{v:SV}{l:List α}(h:Sl H v l){z:Nat}(hz:Cell.z α=z):eZ H z l.length v.iv=some (aD l):=by
 subst hz
 cases v with
 | nil=>have h:l=[]:=h;subst h;rfl
 | sl b o n c ex=>
   show(if l.length=0 then some [] else H.read b o (l.length*Cell.z α))=_
   by_cases hl:l=[]
   ·subst hl;rfl
   ·rw[if_neg (by intro e;exact hl (List.length_eq_zero_iff.1 e))];exact(h.2.2 hl).2
theorem Sl.idx{H:Heap}{v:SV}{l:List α}(h:Sl H v l)(z:Nat)(x:Int)(lo:Nat)(H':Heap)(h0:0≤x)(h1:x < l.length):ev1 (.idxSl z) [v.iv,.int .i64 x] lo H'=some (.ptr v.blk (v.off+x.toNat*z),H'):=by
 cases v with
 | nil=>have h:l=[]:=h;subst h;simp at h1;omega
 | sl b o n c ex=>
   have hn:=h.1;simp only[ev1,SV.iv,SV.blk,SV.off];rw[if_pos ⟨h0,by omega⟩]
theorem Sl.read{H:Heap}{v:SV}{l:List α}(h:Sl H v l){z:Nat}(hz:Cell.z α=z)(i:Nat)(hi:i < l.length):H.read v.blk (v.off+i*z) z=some (Cell.cs l[i]):=by
 subst hz;have hl:l≠[]:=by intro e;rw[e] at hi;simp at hi
 cases v with
 | nil=>exact absurd h hl
 | sl b o n c ex=>
   have:=D1 (a:=i*Cell.z α) (m:=Cell.z α) (h.2.2 hl).2 (by rw[←dB];exact j4 _ hi)
   rw[aea l i hi] at this;exact this
theorem Sl.part{H:Heap}{b o n c:Nat}{ex:Bool}{l:List α}(h:Sl H (.sl b o n c ex) l){z:Nat}(hz:Cell.z α=z){a m c':Nat}{ex':Bool}(hm:a+m≤l.length)(hc:m≤c'):Sl H (.sl b (o+a*z) m c' ex') ((l.drop a).take m):=by
 subst hz;have hlen:((l.drop a).take m).length=m:=by rw[eR,iV];omega
 refine⟨hlen.symm,hc,fun hl=>?_⟩
 have hl':l≠[]:=by intro e;rw[e] at hl;simp at hl
 refine⟨(h.2.2 hl').1,?_⟩
 have:=D1 (a:=a*Cell.z α) (m:=m*Cell.z α) (h.2.2 hl').2 (by rw[←rp];exact j4 _ hm)
 rw[oY,AN] at this;rw[hlen];exact this
theorem xK(n:Nat)(a:α):iP n (Cell.cs a)=aD (List.replicate n a):=by
 induction n with
 | zero=>rfl
 | succ n ih=>rw[iP,ih,Cc,dx]
theorem EF(l:List α)(i:Nat)(a:α)(h:i < l.length):aA (aD l) (i*Cell.z α) (Cell.cs a)=aD (l.set i a):=by
 have hb:i*Cell.z α+Cell.z α≤(aD l).length:=by rw[aw,←dB];exact j4 _ h
 rw[bX _ _ _ (by rw[Cell.len];exact hb),AN,Cell.len,←dB,oY,List.set_eq_take_append_cons_drop,if_pos h];rw[cy,dx,cj]
theorem ch(tm:List IV)(n:Nat)(h:tm.length=n):tm=(List.range n).map fun i=>tm.getD i IV.undef:=by
 subst h;apply xP
 ·simp
 ·intro i h1 h2;simp[ij,h1]
def Own(H:Heap)(b e cap:Nat)(l:List α):Prop:=l.length≤cap∧b < H.n∧∃r,H.get b=some (.cells false e (Cell.z α) (aD l++r))∧r.length=(cap - l.length)*Cell.z α
theorem Own.sl{H:Heap}{b e cap:Nat}{l:List α}(h:Own H b e cap l)(ex:Bool):Sl H (.sl b 0 l.length cap ex) l:=by
 obtain⟨h1,h2,r,h3,h4⟩:=h;refine⟨rfl,h1,fun _=>⟨h2,?_⟩⟩;rw[af h3,bL,if_pos (by rw[aW,aw];omega),xX,←aw,List.take_left]
theorem Own.same{H H':Heap}{b e cap:Nat}{l:List α}(h:Own H b e cap l)(hn:H.n≤H'.n)(hg:H'.get b=H.get b):Own H' b e cap l:=by
 obtain⟨h1,h2,r,h3,h4⟩:=h;exact⟨h1,du h2 hn,r,hg.trans h3,h4⟩
theorem Own.keep{H H':Heap}{b e cap:Nat}{l:List α}(h:Own H b e cap l)(k:Keep H.n H H'):Own H' b e cap l:=h.same k.1 (k.2 b h.2.1 h.2.1)
theorem Own.full{H:Heap}{b e:Nat}{l:List α}(h:Own H b e l.length l):H.get b=some (.cells false e (Cell.z α) (aD l)):=by
 obtain⟨h1,h2,r,h3,h4⟩:=h;rw[Nat.sub_self,xU] at h4;rw[h3,List.length_eq_zero_iff.1 h4,ip]
theorem ck{H:Heap}{b e:Nat}{l:List α}(hb:b < H.n){z:Nat}(hz:Cell.z α=z){cs:List IV}(hg:H.get b=some (.cells false e z cs))(hc:cs=aD l):Own H b e l.length l:=by
 subst hz hc;exact⟨au _,hb,[],by rw[hg,ip],by simp⟩
theorem Own.mksl{H:Heap}{e n:Nat}{z:Nat}(hz:Cell.z α=z)(a:α):Own (H.new (.cells false e z (iP n (Cell.cs a)))) H.n e n (List.replicate n a):=by
 subst hz;refine⟨by simp,by rw[ac];omega,[],by rw[al,if_pos rfl,ip,xK],by simp⟩
theorem A5{H:Heap}{e n:Nat}{z:Nat}(hz:Cell.z α=z){cs:List IV}(hc:cs.length=n*z):Own (H.new (.cells false e z cs)) H.n e n ([]:List α):=by
 subst hz;exact⟨by simp,by rw[ac];omega,cs,by rw[al,if_pos rfl];rfl,by simp[hc]⟩
theorem Own.set{H:Heap}{b e cap:Nat}{l:List α}(h:Own H b e cap l){z:Nat}(hz:Cell.z α=z)(i:Nat)(hi:i < l.length)(a:α)(lo:Nat)(hlo:lo≤b):∃cs,H.write lo b (i*z) (Cell.cs a)=some (H.put b (.cells false e z cs))∧Own (H.put b (.cells false e z cs)) b e cap (l.set i a):=by
 subst hz;obtain⟨h1,h2,r,h3,h4⟩:=h;have hfl:=aw l;have hb:i*Cell.z α+Cell.z α≤l.length*Cell.z α:=by rw[←dB];exact j4 _ hi
 refine⟨aA (aD l++r) (i*Cell.z α) (Cell.cs a),?_,?_⟩
 ·unfold Heap.write;rw[h3];simp only;rw[if_pos ⟨hlo,by rw[Cell.len,aW];omega,Cell.one a⟩]
 ·refine⟨by simp[h1],h2,r,?_,by simp[h4]⟩
  rw[ae,if_pos rfl,←EF l i a hi,bX _ _ _ (by rw[Cell.len,aW];omega),bX _ _ _ (by rw[Cell.len];omega),Cell.len];rw[D4 (by omega),List.drop_append_of_le_length (by omega)];simp only[cj]
theorem Own.push{H:Heap}{b e cap:Nat}{l m:List α}(h:Own H b e cap l){z:Nat}(hz:Cell.z α=z)(hc:l.length+m.length≤cap)(lo:Nat)(hlo:lo≤b):∃cs,H.write lo b (l.length*z) (aD m)=some (H.put b (.cells false e z cs))∧Own (H.put b (.cells false e z cs)) b e cap (l++m):=by
 subst hz;obtain⟨h1,h2,r,h3,h4⟩:=h;have hfl:=aw l;have hfm:=aw m;have hr:(aD m).length≤r.length:=by rw[hfm,h4];exact j4 _ (by omega)
 refine⟨aA (aD l++r) (l.length*Cell.z α) (aD m),?_,?_⟩
 ·unfold Heap.write;rw[h3];simp only;rw[if_pos ⟨hlo,by rw[aW];omega,i2 m⟩]
 ·refine⟨by simp;omega,h2,r.drop (aD m).length,?_,?_⟩
  ·rw[ae,if_pos rfl,bX _ _ _ (by rw[aW];omega),cy,←hfl,List.take_left,List.drop_length_add_append]
  ·rw[iV,h4,hfm,aW,←Nat.sub_mul];congr 1;omega
end
section
variable {α:Type}[Cell α]
theorem Keep.newPut{H:Heap}{o o':IObj}:Keep H.n H ((H.new o).put H.n o'):=(Keep.new _ _).trans (.put _ _ (au _))
theorem fi{H:Heap}{v:SV}{l:List α}(hv:Sl H v l){z:Nat}(hz:Cell.z α=z)(e lo:Nat)(zs:List IV)(hzs:zs.length=z)(hlo:lo≤H.n):
  ∃H2,ev1 (.copy z) [.slice H.n 0 l.length l.length true,v.iv] lo (H.new (.cells false e z (iP l.length zs)))=some (.int .i64 l.length,H2)∧H2.n=H.n+1∧Keep H.n H H2∧Own H2 H.n e l.length l:=by
 subst hz;have hv':=hv.keep (H':=H.new (.cells false e (Cell.z α) (iP l.length zs))) (Keep.new _ _);have h1:jM (.slice H.n 0 l.length l.length true)=some l.length:=rfl;by_cases h0:l=[]
 ·subst h0;refine⟨H.new (.cells false e (Cell.z α) []),?_,ac _ _,Keep.new _ _,ck (l:=[]) (cs:=[]) (by rw[ac];omega) rfl (by rw[al,if_pos rfl]) rfl⟩;simp only[ev1,h1,hv.lenI];rfl
 ·have hpos:0 < l.length:=List.length_pos_iff.2 h0;refine⟨(H.new (.cells false e (Cell.z α) (iP l.length zs))).put H.n (.cells false e (Cell.z α) (aD l)),?_,by rw[ai,ac],Keep.newPut,ck (by rw[ai,ac];omega) rfl (by rw[ae,if_pos rfl]) rfl⟩;simp only[ev1,h1,hv.lenI];rw[Nat.min_self,if_neg (by omega),hv'.srcI rfl];simp only[br,Heap.write];rw[al,if_pos rfl];simp only;have hr:(iP l.length zs).length=(aD l).length:=by rw[iD,hzs,aw]
  rw[if_pos ⟨hlo,by omega,i2 l⟩,bX _ _ _ (by omega)];simp only[List.take_zero,ru,bL];rw[←hr,List.drop_length,ip];rfl
theorem Own.put{H:Heap}{b e:Nat}{l:List α}(h:Own H b e l.length l){z:Nat}(hz:Cell.z α=z)(i:Nat)(hi:i < l.length)(a:α):Own (H.put b (.cells false e z (aA (aD l) (i*z) (Cell.cs a)))) b e l.length (l.set i a):=by
 subst hz;rw[EF l i a hi]
 have:=ck (H:=H.put b (.cells false e (Cell.z α) (aD (l.set i a)))) (l:=l.set i a) (b:=b) (e:=e) h.2.1 rfl (by rw[ae,if_pos rfl]) rfl
 rw[bQ] at this;exact this
theorem Rr{H:Heap}{b e n:Nat}{ex:Bool}{d l:List α}{v:SV}(ho:Own H b e n d)(hd:d.length=n)(hv:Sl H v l){z:Nat}(hz:Cell.z α=z)(lo:Nat)(hl:l.length≤n)(hlo:lo≤b):
  ∃H2,ev1 (.copy z) [.slice b 0 n n ex,v.iv] lo H=some (.int .i64 l.length,H2)∧H2.n=H.n∧(∀x,x≠b→H2.get x=H.get x)∧Own H2 b e n (l++d.drop l.length):=by
 subst hz hd;have h1:jM (.slice b 0 d.length d.length ex)=some d.length:=rfl;have hf:=ho.full;by_cases h0:l=[]
 ·subst h0;refine⟨H,?_,rfl,fun _ _=>rfl,by simpa using ho⟩;simp only[ev1,h1,hv.lenI];rw[if_pos (by simp)];rfl
 ·have hpos:0 < l.length:=List.length_pos_iff.2 h0;have hfl:=aw l;have hfd:=aw d;have hle:(aD l).length≤(aD d).length:=by rw[hfl,hfd];exact j4 _ hl
  refine⟨H.put b (.cells false e (Cell.z α) (aD (l++d.drop l.length))),?_,ai _ _ _,fun x hx=>by rw[ae,if_neg (Ne.symm hx)],?_⟩
  ·simp only[ev1,h1,hv.lenI];rw[ul hl,if_neg (by omega),hv.srcI rfl];simp only[br,Heap.write,hf];rw[if_pos ⟨hlo,by omega,i2 l⟩,bX _ _ _ (by omega)];simp only[List.take_zero,ru,bL];rw[hfl,oY,←cy];rfl
  ·have hlen:(l++d.drop l.length).length=d.length:=by rw[aW,iV];omega
   have:=ck (H:=H.put b (.cells false e (Cell.z α) (aD (l++d.drop l.length)))) (l:=l++d.drop l.length) (b:=b) (e:=e) ho.2.1 rfl (by rw[ae,if_pos rfl]) rfl
   rw[hlen] at this;exact this
theorem ge{H:Heap}{b e cap:Nat}{ex:Bool}{l m:List α}{v:SV}(ho:Own H b e cap l)(hv:Sl H v m){z:Nat}(hz:Cell.z α=z)(bytes lo:Nat)(hr:l.length+m.length≤cap)(hlo:lo≤b):
  ∃H2,ev1 (.append e z bytes) [.slice b 0 l.length cap ex,v.iv] lo H=some (.slice b 0 (l.length+m.length) cap ex,H2)∧H2.n=H.n∧(∀b',b'≠b→H2.get b'=H.get b')∧Own H2 b e cap (l++m):=by
 simp only[ev1,hv.lenI,hv.srcI hz,br,bV];rw[if_neg (by rw[i2];decide)];by_cases h0:m=[]
 ·subst h0;exact⟨H,by simp,rfl,fun _ _=>rfl,by rw[ip];exact ho⟩
 ·have hpos:0 < m.length:=List.length_pos_iff.2 h0;obtain⟨cs,hw,ho'⟩:=ho.push hz hr lo hlo;refine⟨_,?_,ai _ _ _,fun b' hb=>by rw[ae,if_neg (Ne.symm hb)],ho'⟩;rw[if_neg (by omega),if_pos hr,bL,hw];rfl
theorem uS{H:Heap}{b e n:Nat}{l m:List α}{v:SV}(ho:Own H b e n l)(hn:n=l.length)(hv:Sl H v m){z:Nat}(hz:Cell.z α=z)(bytes lo:Nat)(hm:m≠[])(hb:(l.length+m.length)*(bytes+1)≤2^40)(hlo:lo≤b):
  ∃H2,ev1 (.append e z bytes) [.slice b 0 l.length n false,v.iv] lo H=some (.slice H.n 0 (l.length+m.length) (l.length+m.length) false,H2)∧H2.n=H.n+1∧(∀b',b'≠b→b' < H.n→H2.get b'=H.get b')∧Own H2 H.n e (l.length+m.length) (l++m):=by
 subst hn hz;have hpos:0 < m.length:=List.length_pos_iff.2 hm;have hf:=ho.full;simp only[ev1,hv.lenI,hv.srcI rfl,br,bV];rw[if_neg (by rw[i2];decide)];rw[if_neg (by omega),if_neg (by omega),if_pos hb,hf];simp only[fY,if_false];have hfl:=aw l;rw[if_pos ⟨trivial,trivial,Cell.pos,trivial,hlo,by omega⟩];refine⟨_,rfl,by rw[ac,ai],fun b' h1 h2=>by rw[al,if_neg (by rw[ai];omega),ae,if_neg (Ne.symm h1)],?_⟩;rw[←hfl,xQ,←cy,←aW];exact ck (by rw[ac,ai];omega) rfl (by rw[al,if_pos (ai _ _ _)]) rfl
theorem Hj{H:Heap}{e:Nat}{m:List α}{v:SV}(hv:Sl H v m){z:Nat}(hz:Cell.z α=z)(bytes lo:Nat)(hm:m≠[])(hb:m.length*(bytes+1)≤2^40):
  ∃H2,ev1 (.append e z bytes) [.nilSlice,v.iv] lo H=some (.slice H.n 0 m.length m.length false,H2)∧H2.n=H.n+1∧Keep H.n H H2∧Own H2 H.n e m.length m:=by
 subst hz;have hpos:0 < m.length:=List.length_pos_iff.2 hm;simp only[ev1,hv.lenI,hv.srcI rfl,br,bV];rw[if_neg (by rw[i2];decide)];rw[if_neg (by omega),if_pos hb];exact⟨_,rfl,ac _ _,Keep.new _ _,ck (by rw[ac];omega) rfl (by rw[al,if_pos rfl]) rfl⟩
theorem nU{H:Heap}{b o n e:Nat}{l m:List α}{v:SV}(hs:Sl H (.sl b o l.length n true) l)(hv:Sl H v m){z:Nat}(hz:Cell.z α=z)(bytes lo:Nat)(hm:m≠[])(hn:n < l.length+m.length)(hb:(l.length+m.length)*(bytes+1)≤2^40):
  ∃H2,ev1 (.append e z bytes) [.slice b o l.length n true,v.iv] lo H=some (.slice H.n 0 (l.length+m.length) (l.length+m.length) false,H2)∧H2.n=H.n+1∧Keep H.n H H2∧Own H2 H.n e (l.length+m.length) (l++m):=by
 subst hz;have hpos:0 < m.length:=List.length_pos_iff.2 hm;have hsrc:=hs.srcI rfl;simp only[SV.iv] at hsrc;simp only[ev1,hv.lenI,hv.srcI rfl,br,bV];rw[if_neg (by rw[i2];decide)];rw[if_neg (by omega),if_neg (by omega),if_pos hb,if_pos trivial,hsrc];refine⟨_,rfl,ac _ _,Keep.new _ _,?_⟩;rw[←cy,←aW];exact ck (by rw[ac];omega) rfl (by rw[al,if_pos rfl]) rfl
end
section
variable {α:Type}[Cell α]
def Sl2(H:Heap)(v:SV)(ls:List (List α)):Prop:=∃vs:List SV,Sl H v vs∧vs.length=ls.length∧∀(i:Nat) (h:i < ls.length) (h':i < vs.length),Sl H vs[i] ls[i]
theorem Sl2.keep{H H':Heap}{v:SV}{ls:List (List α)}(h:Sl2 H v ls)(k:Keep H.n H H'):Sl2 H' v ls:=by
 obtain⟨vs,h1,h2,h3⟩:=h;exact⟨vs,h1.keep k,h2,fun i a b=>(h3 i a b).keep k⟩
theorem Sl2.ln{H:Heap}{v:SV}{ls:List (List α)}(h:Sl2 H v ls)(lo:Nat)(H':Heap):ev1 .lenSl [v.iv] lo H'=some (.int .i64 ls.length,H'):=by
 obtain⟨vs,h1,h2,h3⟩:=h;rw[h1.ln,h2]
theorem Sl2.idx{H:Heap}{v:SV}{ls:List (List α)}(h:Sl2 H v ls)(z:Nat)(x:Int)(lo:Nat)(H':Heap)(h0:0≤x)(h1:x < ls.length):ev1 (.idxSl z) [v.iv,.int .i64 x] lo H'=some (.ptr v.blk (v.off+x.toNat*z),H'):=by
 obtain⟨vs,g1,g2,g3⟩:=h;exact g1.idx z x lo H' h0 (by omega)
theorem Sl2.elem{H:Heap}{v:SV}{ls:List (List α)}(h:Sl2 H v ls)(i:Nat)(hi:i < ls.length):∃w:SV,H.read v.blk (v.off+i*1) 1=some [w.iv]∧Sl H w ls[i]∧v.blk < H.n:=by
 obtain⟨vs,g1,g2,g3⟩:=h;exact⟨vs[i]'(by omega),g1.read (α:=SV) rfl i (by omega),g3 i hi (by omega),g1.blk_lt' (i:=i) (by omega)⟩
theorem Sl2.nil{H:Heap}:Sl2 H .nil ([]:List (List α)):=⟨[],rfl,rfl,fun i h=>by simp at h⟩
def Fresh(n0:Nat)(H:Heap)(e:Nat)(v:SV)(l:List α):Prop:=(v=.nil∧l=[])∨∃b,v=.sl b 0 l.length l.length true∧n0≤b∧Own H b e l.length l
theorem Fresh.sl{n0:Nat}{H:Heap}{e:Nat}{v:SV}{l:List α}(h:Fresh n0 H e v l):Sl H v l:=by
 rcases h with⟨rfl,rfl⟩ | ⟨b,rfl,h1,h2⟩
 ·exact Sl.empty
 ·exact h2.sl true
theorem Fresh.keep{n0:Nat}{H H':Heap}{e:Nat}{v:SV}{l:List α}(h:Fresh n0 H e v l)(k:Keep H.n H H'):Fresh n0 H' e v l:=by
 rcases h with⟨rfl,rfl⟩ | ⟨b,rfl,h1,h2⟩
 ·exact .inl ⟨rfl,rfl⟩
 ·exact .inr ⟨b,rfl,h1,h2.keep k⟩
end
theorem Sl.cellsAt{α:Type}[Cell α]{H:Heap}{v:SV}{l:List α}(h:Sl H v l)(hl:l≠[]):∃ro e ez cs,H.get v.blk=some (.cells ro e ez cs):=by
 cases v with
 | nil=>exact absurd h hl
 | sl b o n c ex=>
   have hr:=(h.2.2 hl).2;unfold Heap.read at hr
   show ∃ro e ez cs,H.get b=_
   cases hg:H.get b with
   | none=>rw[hg] at hr;cases hr
   | some ob=>
     rw[hg] at hr
     cases ob with
     | cells ro e ez cs=>exact⟨_,_,_,_,rfl⟩
     | _=>cases hr
theorem Sl.off{α:Type}[Cell α]{H:Heap}{v:SV}{l:List α}(h:Sl H v l)(hl:l≠[]){x:Nat}{ob:IObj}(hx:H.get x=some ob)(hob:∀ro e ez cs,ob≠.cells ro e ez cs):v.blk≠x:=by
 intro e;obtain⟨ro,a,b,c,hc⟩:=h.cellsAt hl;rw[e,hx] at hc;injection hc with hc;exact hob _ _ _ _ hc
def aU{α:Type}:List (List α)→Nat
 | []=>0
 | a::l=>if aU l=0∧a=[] then 0 else aU l+1
theorem fX{α:Type}:∀l:List (List α),aU l≤l.length
 | []=>au _
 | a::l=>by
   have:=fX l
   unfold aU;split
   ·omega
   ·simp only[fe];omega
theorem e9{α:Type}:∀(l:List (List α)) (i:Nat) (h:i < l.length),aU l≤i→l[i]=[]
 | [],_,h,_=>by simp at h
 | a::l,0,h,k=>by
   unfold aU at k;split at k
   ·rename_i h;exact h.2
   ·omega
 | a::l,i+1,h,k=>by
   have:aU l≤i:=by
    unfold aU at k;split at k
    ·rename_i h;omega
    ·omega
   exact e9 l i (by simpa using h) this
theorem mS{α:Type}:∀(l:List (List α)) (n:Nat) (h:n < l.length),aU l=n+1→l[n]≠[]
 | [],_,h,_=>by simp at h
 | a::l,n,h,k=>by
   unfold aU at k;split at k
   ·omega
   ·rename_i hn
    cases n with
    | zero=>simp only[List.getElem_cons_zero];exact fun e=>hn ⟨by omega,e⟩
    | succ n=>exact mS l n (by simpa using h) (by omega)
theorem uf{α:Type}{l:List (List α)}{n:Nat}(hn:n≤l.length)(h1:∀i (h:i < l.length),n≤i→l[i]=[])(h2:∀m (h:m < l.length),n=m+1→l[m]≠[]):n=aU l:=by
 rcases Nat.lt_trichotomy n (aU l) with h | h | h
 ·exfalso
  have hle:=fX l;exact mS l (aU l - 1) (by omega) (by omega) (h1 _ (by omega) (by omega))
 ·exact h
 ·exfalso
  exact h2 (n - 1) (by omega) (by omega) (e9 l _ (by omega) (by omega))
section
variable {α:Type}
def gL(f:Nat→α)(a b n x:Nat):α:=if a≤x∧x < a+n then f (x+b - a) else if b≤x∧x < b+n then f (x+a - b) else f x
def lS(f:Nat→α)(a m b x:Nat):α:=if a≤x∧x < a+(b - m) then f (x+(m - a)) else if a+(b - m)≤x∧x < b then f (x - (b - m)) else f x
theorem FV(f:Nat→α)(a b x:Nat):gL f a b 0 x=f x:=by
 unfold gL;rw[if_neg (by omega),if_neg (by omega)]
theorem FX{f g:Nat→α}{a b n:Nat}(hab:a+n < b)(hg:∀x,g x=if x=b+n then gL f a b n (a+n) else if x=a+n then gL f a b n (b+n) else gL f a b n x)(x:Nat):g x=gL f a b (n+1) x:=by
 rw[hg];unfold gL;by_cases h1:x=b+n
 ·subst h1;rw[if_pos rfl,if_neg (by omega),if_neg (by omega),if_neg (by omega),if_pos (by omega)];congr 1;omega
 ·rw[if_neg h1];by_cases h2:x=a+n
  ·subst h2;rw[if_pos rfl,if_neg (by omega),if_neg (by omega),if_pos (by omega)];congr 1;omega
  ·rw[if_neg h2];by_cases h3:a≤x∧x < a+n
   ·rw[if_pos h3,if_pos (by omega)]
   ·by_cases h4:b≤x∧x < b+n
    ·rw[if_neg h3,if_pos h4,if_neg (by omega),if_pos (by omega)]
    ·rw[if_neg h3,if_neg h4,if_neg (by omega),if_neg (by omega)]
theorem PU{f g:Nat→α}{m i j:Nat}(hi:i≤m)(hj:0 < j)(hij:j < i)(hg:∀x,g x=gL f (m - i) m j x)(x:Nat):lS g (m - (i - j)) m (m+j) x=lS f (m - i) m (m+j) x:=by
 unfold lS;by_cases h1:m - (i - j)≤x∧x < m - (i - j)+(m+j - m)
 ·rw[if_pos h1,hg];unfold gL;by_cases h2:m≤x+(m - (m - (i - j)))
  ·rw[if_neg (by omega),if_pos (by omega),if_neg (by omega),if_pos (by omega)];congr 1;omega
  ·omega
 ·rw[if_neg h1];by_cases h2:m - (i - j)+(m+j - m)≤x∧x < m+j
  ·rw[if_pos h2,hg];unfold gL;rw[if_neg (by omega),if_neg (by omega),if_neg (by omega),if_pos (by omega)]
  ·rw[if_neg h2,hg];unfold gL;by_cases h3:m - i≤x∧x < m - i+j
   ·rw[if_pos h3,if_pos (by omega)];congr 1;omega
   ·rw[if_neg h3];rw[if_neg (by omega),if_neg (by omega),if_neg (by omega)]
theorem Nl{f g:Nat→α}{m i j:Nat}(hi:i≤m)(hi0:0 < i)(hij:i < j)(hg:∀x,g x=gL f (m - i) (m+j - i) i x)(x:Nat):lS g (m - i) m (m+(j - i)) x=lS f (m - i) m (m+j) x:=by
 unfold lS;by_cases h1:m - i≤x∧x < m - i+(m+(j - i) - m)
 ·rw[if_pos h1,hg,if_pos (by omega)];unfold gL;rw[if_neg (by omega),if_neg (by omega)]
 ·rw[if_neg h1];by_cases h2:m - i+(m+(j - i) - m)≤x∧x < m+(j - i)
  ·rw[if_pos h2,hg];unfold gL;rw[if_pos (by omega),if_pos (by omega)];congr 1;omega
  ·rw[if_neg h2,hg];unfold gL;by_cases h3:m+j - i≤x∧x < m+j - i+i
   ·rw[if_neg (by omega),if_pos h3,if_neg (by omega),if_pos (by omega)];congr 1;omega
   ·rw[if_neg (by omega),if_neg h3,if_neg (by omega),if_neg (by omega)]
theorem PT{f g:Nat→α}{m i:Nat}(hi:i≤m)(hg:∀x,g x=gL f (m - i) m i x)(x:Nat):g x=lS f (m - i) m (m+i) x:=by
 rw[hg];unfold gL lS;by_cases h1:m - i≤x∧x < m - i+i
 ·rw[if_pos h1,if_pos (by omega)];congr 1;omega
 ·by_cases h2:m≤x∧x < m+i
  ·rw[if_neg h1,if_pos h2,if_neg (by omega),if_pos (by omega)];congr 1;omega
  ·rw[if_neg h1,if_neg h2,if_neg (by omega),if_neg (by omega)]
theorem DW(f:Nat→α){a m b:Nat}(h1:a≤m)(h2:m≤b)(h:a=m∨m=b)(x:Nat):lS f a m b x=f x:=by
 unfold lS;rcases h with rfl | rfl
 ·by_cases h3:a≤x∧x < a+(b - a)
  ·rw[if_pos h3];congr 1;omega
  ·rw[if_neg h3,if_neg (by omega)]
 ·rw[if_neg (by omega)];by_cases h3:a+(m - m)≤x∧x < m
  ·rw[if_pos h3];congr 1;omega
  ·rw[if_neg h3]
end
section
variable {α:Type}[Inhabited α]
def aG(l:List α)(x:Nat):α:=l.getD x default
theorem fU{l:List α}{x:Nat}(h:x < l.length):aG l x=l[x]:=by unfold aG;rw[ij,ca h,gQ]
def gJ(l:List α)(i j:Nat):List α:=(l.set i (aG l j)).set j (aG l i)
theorem jm(l:List α)(i j:Nat):(gJ l i j).length=l.length:=by simp[gJ]
theorem FU{l:List α}{i j:Nat}(hi:i < l.length)(hj:j < l.length):(gJ l i j).Perm l:=by
 unfold gJ;rw[fU hi,fU hj];exact List.set_set_perm hi hj
theorem gV{l:List α}{i j:Nat}(hi:i < l.length)(hj:j < l.length)(x:Nat):aG (gJ l i j) x=if x=j then aG l i else if x=i then aG l j else aG l x:=by
 unfold gJ;by_cases h1:x=j
 ·subst h1;rw[if_pos rfl,fU (by simpa using hj)];simp
 ·rw[if_neg h1];by_cases h2:x=i
  ·subst h2;rw[if_pos rfl,fU (by simpa using hi)];rw[jC (Ne.symm h1),pz]
  ·rw[if_neg h2];unfold aG;rw[ij,Cd (Ne.symm h1),Cd (Ne.symm h2),←ij]
structure Mix(a b:Nat)(l l':List α):Prop where
 len:l'.length=l.length
 perm:l'.Perm l
 out:∀x,(x < a∨b≤x)→aG l' x=aG l x
 img:∀x,a≤x→x < b→∃y,a≤y∧y < b∧aG l' x=aG l y
theorem Mix.refl(a b:Nat)(l:List α):Mix a b l l:=⟨rfl,.refl _,fun _ _=>rfl,fun x h1 h2=>⟨x,h1,h2,rfl⟩⟩
theorem Mix.trans{a b:Nat}{l m n:List α}(h:Mix a b l m)(k:Mix a b m n):Mix a b l n:=by
 refine⟨k.len.trans h.len,k.perm.trans h.perm,fun x hx=>(k.out x hx).trans (h.out x hx),fun x h1 h2=>?_⟩
 obtain⟨y,y1,y2,y3⟩:=k.img x h1 h2;obtain⟨z,z1,z2,z3⟩:=h.img y y1 y2;exact⟨z,z1,z2,y3.trans z3⟩
theorem Mix.wide{a b c d:Nat}{l m:List α}(h:Mix a b l m)(hc:c≤a)(hd:b≤d):Mix c d l m:=by
 refine⟨h.len,h.perm,fun x hx=>h.out x (by omega),fun x h1 h2=>?_⟩
 by_cases hx:a≤x∧x < b
 ·obtain⟨y,y1,y2,y3⟩:=h.img x hx.1 hx.2;exact⟨y,by omega,by omega,y3⟩
 ·exact⟨x,h1,h2,h.out x (by omega)⟩
theorem sO{a b i j:Nat}{l:List α}(hb:b≤l.length)(hi:a≤i∧i < b)(hj:a≤j∧j < b):Mix a b l (gJ l i j):=by
 have h1:i < l.length:=by omega
 have h2:j < l.length:=by omega
 refine⟨jm _ _ _,FU h1 h2,fun x hx=>?_,fun x x1 x2=>?_⟩
 ·rw[gV h1 h2,if_neg (by omega),if_neg (by omega)]
 ·rw[gV h1 h2];by_cases e1:x=j
  ·rw[if_pos e1];exact⟨i,hi.1,hi.2,rfl⟩
  ·rw[if_neg e1];by_cases e2:x=i
   ·rw[if_pos e2];exact⟨j,hj.1,hj.2,rfl⟩
   ·rw[if_neg e2];exact⟨x,x1,x2,rfl⟩
variable (lt:α→α→Prop)
def Srt(l:List α)(a b:Nat):Prop:=∀i j,a≤i→i < j→j < b→lt (aG l i) (aG l j)
theorem Srt.part{lt:α→α→Prop}{l:List α}{a b c d:Nat}(h:Srt lt l a b)(hc:a≤c)(hd:d≤b):Srt lt l c d:=fun i j h1 h2 h3=>h i j (by omega) h2 (by omega)
theorem Srt.out{lt:α→α→Prop}{l l':List α}{a b c d:Nat}(h:Srt lt l a b)(k:Mix c d l l')(hd:b≤c∨d≤a):Srt lt l' a b:=fun i j h1 h2 h3=>by
 rw[k.out i (by omega),k.out j (by omega)];exact h i j h1 h2 h3
theorem RO{lt:α→α→Prop}{l l1 l2:List α}{a m b:Nat}(k1:Mix a m l l1)(k2:Mix m b l1 l2)(h1:Srt lt l1 a m)(h2:Srt lt l2 m b)(hc:∀x y,a≤x→x < m→m≤y→y < b→lt (aG l x) (aG l y)):Srt lt l2 a b:=by
 intro i j hi hij hj;by_cases c1:j < m
 ·rw[k2.out i (by omega),k2.out j (by omega)];exact h1 i j hi hij c1
 ·by_cases c2:m≤i
  ·exact h2 i j c2 hij hj
  ·rw[k2.out i (by omega)];obtain⟨x,x1,x2,x3⟩:=k1.img i hi (by omega);obtain⟨y,y1,y2,y3⟩:=k2.img j (by omega) hj;rw[x3,y3,k1.out y (by omega)];exact hc x y x1 x2 y1 y2
theorem adc{lt ord:α→α→Prop}{l l1:List α}{a m b mid start en:Nat}(h1:a≤start)(h2:start≤mid)(h3:start≤m)(h4:mid≤en)(h5:m≤en)(h6:en≤b)(he:start+en=mid+m)
  (sL:Srt lt l a m) (sR:Srt lt l m b) (hord:∀i j,a≤i→i < m→m≤j→j < b→ord (aG l i) (aG l j))
  (pA:∀i j,a≤i→i < start→en≤j→j < b→lt (aG l i) (aG l j)) (pB:∀i j,m≤i→i < en→start≤j→j < m→lt (aG l i) (aG l j))
  (hr:∀x,aG l1 x=lS (aG l) start m en x):
  (Srt lt l1 a start∧Srt lt l1 start mid∧Srt lt l1 mid en∧Srt lt l1 en b)∧(∀i j,a≤i→i < start→start≤j→j < mid→ord (aG l1 i) (aG l1 j))∧(∀i j,mid≤i→i < en→en≤j→j < b→ord (aG l1 i) (aG l1 j))∧
  ∀x y,a≤x→x < mid→mid≤y→y < b→lt (aG l1 x) (aG l1 y):=by
 have f1:∀x,x < start→aG l1 x=aG l x:=fun x hx=>by rw[hr];unfold lS;rw[if_neg (by omega),if_neg (by omega)]
 have f2:∀x,start≤x→x < mid→aG l1 x=aG l (x+(m - start)):=fun x hx hx'=>by rw[hr];unfold lS;rw[if_pos (by omega)]
 have f3:∀x,mid≤x→x < en→aG l1 x=aG l (x - (en - m)):=fun x hx hx'=>by rw[hr];unfold lS;rw[if_neg (by omega),if_pos (by omega)]
 have f4:∀x,en≤x→aG l1 x=aG l x:=fun x hx=>by rw[hr];unfold lS;rw[if_neg (by omega),if_neg (by omega)]
 refine⟨⟨fun i j q1 q2 q3=>?_,fun i j q1 q2 q3=>?_,fun i j q1 q2 q3=>?_,fun i j q1 q2 q3=>?_⟩,fun i j q1 q2 q3 q4=>?_,fun i j q1 q2 q3 q4=>?_,fun x y q1 q2 q3 q4=>?_⟩
 ·rw[f1 i (by omega),f1 j q3];exact sL i j q1 q2 (by omega)
 ·rw[f2 i q1 (by omega),f2 j (by omega) q3];exact sR _ _ (by omega) (by omega) (by omega)
 ·rw[f3 i q1 (by omega),f3 j (by omega) q3];exact sL _ _ (by omega) (by omega) (by omega)
 ·rw[f4 i q1,f4 j (by omega)];exact sR _ _ (by omega) q2 q3
 ·rw[f1 i q2,f2 j q3 q4];exact hord _ _ q1 (by omega) (by omega) (by omega)
 ·rw[f3 i q1 q2,f4 j q3];exact hord _ _ (by omega) (by omega) (by omega) q4
 ·by_cases c1:x < start
  ·rw[f1 x c1];by_cases c2:y < en
   ·rw[f3 y q3 c2];exact sL _ _ q1 (by omega) (by omega)
   ·rw[f4 y (by omega)];exact pA _ _ q1 c1 (by omega) q4
  ·rw[f2 x (by omega) q2];by_cases c2:y < en
   ·rw[f3 y q3 c2];exact pB _ _ (by omega) (by omega) (by omega) (by omega)
   ·rw[f4 y (by omega)];exact sR _ _ (by omega) (by omega) q4
theorem C1{lt:α→α→Prop}{l:List α}(h:Srt lt l 0 l.length):l.Pairwise lt:=by
 rw[Ar];intro i j hi hj hij
 have:=h i j (fd _) hij hj
 rwa [fU hi,fU hj] at this
theorem je{lt:α→α→Prop}{l:List α}(h:l.Pairwise lt)(a b:Nat)(hb:b≤l.length):Srt lt l a b:=by
 rw[Ar] at h;intro i j h1 h2 h3;rw[fU (by omega),fU (by omega)];exact h i j _ _ h2
end
theorem ud{α:Type}{lt:α→α→Prop}(irr:∀a,¬lt a a)(tr:∀a b c,lt a b→lt b c→lt a c):∀{l m:List α},l.Pairwise lt→m.Pairwise lt→(∀x,x∈l↔x∈m)→l=m
 | [],[],_,_,_=>rfl
 | [],b::m,_,_,h=>absurd ((h b).2 (by simp)) (by simp)
 | a::l,[],_,_,h=>absurd ((h a).1 (by simp)) (by simp)
 | a::l,b::m,hl,hm,h=>by
   rw[List.pairwise_cons] at hl hm
   have hab:a=b:=by
    rcases List.mem_cons.1 ((h a).1 (by simp)) with e | e
    ·exact e
    ·rcases List.mem_cons.1 ((h b).2 (by simp)) with e' | e'
     ·exact e'.symm
     ·exact absurd (tr _ _ _ (hl.1 b e') (hm.1 a e)) (irr a)
   subst hab;congr 1;refine ud irr tr hl.2 hm.2 fun x=>⟨fun hx=>?_,fun hx=>?_⟩
   ·rcases List.mem_cons.1 ((h x).1 (by simp[hx])) with e | e
    ·subst e;exact absurd (hl.1 x hx) (irr x)
    ·exact e
   ·rcases List.mem_cons.1 ((h x).2 (by simp[hx])) with e | e
    ·subst e;exact absurd (hm.1 x hx) (irr x)
    ·exact e
theorem Ny{f:Fp}:bp .none f=true:=by cases f<;>rfl
theorem Ay{f:Fp}:bp f .none=true:=by cases f<;>rfl
theorem Nu{b o n b' o' n':Nat}:bp (.rd b o n) (.rd b' o' n')=true:=rfl
theorem Nt{b o n b' o' n':Nat}:bp (.rd b o n) (.wr b' o' n')=iK b o n b' o' n':=rfl
theorem Ns{b o n b' o' n':Nat}:bp (.wr b o n) (.rd b' o' n')=iK b o n b' o' n':=rfl
theorem Nr{b o n b' o' n':Nat}:bp (.wr b o n) (.wr b' o' n')=iK b o n b' o' n':=rfl
theorem Nx{b o n b':Nat}:bp (.rd b o n) (.wb b')=decide (b'≠b):=rfl
theorem NA{b o n b':Nat}:bp (.wb b') (.rd b o n)=decide (b'≠b):=rfl
theorem Gq{b o n b':Nat}:bp (.wr b o n) (.wb b')=decide (b'≠b):=rfl
theorem Nz{b o n b':Nat}:bp (.wb b') (.wr b o n)=decide (b'≠b):=rfl
theorem NB{b b':Nat}:bp (.wb b) (.wb b')=decide (b≠b'):=rfl
theorem aN{fc:ci}{o:IOp}{xs:List IV}(h:eL o xs=some .none):aV (some fc) o xs=some (some ((o.idx,.none)::fc)):=by
 simp only[aV,lA,h];rw[if_pos]
 ·rfl
 ·rw[um];intro p _;simp[Ay]
section
variable {fc:ci}{dst:Option Nat}{args:List IA}{g:Option (Nat×Bool)}{amb:Bool}{idx mask:Nat}{xs:List IV}
theorem GD{o:IOp}:aV none o xs=some none:=rfl
theorem Ee:aV (some fc) ⟨dst,.move,args,g,amb,idx,mask⟩ xs=some (some ((idx,.none)::fc)):=aN rfl
theorem GE{op:BinOp}:aV (some fc) ⟨dst,.bin op,args,g,amb,idx,mask⟩ xs=some (some ((idx,.none)::fc)):=aN rfl
theorem NK{op:UnOp}:aV (some fc) ⟨dst,.un op,args,g,amb,idx,mask⟩ xs=some (some ((idx,.none)::fc)):=aN rfl
theorem Eg{k:IntKind}:aV (some fc) ⟨dst,.conv k,args,g,amb,idx,mask⟩ xs=some (some ((idx,.none)::fc)):=aN rfl
theorem Ck{z:Nat}:aV (some fc) ⟨dst,.idxSl z,args,g,amb,idx,mask⟩ xs=some (some ((idx,.none)::fc)):=aN rfl
theorem tI{z:Nat}:aV (some fc) ⟨dst,.fieldAddr z,args,g,amb,idx,mask⟩ xs=some (some ((idx,.none)::fc)):=aN rfl
theorem Cl{z:Nat}{n:Option Nat}:aV (some fc) ⟨dst,.field z n,args,g,amb,idx,mask⟩ xs=some (some ((idx,.none)::fc)):=aN rfl
theorem Cj:aV (some fc) ⟨dst,.lenSl,args,g,amb,idx,mask⟩ xs=some (some ((idx,.none)::fc)):=aN rfl
theorem Ed:aV (some fc) ⟨dst,.pick,args,g,amb,idx,mask⟩ xs=some (some ((idx,.none)::fc)):=aN rfl
theorem rK{l z:Nat}:aV (some fc) ⟨dst,.idxArrAddr l z,args,g,amb,idx,mask⟩ xs=some (some ((idx,.none)::fc)):=aN rfl
end
theorem ass(m k:Nat):Nat.testBit m k=decide (m / 2^k%2=1):=Nat.testBit_eq_decide_div_mod_eq
section
variable {α:Type}[Cell α]
def Gr(n0:Nat)(H:Heap)(e:Nat)(v:SV)(l:List α):Prop:=(v=.nil∧l=[])∨∃b,v=.sl b 0 l.length l.length false∧n0≤b∧l≠[]∧Own H b e l.length l
theorem Gr.nil{n0:Nat}{H:Heap}{e:Nat}:Gr n0 H e .nil ([]:List α):=.inl ⟨rfl,rfl⟩
theorem Gr.sl{n0:Nat}{H:Heap}{e:Nat}{v:SV}{l:List α}(h:Gr n0 H e v l):Sl H v l:=by
 rcases h with⟨rfl,rfl⟩ | ⟨b,rfl,_,_,h2⟩
 ·exact Sl.empty
 ·exact h2.sl false
theorem Gr.keep{n0:Nat}{H H':Heap}{e:Nat}{v:SV}{l:List α}(h:Gr n0 H e v l)(k:Keep H.n H H'):Gr n0 H' e v l:=by
 rcases h with h | ⟨b,h1,h2,h3,h4⟩
 ·exact .inl h
 ·exact .inr ⟨b,h1,h2,h3,h4.keep k⟩
def KeepG(n0 e z:Nat)(H H':Heap):Prop:=H.n≤H'.n∧∀x,x < H.n→(x < n0∨∀cs,H.get x≠some (.cells false e z cs))→H'.get x=H.get x
theorem KeepG.refl(n0 e z:Nat)(H:Heap):KeepG n0 e z H H:=⟨au _,fun _ _ _=>rfl⟩
theorem KeepG.trans{n0 e z:Nat}{a b c:Heap}(h:KeepG n0 e z a b)(k:KeepG n0 e z b c):KeepG n0 e z a c:=by
 refine⟨dr h.1 k.1,fun x h1 h2=>?_⟩
 have e1:=h.2 x h1 h2;rw[←e1];exact k.2 x (du h1 h.1) (by rw[e1];exact h2)
theorem KeepG.of{n0 e z:Nat}{H H':Heap}(k:Keep H.n H H'):KeepG n0 e z H H':=⟨k.1,fun x h _=>k.2 x h h⟩
theorem KeepG.low{n0 e z:Nat}{H H':Heap}(k:KeepG n0 e z H H')(hn:n0≤H.n):Keep n0 H H':=⟨k.1,fun x h1 h2=>k.2 x h2 (.inl h1)⟩
theorem KeepG.get{n0 e z x:Nat}{H H':Heap}{ob:IObj}(k:KeepG n0 e z H H')(hx:x < H.n)(hg:H.get x=some ob)(hob:∀cs,ob≠.cells false e z cs):H'.get x=some ob:=by
 rw[k.2 x hx (.inr fun cs h=>hob cs (by rw[hg] at h;exact tC h))];exact hg
theorem Own.keepG{n0 e e' z b cap:Nat}{H H':Heap}{l:List α}(h:Own H b e cap l)(k:KeepG n0 e' z H H')(hne:e≠e'):Own H' b e cap l:=by
 obtain⟨h1,h2,r,h3,h4⟩:=h;refine Own.same ⟨h1,h2,r,h3,h4⟩ k.1 (k.2 b h2 (.inr fun cs hc=>?_));rw[h3] at hc;injection hc with hc;injection hc with _ hc;exact hne hc
def OwnS(n0:Nat)(H:Heap)(e:Nat)(v:SV)(l:List α):Prop:=(v=.nil∧l=[])∨∃b cap ex,v=.sl b 0 l.length cap ex∧n0≤b∧Own H b e cap l
theorem OwnS.sl{n0:Nat}{H:Heap}{e:Nat}{v:SV}{l:List α}(h:OwnS n0 H e v l):Sl H v l:=by
 rcases h with⟨rfl,rfl⟩ | ⟨b,cap,ex,rfl,_,h⟩
 ·exact Sl.empty
 ·exact h.sl ex
theorem OwnS.keep{n0:Nat}{H H':Heap}{e:Nat}{v:SV}{l:List α}(h:OwnS n0 H e v l)(k:Keep H.n H H'):OwnS n0 H' e v l:=by
 rcases h with h | ⟨b,cap,ex,h1,h2,h3⟩
 ·exact .inl h
 ·exact .inr ⟨b,cap,ex,h1,h2,h3.keep k⟩
theorem OwnS.keepG{n0 n1 e e' z:Nat}{H H':Heap}{v:SV}{l:List α}(h:OwnS n0 H e v l)(k:KeepG n1 e' z H H')(hne:e≠e'):OwnS n0 H' e v l:=by
 rcases h with h | ⟨b,cap,ex,h1,h2,h3⟩
 ·exact .inl h
 ·exact .inr ⟨b,cap,ex,h1,h2,h3.keepG k hne⟩
theorem Fresh.own{n0:Nat}{H:Heap}{e:Nat}{v:SV}{l:List α}(h:Fresh n0 H e v l):OwnS n0 H e v l:=by
 rcases h with h | ⟨b,h1,h2,h3⟩
 ·exact .inl h
 ·exact .inr ⟨b,l.length,true,h1,h2,h3⟩
theorem Gr.own{n0:Nat}{H:Heap}{e:Nat}{v:SV}{l:List α}(h:Gr n0 H e v l):OwnS n0 H e v l:=by
 rcases h with h | ⟨b,h1,h2,_,h3⟩
 ·exact .inl h
 ·exact .inr ⟨b,l.length,false,h1,h2,h3⟩
theorem Gr.push{n0:Nat}{H:Heap}{e:Nat}{v:SV}{l:List α}(h:Gr n0 H e v l){a:α}{u:SV}(hu:Sl H u [a]){z:Nat}(hz:Cell.z α=z)(bytes lo:Nat)(hlo:lo≤n0)(hn:n0≤H.n)(hb:(l.length+1)*(bytes+1)≤2^40):
  ∃H2 w,ev1 (.append e z bytes) [v.iv,u.iv] lo H=some (SV.iv w,H2)∧KeepG n0 e z H H2∧Gr n0 H2 e w (l++[a]):=by
 rcases h with⟨rfl,rfl⟩ | ⟨b,rfl,h2,h3,h4⟩
 ·obtain⟨H2,e1,e2,e3,e4⟩:=Hj (e:=e) hu hz bytes lo (by simp) (by simpa using hb);exact⟨H2,.sl H.n 0 1 1 false,e1,KeepG.of e3,.inr ⟨H.n,rfl,hn,by simp,e4⟩⟩
 ·obtain⟨H2,e1,e2,e3,e4⟩:=uS (n:=l.length) h4 rfl hu hz bytes lo (by simp) (by simpa using hb) (by omega);refine⟨H2,.sl H.n 0 (l.length+1) (l.length+1) false,e1,⟨by omega,fun x h5 h6=>e3 x ?_ h5⟩,.inr ⟨H.n,by simp,hn,by simp,by rw[aW];exact e4⟩⟩;rintro rfl;rcases h6 with h6 | h6
  ·omega
  ·exact h6 _ (by rw[h4.full,hz])
theorem rG{H:Heap}{e z:Nat}(hz:Cell.z α=z)(a:α):Own (H.new (.cells false e z (Cell.cs a))) H.n e 1 [a]:=by
 have:=ck (H:=H.new (.cells false e z (Cell.cs a))) (b:=H.n) (e:=e) (l:=[a]) (by rw[ac];omega) hz (by rw[al,if_pos rfl]) (EG a).symm
 exact this
theorem Gr.pushNew{n0:Nat}{H:Heap}{e:Nat}{v:SV}{l:List α}(h:Gr n0 H e v l)(a:α){z:Nat}(hz:Cell.z α=z)(bytes lo:Nat)(hlo:lo≤n0)(hn:n0≤H.n)(hb:(l.length+1)*(bytes+1)≤2^40):
  ∃H2 w,ev1 (.append e z bytes) [v.iv,.slice H.n 0 1 1 true] lo (H.new (.cells false e z (Cell.cs a)))=some (SV.iv w,H2)∧KeepG n0 e z H H2∧Gr n0 H2 e w (l++[a]):=by
 obtain⟨H2,w,e1,k1,g1⟩:=(h.keep (.new _ (.cells false e z (Cell.cs a)))).push (a:=a) ((rG hz a).sl true) hz bytes lo hlo (by rw[ac];omega) hb;exact⟨H2,w,e1,(KeepG.of (.new _ _)).trans k1,g1⟩
end
theorem zL{α:Type}(f:Nat→List α)(n:Nat):(List.range (n+1)).flatMap f=(List.range n).flatMap f++f n:=by rw[List.range_succ,List.flatMap_append];simp
end Go.Iso
section
namespace Go.Iso
theorem O7:eV []=.tuple []:=rfl
theorem O6{v:IV}:eV [v]=v:=rfl
theorem O5{v w:IV}{l:List IV}:eV (v::w::l)=.tuple (v::w::l):=rfl
def BAS:=an @anZ (an @aqe (an @an2 (an @iz (an @aey (an @af1 (an @an3 (an @Fk (an @Hm (an @ad8 (an @ad9 (an @aqf (an @avU (an @Q1 (an @Q2 (an @ap8 (an @ap9 (an @ap7 (an @aqa (an @anW (an @apP (an @amI (an @adH (an @eq_self.{1} (an @Nat.left_eq_add (an @Nat.add_eq_left (an @Nat.add_left_cancel_iff (an @Nat.add_assoc (an @Ou (an @MO (an @MN (an @ac3 (an @ac2 (an @am6 (an @am7 (an @apy (an @List.getD_cons_zero.{0} (an @List.getD_cons_succ.{0} (an @ada (an @adb (an @amJ (an @anS (an @anR (an @anT (an @aen (an @aeo (an @amy (an @aez (an @if_true.{1} (an @if_false.{1} (an @Option.map_some.{0,0} (an @Option.map_none.{0,0} (an @Option.bind_some.{0,0} (an @Option.bind_none.{0,0} (an @List.nil_append.{0} (an @List.append_nil.{0} (an @List.cons_append.{0} (an @List.length_cons.{0} (an @List.length_nil.{0} (an @Nat.zero_add (an @amZ (an @am0 (an @QA (an @ac4 (an @beq_self_eq_true.{0} (an @Bool.false_eq_true (an @Bool.not_true (an @Bool.not_false (an @Option.getD_some.{0} (an @Option.getD_none.{0} (an @Hf (an @He (an @E9 (an @G9 (an @Ha (an @zP (an @CV (an @vh (an @Hb (an @zQ (an @Oi (an @CU (an @zf (an @CW (an @vi (an @al (an @ac (an @ae (an @ai (an @List.drop_succ_cons.{0} (an @List.drop_zero.{0} (an @List.take_succ_cons.{0} (an @List.take_zero.{0} (an @Nat.add_zero (an @Nat.le_refl (an @Option.some.injEq.{0} (an @and_true (an @true_and (an @and_false (an @false_and (an @BEq.rfl.{0} (an @rI (an @oV (an @Qg (an @Qh (an @Ea (an @Gy (an @zF (an @Qi (an @Eb (an @adK (an @Gx (an @Ci (an @Gz (an @zG (an @List.all_cons.{0} (an @List.all_nil.{0} (an @Bool.and_self (an @Bool.and_true (an @Bool.true_and (an @Nat.le_add_right (an @Nat.add_sub_cancel (an @bne_self_eq_false.{0} (an @Bool.false_bne (an @Bool.bne_false (an @Bool.or_true (an @Bool.true_or (an @Int.toNat_natCast (an @Option.isSome_some.{0} (an @an1 (an @amW (an @amV (an @Fj (an @OJ (an @P1 (an @P0 (an @ac8 (an @ac6 (an @ac7 (an @adG (an @adF (an @ne_eq.{1} (an @not_false_eq_true (an @auV (an @auU (an @cLe (an @auT (an @cLt (an @auS (an @iLe (an @auw (an @iLt (an @auv (an @iGe (an @auy (an @iGt (an @aux (an @auA (an @apN (an @auz (an @apM (an @asp (an @wU8 (an @decide_true (an @decide_false (an @P3 (an @P2 (an @adD (an @Fo (an @jx (an @A4 (an @jS (an @sA (an @iM (an @lH (an @Nat.zero_mul (an @Bool.true_eq_false (an @Bool.false_or (an @Bool.or_false (an @Bool.false_and (an @Bool.and_false (an @not_true_eq_false (an @Nat.sub_zero (an @List.getElem?_cons_zero.{0} (an @List.getElem?_cons_succ.{0} (an @bj.eq_1 (an @bj.eq_2 (an @IA.eval.eq_1 (an @IA.eval.eq_2 (an @IA.eval.eq_3 (an @Fr.put.eq_1 (an @Fr.put.eq_2 (an @ce.eq_1 (an @ce.eq_2 (an @bF.eq_1 (an @bF.eq_2 (an @ax.eq_1 (an @ax.eq_2 (an @gN.eq_1 (an @gN.eq_2 (an @aq.eq_1 (an @aq.eq_2 (an @List.set.eq_1.{0} (an @List.set.eq_2.{0} (an @List.set.eq_3.{0} (an @List.drop.eq_1.{0} (an @List.drop.eq_2.{0} (an @List.drop.eq_3.{0} (an @List.take.eq_1.{0} (an @List.take.eq_2.{0} (an @List.take.eq_3.{0} (an @List.append.eq_1.{0} (an @List.append.eq_2.{0} (an @aA.eq_1 (an @aA.eq_2 (an @aA.eq_3 (an @aA.eq_4 (an @dv.eq_1 (an @dv.eq_2 (an @aV.eq_1 (an @aV.eq_2 (an @O7 (an @O6 (an @O5 (an @Ny (an @Ay (an @Nu (an @Nt (an @Ns (an @Nr (an @Nx (an @NA (an @Gq (an @Nz (an @NB (@ass)))))))))))))))))))))))))))))))))))))))))))))))))))))))))))))))))))))))))))))))))))))))))))))))))))))))))))))))))))))))))))))))))))))))))))))))))))))))))))))))))))))))))))))))))))))))))))))))))))))))))))))))))))))))))))))))))))))))))))
def aj:=an @GD (an @Ee (an @GE (an @NK (an @Eg (an @Ck (an @tI (an @Cl (an @Cj (an @Ed (@rK))))))))))
end Go.Iso
end
namespace Go.Iso
theorem aqb{b o n b' o' n':Nat}(h:b < b'):iK b o n b' o' n'=true:=by
 have:b≠b':=by omega
 simp[iK,this]
theorem aqc{b o n b' o' n':Nat}(h:b' < b):iK b o n b' o' n'=true:=by
 have:b≠b':=by omega
 simp[iK,this]
def asC:Fp→Bool
 | .none | .rd _ _ _=>true
 | _=>false
def m7:ci→Bool
 | []=>true
 | p::fc=>asC p.2&&m7 fc
theorem NJ:m7 []=true:=rfl
theorem GA{i:Nat}{fc:ci}:m7 ((i,.none)::fc)=m7 fc:=rfl
theorem Qo{i b o n:Nat}{fc:ci}:m7 ((i,.rd b o n)::fc)=m7 fc:=rfl
theorem Qn{i b o n:Nat}{fc:ci}:m7 ((i,.wr b o n)::fc)=false:=rfl
theorem AB{b o n mask:Nat}:∀{fc:ci},m7 fc=true→(fc.all fun p=>mask.testBit p.1||bp p.2 (.rd b o n))=true
 | [],_=>rfl
 | (i,f)::fc,h=>by
   simp only[m7,bk] at h;rw[ll,AB h.2,xN]
   cases f with
   | none=>simp[bp]
   | rd=>simp[bp]
   | _=>cases h.1
section
variable {fc:ci}{dst:Option Nat}{args:List IA}{g:Option (Nat×Bool)}{amb:Bool}{idx mask:Nat}{xs:List IV}
theorem Eh:aV (some fc) ⟨dst,.call,args,g,amb,idx,mask⟩ xs=some (some ((idx,.none)::fc)):=aN rfl
theorem Cn{e z:Nat}{zs:List IV}:aV (some fc) ⟨dst,.alloc e z zs,args,g,amb,idx,mask⟩ xs=some (some ((idx,.none)::fc)):=aN rfl
theorem Cm{zs:List IV}{os:List (Nat×Nat)}:aV (some fc) ⟨dst,.build zs os,args,g,amb,idx,mask⟩ xs=some (some ((idx,.none)::fc)):=aN rfl
theorem yu{e z n:Nat}{zs:List IV}{os:List (Nat×Nat)}:aV (some fc) ⟨dst,.buildSl e z n zs os,args,g,amb,idx,mask⟩ xs=some (some ((idx,.none)::fc)):=aN rfl
theorem Ef{n:Option Nat}{b a:Nat}:aV (some fc) ⟨dst,.load n,args,g,amb,idx,mask⟩ [.ptr b a]=if m7 fc=true then some (some ((idx,.rd b a (n.getD 1))::fc)) else(lA fc ⟨dst,.load n,args,g,amb,idx,mask⟩ [.ptr b a]).map some:=by
 split
 ·rename_i h;simp only[aV,lA,eL];rw[if_pos (AB h)];rfl
 ·rfl
end
def FR:=an @Eh (an @Cn (an @Cm (an @yu @Ef)))
def FW:=an @NJ (an @GA (an @Qo (an @Qn (an @aqb @aqc))))
end Go.Iso
section
namespace Go.Iso
theorem J1{a b:Prop}(h:a)(k:b):a∧b:=⟨h,k⟩
def BAY:=J1 @BAS (J1 @eL.eq_def (J1 @lA.eq_def (J1 @opW.eq_def (J1 @nT.eq_def (J1 @ev1.eq_def (J1 @eG.eq_def (J1 @unI.eq_def (J1 @iF.eq_def (J1 @N7.eq_def @bO.eq_def)))))))))
def ak:=J1 BAY @Heap.write.eq_def
end Go.Iso
end
namespace Go.Iso
section
variable {α:Type}[Cell α]
theorem lY(l:List α)(i:Nat)(h:i < l.length):aD l=aD (l.take i)++(Cell.cs l[i]++aD (l.drop (i+1))):=by
 rw[←dx,←cy,←pD h,rA]
end
section
variable {α:Type}[Cell α]
end
def slO(z:Nat)(H:Heap)(v:SV):Prop:=∀b o n c ex,v=.sl b o n c ex→(ex||zM H b z)=true
def SV.cut(z:Nat)(v:SV)(a n:Nat):SV:=match v with
 | .nil=>.nil
 | .sl b o _ c ex=>.sl b (o+a*z) n (c - a) ex
def ary(z:Nat)(v:SV)(n:Nat):SV:=match v with
 | .nil=>.nil
 | .sl b o _ _ _=>.sl b (o+0*z) (n - 0) (n - 0) true
section
variable {α:Type}[Cell α]
end
open Classical
section
variable {P:Program}{g0 lo:Nat}{μ:Mu}{H H':Heap}{w:World}{ρ:Operand→Value}{xs:List IV}{v:IV}
variable {dst:Option Tmp}{type:TypeId}{pos:String}{after:Array Edge}{guard:Option (Tmp×Bool)}
theorem sS:∀{es:List (IV×IV×Nat)} {l:List MapEntry} {e:MapEntry},EsR μ es l→e∈l→∃k v,(k,v,e.born)∈es∧VR μ k e.key∧VR μ v e.val
 | [],_,_,h,he=>by cases h;cases he
 | (k,v,s)::es,_,x,hr,h=>by
   obtain⟨e,l',rfl,h1,h2,h3,h'⟩:=hr
   cases h with
   | head=>exact⟨k,v,by rw[h3];exact rv ..,h1,h2⟩
   | tail _ h=>obtain⟨k',v',a,b,c⟩:=sS h' h;exact⟨k',v',eH _ a,b,c⟩
theorem BR(h:Rel P g0 μ H.get H.n w){x:Operand}{r b since last clock:Nat}{seen:List Nat}{es:List (IV×IV×Nat)}
  (hg:H.get r=some (.iter (some b) since seen last)) (hm:aF H b=some (es,clock)) (hlo:lo≤r)
  (hseen:∀e∈es,e.2.2 < last) (hold:∀e∈es,e.2.2 < since) (hne:∃e∈es,e.2.2∉seen) (hx:VRs μ [.ptr r 0] [ρ x]):
  ∃k v s,(k,v,s)∈es∧s∉seen∧Gives P g0 lo μ H w (execOp ρ ⟨dst,.next x false,type,pos,after,guard⟩) (.tuple [.bool true,k,v]) (H.put r (.iter (some b) since (seen++[s]) clock)):=by
 obtain⟨y,hy,hv⟩:=pe hx;injection hy with hy _;subst hy;obtain⟨a,hval,hl⟩:=hv
 have hown:∀o,H.get r=some o→o≠.dead→∃c p ez z,μ r=.at c p ez z∧ObjR P μ o p ez z w.heap[c]?∧a=⟨c,p+0,none⟩:=by
  intro o ho hd;unfold LocR at hl
  cases hb:μ r with
  | no=>rw[hb] at hl;exact hl.elim
  | dead=>have:=h.ded r hb;rw[ho] at this;injection this with this;exact absurd this hd
  | «at» c p ez z=>
    rw[hb] at hl;obtain⟨ob,hob,hor⟩:=h.obj r c p ez z hb;rw[ho] at hob;injection hob with hob;subst hob;exact⟨c,p,ez,z,rfl,hor,hl⟩
 obtain⟨c,p,ez,z,hb,⟨rfl,m',hheap,hvm⟩,ha⟩:=hown _ hg (by simp);subst ha;obtain⟨rm,ez2,z2,es',hvm',hbm,hheapm,hes⟩:=kJ h hm hvm;injection hvm' with hvm';subst hvm';have hall:=zq (f:=fun s=>decide (last≤s)) hes;have hnil:es≠[]:=by obtain⟨e,he,_⟩:=hne;exact List.ne_nil_of_mem he
 have hc1:(!seen.toArray.isEmpty&&!es'.isEmpty&&es'.all fun e=>decide (e.born≥last))=false:=by
  have:(es'.all fun e=>decide (e.born≥last))=false:=by
   rw[←Array.all_toList,←hall,Bool.eq_false_iff];intro hh
   cases es with
   | nil=>exact hnil rfl
   | cons e es=>
     simp only[ll,bk,decide_eq_true_eq] at hh
     have:=hseen e (rv ..)
     omega
  rw[this,B3]
 have g1:(getObj c).run P w=.ok (.mapIter (some rm) since seen.toArray last) w:=by simp[getObj,Sem.run,hheap]
 have hleft:(es'.filter fun e=>!seen.toArray.contains e.born).toList=es'.toList.filter fun e=>!seen.contains e.born:=by
  rw[Array.toList_filter];simp
 have hfl:=zp (f:=fun s=>!seen.contains s) hes
 have f1:((es'.filter fun e=>!seen.toArray.contains e.born).filter fun e=>decide (e.born < since))=es'.filter fun e=>!seen.toArray.contains e.born:=by
  rw[Array.filter_eq_self];intro e he;obtain⟨k,v,hmem,_,_⟩:=sS hes (Array.mem_toList_iff.2 (Array.mem_filter.1 he).1);simpa using hold _ hmem
 have f2:((es'.filter fun e=>!seen.toArray.contains e.born).filter fun e=>decide (e.born≥since))=#[]:=by
  rw[Array.filter_eq_empty_iff];intro e he;obtain⟨k,v,hmem,_,_⟩:=sS hes (Array.mem_toList_iff.2 (Array.mem_filter.1 he).1)
  have:=hold _ hmem
  simp only at this;simp;omega
 have hpos:(es'.filter fun e=>!seen.toArray.contains e.born)≠#[]:=by
  intro e0;rw[e0] at hleft;obtain⟨e,he,hs⟩:=hne;rw[←hleft] at hfl;have hl0:=EsR.length hfl;simp only[j2] at hl0
  have:e∈es.filter fun e=>!seen.contains e.2.2:=List.mem_filter.2 ⟨he,by simpa using hs⟩
  rw[List.length_eq_zero_iff.1 hl0] at this;cases this
 generalize hL:(es'.filter fun e=>!seen.toArray.contains e.born)=L at *;have hcs:c < w.heap.size:=(Array.getElem?_eq_some_iff.1 hheap).1
 have fin:∀(i:Nat) (w1:World),w1.heap=w.heap→w1.os=w.os→w1.tape=w.tape→w1.output=w.output→w.drawn≤w1.drawn→i < L.size→∃e0 k0 v0,L[i]? =some e0∧(k0,v0,e0.born)∈es∧e0.born∉seen∧
   (∃μ',Rel P g0 μ' (H.put r (.iter (some b) since (seen++[e0.born]) clock)).get (H.put r (.iter (some b) since (seen++[e0.born]) clock)).n {w1 with heap:=w1.heap.setIfInBounds c (.mapIter (some rm) since (seen.toArray.push e0.born) clock)}∧
    Post lo μ H.get H.n w μ' (H.put r (.iter (some b) since (seen++[e0.born]) clock)).get (H.put r (.iter (some b) since (seen++[e0.born]) clock)).n {w1 with heap:=w1.heap.setIfInBounds c (.mapIter (some rm) since (seen.toArray.push e0.born) clock)}∧
    VR μ' (.tuple [.bool true,k0,v0]) (.tuple #[.bool true,e0.key,e0.val])):=by
  intro i w1 q1 q2 q3 q4 q5 hi;obtain⟨e0,he0⟩:∃e0,L[i]? =some e0:=⟨L[i],by simp[hi]⟩;have hmem:e0∈L:=Array.mem_of_getElem? he0;rw[←hL] at hmem;obtain⟨hm1,hm2⟩:=Array.mem_filter.1 hmem;obtain⟨k0,v0,hin,hk0,hv0⟩:=sS hes (Array.mem_toList_iff.2 hm1)
  obtain⟨hr,hp⟩:=h.update (lo:=lo) (w':={w1 with heap:=w1.heap.setIfInBounds c (.mapIter (some rm) since (seen.toArray.push e0.born) clock)}) (o:=.iter (some b) since (seen++[e0.born]) clock) hb hlo ⟨_,hg,rfl⟩ (by simp[q1]) (fun c' hc'=>by simp only[q1];rw[Il (Ne.symm hc')]) (by
   simp only[q1];rw[In hcs];exact⟨rfl,some rm,by simp,hvm⟩) q2 q3 q4 q5
  exact⟨e0,k0,v0,he0,hin,by simpa using hm2,μ,hr,hp,⟨_,rfl,_,_,rfl,rfl,_,_,rfl,hk0,_,_,rfl,hv0,rfl⟩⟩
 have hemp:L.isEmpty=false:=by simpa [Array.isEmpty_iff] using hpos
 have hsz:0 < L.size:=Array.size_pos_iff.2 hpos;by_cases hfc:L.size≤1
 ·obtain⟨e0,k0,v0,he0,hin,hns,μ',h1,h2,h3⟩:=fin 0 w rfl rfl rfl rfl (au _) hsz;refine⟨k0,v0,e0.born,hin,hns,.value (.tuple #[.bool true,e0.key,e0.val]),.tuple #[.bool true,e0.key,e0.val],_,μ',?_,.inl rfl,h1,h2,h3⟩;simp only[execOp,Instr.next,hval,Sem.run_bind,g1,Result.andThen_ok,bq hheapm,hc1,fY,if_false,hL,f1,f2,hemp];simp[choose,Sem.run,Question.forced,setObj,hheap,hfc,he0]
 ·have hfo:(Question.mapNext L.size).forced=false:=by simp[Question.forced];omega
  have hlt:(Question.mapNext L.size).cut (w.tape w.drawn (.mapNext L.size)) < L.size:=Nat.mod_lt _ hsz;obtain⟨e0,k0,v0,he0,hin,hns,μ',h1,h2,h3⟩:=fin _ {w with drawn:=w.drawn+1} rfl rfl rfl rfl (pO _) hlt;refine⟨k0,v0,e0.born,hin,hns,.value (.tuple #[.bool true,e0.key,e0.val]),.tuple #[.bool true,e0.key,e0.val],_,μ',?_,.inl rfl,h1,h2,h3⟩;simp only[execOp,Instr.next,hval,Sem.run_bind,g1,Result.andThen_ok,bq hheapm,hc1,fY,if_false,hL,f1,f2,hemp];have hd:w.drew.heap=w.heap:=rfl;simp[choose,Sem.run,hfo,setObj,hd,hheap,he0];exact⟨rfl,rfl⟩
end
open Classical
def AJ:Nat→Nat→Heap→Heap
 | 0,_,H=>H
 | k+1,b,H=>AJ k (b+1) (H.put b .dead)
theorem Iv:∀(k b:Nat) (H:Heap),(AJ k b H).n=H.n
 | 0,_,_=>rfl
 | k+1,b,H=>by rw[AJ,Iv k,ai]
theorem AI:∀(k b:Nat) (H:Heap) (x:Nat),(AJ k b H).get x=if b≤x∧x < b+k then some .dead else H.get x
 | 0,b,H,x=>by rw[if_neg (by omega)];rfl
 | k+1,b,H,x=>by
   rw[AJ,AI k,ae];by_cases h1:b+1≤x∧x < b+1+k
   ·rw[if_pos h1,if_pos (by omega)]
   ·rw[if_neg h1];by_cases h2:b=x
    ·rw[if_pos h2,if_pos (by omega)]
    ·rw[if_neg h2,if_neg (by omega)]
def bJ(lo:Nat)(H:Heap):Heap:=AJ (H.n - lo) lo H
theorem jI(lo:Nat)(H:Heap):(bJ lo H).n=H.n:=Iv _ _ _
theorem jo(lo:Nat)(H:Heap)(x:Nat)(hx:x < H.n):(bJ lo H).get x=if lo≤x then some .dead else H.get x:=by
 rw[bJ,AI];by_cases h:lo≤x
 ·rw[if_pos h,if_pos (by omega)]
 ·rw[if_neg h,if_neg (by omega)]
theorem pE{lo lo':Nat}(H:Heap)(h:lo≤lo'):Keep lo H (bJ lo' H):=
 ⟨by rw[jI];exact au _,fun b h1 h2=>by rw[jo _ _ _ h2,if_neg (by omega)]⟩
theorem CallSim.lower{P:Program}{g0:Nat}{f:FuncId}{args:List IV}{lo lo':Nat}{H H':Heap}{v:IV}(hl:lo'≤lo)(h:CallSim P g0 f args lo H v H'):CallSim P g0 f args lo' H v H':=by
 intro μ w args' hr ha;exact(h μ w args' hr ha).mono fun e w' ⟨v',μ',h1,h2,h3,h4⟩=>⟨v',μ',h1,h2,h3.lower hl,h4⟩
def AK(sz:Nat)(v:IV):Prop:=∃cs,v=.agg cs∧cs.length=sz∧cs.all IV.one=true
def Bc(P:Program)(g0:Nat)(f:FuncId)(sz:Nat)(args:List IV)(H:Heap)(p:Nat×IV):Prop:=
 p.1≤H.n∧AK sz p.2∧CallSim P g0 f args p.1 H p.2 (bJ p.1 H)
def HS(P:Program)(g0:Nat)(f:FuncId)(sz:Nat)(args:List IV)(H:Heap)(p:Nat×IV):Prop:=
 Bc P g0 f sz args H p∧∀q,Bc P g0 f sz args H q→q.1≤p.1
noncomputable def jP(P:Program)(g0:Nat)(f:FuncId)(sz:Nat):List IV→Nat→Heap→Option (IV×Heap):=fun args lo H=>
 if h:∃p,HS P g0 f sz args H p then
  if lo≤(Classical.choose h).1 then some ((Classical.choose h).2,bJ (Classical.choose h).1 H) else none
 else none
theorem Oo{P:Program}{g0:Nat}{f:FuncId}{sz:Nat}{args:List IV}{H:Heap}{q:Nat×IV}(h:Bc P g0 f sz args H q):∃p,HS P g0 f sz args H p:=by
 suffices ∀k (q:Nat×IV),Bc P g0 f sz args H q→H.n - q.1≤k→∃p,HS P g0 f sz args H p from this _ q h (au _)
 intro k
 induction k with
 | zero=>intro q hq hk;exact⟨q,hq,fun r hr=>by have:=hr.1;omega⟩
 | succ k ih=>
   intro q hq hk;by_cases hm:∃r,Bc P g0 f sz args H r∧q.1 < r.1
   ·obtain⟨r,hr,hlt⟩:=hm;exact ih r hr (by have:=hr.1;omega)
   ·exact⟨q,hq,fun r hr=>by
     rcases gP q.1 r.1 with h | h
     ·exact absurd ⟨r,hr,h⟩ hm
     ·exact h⟩
theorem Fe{P:Program}{g0:Nat}{f:FuncId}{sz lo l0:Nat}{args:List IV}{H:Heap}{v0:IV}(hl:lo≤l0)(hn:l0≤H.n)(hg:AK sz v0)(h:CallSim P g0 f args l0 H v0 (bJ l0 H)):
  ∃l v,jP P g0 f sz args lo H=some (v,bJ l H)∧l0≤l∧l≤H.n∧AK sz v:=by
 have hex:=Oo (show Bc P g0 f sz args H (l0,v0) from⟨hn,hg,h⟩);have hm:=Classical.choose_spec hex;have h1:=hm.2 (l0,v0) ⟨hn,hg,h⟩;have h1:l0≤(Classical.choose hex).1:=h1;refine⟨(Classical.choose hex).1,(Classical.choose hex).2,?_,h1,hm.1.1,hm.1.2.1⟩;unfold jP;rw[dif_pos hex,if_pos (by omega)]
theorem C0{P:Program}{g0:Nat}{f:FuncId}{sz:Nat}{args:List IV}{lo:Nat}{H:Heap}{v:IV}{H':Heap}(h:jP P g0 f sz args lo H=some (v,H')):
  Keep lo H H'∧∀lo',lo'≤lo→jP P g0 f sz args lo' H=some (v,H'):=by
 unfold jP at h⊢;split at h
 ·rename_i hex;split at h
  ·rename_i hlo;injection h with h;injection h with h1 h2;subst h1 h2;refine⟨pE H hlo,fun lo' hl=>?_⟩;rw[dif_pos hex,if_pos (by omega)]
  ·cases h
 ·cases h
theorem Hk{P:Program}{g0:Nat}{f:FuncId}{sz:Nat}{args:List IV}{lo:Nat}{H:Heap}{v:IV}{H':Heap}(h:jP P g0 f sz args lo H=some (v,H')):CallSim P g0 f args lo H v H':=by
 unfold jP at h;split at h
 ·rename_i hex;split at h
  ·rename_i hlo;injection h with h;injection h with h1 h2;subst h1 h2;exact(Classical.choose_spec hex).1.2.2.lower hlo
  ·cases h
 ·cases h
def NItem(P:Program)(g0 lo:Nat)(it:Item)(rd:Option Nat)(fr:Fr)(H:Heap)(Q:Out→Heap→Prop):Prop:=
 ∀(μ:Mu) (w:World) (t:Array Value) (r:Option Nat) (ds:List Deferred),Rel P g0 μ H.get H.n w→VRs μ fr.tm t.toList→RdR μ rd r→DsR μ fr.marks ds→∀(f:FuncId) (k:List Item) (cs:List Frame),
  ∃e fr' H' μ' w' t' ds',Q (.ex e fr') H'∧Rel P g0 μ' H'.get H'.n w'∧Post lo μ H.get H.n w μ' H'.get H'.n w'∧VRs μ' fr'.tm t'.toList∧DsR μ' fr'.marks ds'∧
   Arr P f r t' ds' cs w' (lone (bg f r t ds (it::k)) cs w) k e
section
variable {P:Program}{E:Env}{g0 lo:Nat}{rd:Option Nat}{fr:Fr}{H:Heap}{Q Q':Out→Heap→Prop}
theorem NItem.mono{it:Item}(h:NItem P g0 lo it rd fr H Q)(hq:∀e fr' H',Q (.ex e fr') H'→Q' (.ex e fr') H'):NItem P g0 lo it rd fr H Q':=by
 intro μ w t r ds hr ht hrd hds f k cs;obtain⟨e,fr',H',μ1,w1,t1,ds1,a0,a1,a2,a3,a4,a5⟩:=h μ w t r ds hr ht hrd hds f k cs;exact⟨e,fr',H',μ1,w1,t1,ds1,hq _ _ _ a0,a1,a2,a3,a4,a5⟩
theorem Fs{it:Item}{e:Ex}{fr':Fr}{H':Heap}(h:ItemSim P g0 lo it rd fr H e fr' H')(hq:Q (.ex e fr') H'):NItem P g0 lo it rd fr H Q:=by
 intro μ w t r ds hr ht hrd hds f k cs;obtain⟨μ1,w1,t1,ds1,a1,a2,a3,a4,a5⟩:=h μ w t r ds hr ht hrd hds f k cs;exact⟨e,fr',H',μ1,w1,t1,ds1,hq,a1,a2,a3,a4,a5⟩
theorem iN(hE:EnvOk P E){c:Code}{ic:IC}(hc:aM P c=some ic)(h:W E lo (.code ic rd fr) H Q):NItem P E.g0 lo (.code c) rd fr H Q:=by
 obtain⟨n,o,H',hrun,hq⟩:=h;obtain⟨e,fr',rfl,hs⟩:=ze (wd hE n) n (au _) c ic rd fr lo H o H' hc hrun;exact Fs hs hq
theorem NItem.seq{it0 it1 it2:Item}(hs:∀f r t ds k cs w,step P (lone (bg f r t ds (it0::k)) cs w)=.next (lone (bg f r t ds (it1::it2::k)) cs w))(hit:∀id k,exitTo id (it2::k)=exitTo id k)
  (h1:NItem P g0 lo it1 rd fr H fun o H1=>match o with
   | .ex .normal fr1=>NItem P g0 lo it2 rd fr1 H1 Q
   | o=>Q o H1):NItem P g0 lo it0 rd fr H Q:=by
 intro μ w t r ds hr ht hrd hds f k cs;obtain⟨e,fr1,H1,μ1,w1,t1,ds1,a0,a1,a2,a3,a4,a5⟩:=h1 μ w t r ds hr ht hrd hds f (it2::k) cs
 cases e with
 | normal=>
   obtain⟨e2,fr2,H2,μ2,w2,t2,ds2,b0,b1,b2,b3,b4,b5⟩:=a0 μ1 w1 t1 r ds1 a1 a3 (hrd.mono a2.le) a4 f k cs;exact⟨e2,fr2,H2,μ2,w2,t2,ds2,b0,b1,a2.trans b2,b3,b4,b5.head (Steps.head (hs f r t ds k cs w) a5)⟩
 | jmp j=>exact⟨.jmp j,fr1,H1,μ1,w1,t1,ds1,a0,a1,a2,a3,a4,(a5.skipItem hit).head (.one (hs f r t ds k cs w))⟩
theorem NItem.seqC{a b:Code}(h1:NItem P g0 lo (.code a) rd fr H fun o H1=>match o with
   | .ex .normal fr1=>NItem P g0 lo (.code b) rd fr1 H1 Q
   | o=>Q o H1):NItem P g0 lo (.code (.seq a b)) rd fr H Q:=
 NItem.seq (fun f r t ds k cs w=>FZ) (uD b) h1
theorem C2{id:Nat}{c:Code}(h:NItem P g0 lo (.code c) rd fr H fun o H'=>match o with
   | .ex (.jmp (.exit id')) fr'=>Q (.ex (if id'=id then .normal else .jmp (.exit id')) fr') H'
   | o=>Q o H'):NItem P g0 lo (.code (.block id c)) rd fr H Q:=by
 intro μ w t r ds hr ht hrd hds f k cs;obtain⟨e1,fr1,H1,μ1,w1,t1,ds1,a0,a1,a2,a3,a4,a5⟩:=h μ w t r ds hr ht hrd hds f (.inBlock id::k) cs;have st:step P (lone (bg f r t ds (.code (.block id c)::k)) cs w)=.next (lone (bg f r t ds (.code c::.inBlock id::k)) cs w):=DJ
 cases e1 with
 | normal=>exact⟨.normal,fr1,H1,μ1,w1,t1,ds1,a0,a1,a2,a3,a4,Steps.head st (Steps.trans a5 (.one xD))⟩
 | jmp j=>
   obtain⟨pre,b1,b2⟩:=a5
   cases j with
   | ret=>exact⟨.jmp .ret,fr1,H1,μ1,w1,t1,ds1,a0,a1,a2,a3,a4,pre++[.inBlock id],Steps.head st (by simpa using b1),fun id' e=>by cases e⟩
   | exit id'=>
     refine⟨_,fr1,H1,μ1,w1,t1,ds1,a0,a1,a2,a3,a4,?_⟩
     have hx:=b2 id' rfl;rw[nu] at hx;by_cases he:id'=id
     ·subst he;simp only[if_true] at hx⊢;exact Steps.head st (b1.trans (.one (Ic hx)))
     ·rw[if_neg (Ne.symm he)] at hx;rw[if_neg he];refine⟨pre++[.inBlock id],Steps.head st (by simpa using b1),fun id'' e=>?_⟩;injection e with e;subst e;simpa using hx
theorem NItem.inLoop{c:Code}(Inv:Nat→Fr→Heap→Prop)(hb:∀n fr H,Inv n fr H→NItem P g0 lo (.code c) rd fr H fun o H'=>match o with
   | .ex .normal fr'=>∃m,m < n∧Inv m fr' H'
   | o=>Q o H'):∀n fr H,Inv n fr H→NItem P g0 lo (.inLoop c) rd fr H Q:=by
 intro n
 induction n using Nat.strongRecOn with
 | _ n ih=>
   intro fr H hI;refine NItem.seq (fun f r t ds k cs w=>tp) (iS c) ((hb n fr H hI).mono fun e fr' H' hq=>?_)
   cases e with
   | normal=>obtain⟨m,hm,hI'⟩:=hq;exact ih m hm fr' H' hI'
   | jmp j=>exact hq
theorem NItem.loopC{c:Code}(Inv:Nat→Fr→Heap→Prop)(n:Nat)(h0:Inv n fr H)(hb:∀n fr H,Inv n fr H→NItem P g0 lo (.code c) rd fr H fun o H'=>match o with
   | .ex .normal fr'=>∃m,m < n∧Inv m fr' H'
   | o=>Q o H'):NItem P g0 lo (.code (.loop c)) rd fr H Q:=by
 refine NItem.seq (fun f r t ds k cs w=>BO) (iS c) ((hb n fr H h0).mono fun e fr' H' hq=>?_)
 cases e with
 | normal=>obtain⟨m,hm,hI'⟩:=hq;exact NItem.inLoop Inv hb m fr' H' hI'
 | jmp j=>exact hq
def NOp(P:Program)(g0:Nat)(o:Oper)(lo:Nat)(xs:List IV)(H:Heap)(R:IV→Heap→Prop):Prop:=
 ∀(μ:Mu) (w:World) (t:Array Value),Rel P g0 μ H.get H.n w→VRs μ xs (o.op.operands.toList.map (ct t))→
  ∀(f:FuncId) (rd:Option Nat) (ds:List Deferred) (k:List Item) (cs:List Frame) (ops:Array Oper) (i:Nat) (rest:List Nat),
  ∃(v:IV) (H':Heap) (v':Value) (w':World) (μ':Mu),R v H'∧Rel P g0 μ' H'.get H'.n w'∧Post lo μ H.get H.n w μ' H'.get H'.n w'∧VR μ' v v'∧
   (ops[i]? =some o→Region.wanted o (yielded ops t)=true→Steps P (lone (bg f rd t ds (.inRegion ops (i::rest)::k)) cs w) (lone (bg f rd (mJ t o.dst v') ds (.inRegion ops rest::k)) cs w'))
theorem NItem.region(hE:EnvOk P E){id:Nat}{ops:Array Oper}{pre post:List IOp}{io:IOp}(hc:cD P ops false=some [(.seq,pre++io::post)])(hg:io.guard=none){R:IV→Heap→Prop}
  (hpre:W E lo (.ops none pre rd fr) H fun o H1=>∃fr1 xs,o=.ex .normal fr1∧bj E.g0 fr1.tm io.args=some xs∧
   (∀o,bR P o.op=some io.kd→NOp P E.g0 o lo xs H1 R)∧
   ∀v H2,R v H2→W E lo (.ops none post rd (fr1.put io.dst v)) H2 fun o H'=>∃fr',o=.ex .normal fr'∧Q (.ex .normal fr') H'):
  NItem P E.g0 lo (.code (.region id ops false)) rd fr H Q:=by
 simp only[cD] at hc
 cases h1:ops.toList.mapM (lE P ops) with
 | none=>rw[h1] at hc;cases hc
 | some l=>
   rw[h1] at hc;simp only[rz,br,fY,if_false] at hc
   have hc:l=pre++io::post:=by
    have:=tC hc
    simpa using this
   subst hc;obtain⟨hl,hget⟩:=nc h1;obtain⟨n,o,H1,hrun,fr1,xs,rfl,hxs,hop,hpost⟩:=hpre;obtain⟨fr1',S1,e1,htr1⟩:=oU (N:=n) pre n (au _) _ _ _ _ _ hrun;injection e1 with _ e1;subst e1
   have hos:∀(j:Nat) (io':IOp),(pre++io::post)[j]? =some io'→∃o,ops[j]? =some o∧OpOk P ops o io':=fun j io' hj=>by
    obtain⟨o,q1,q2⟩:=hget j io' hj;obtain⟨e3,e4,e5,e6⟩:=kO q2;exact⟨o,by simpa using q1,e3,e4,e5,e6⟩
   have hlen:ops.size=pre.length+(post.length+1):=by
    rw[←mW,←hl];simp
   intro μ w t r ds hr ht hrd hds f k cs
   have j7:List.range ops.size=List.range' 0 pre.length++(pre.length::List.range' (pre.length+1) post.length):=by
    rw[Gf,hlen,←List.range'_append_1,bL,Ca]
   obtain⟨μ1,t1,w1,a1,a2,a3,a4⟩:=vP (a:=0) (ops:=ops) (wd hE n) (fun j io' hj=>by
    have hlt:j < pre.length:=(List.getElem?_eq_some_iff.1 hj).1;obtain⟨o,q1,q2⟩:=hos j io' (by rw[As hlt];exact hj);exact⟨o,by rw[bL];exact q1,q2⟩) htr1 hr ht f r ds k cs (pre.length::List.range' (pre.length+1) post.length)
   obtain⟨o,ho,hok⟩:=hos pre.length io (by simp)
   have hwant:Region.wanted o (yielded ops t1)=true:=by
    rw[lK hok.guard (by simpa using a3.length) (fun d w' _=>gX a3 d),hg];rfl
   have hxs':=dy a1 hok.args hxs (fun i _=>gX a3 i);obtain⟨v,H2,v',w2,μ2,b0,b1,b2,b3,b4⟩:=hop o hok.kd μ1 w1 t1 a1 hxs' f r ds k cs ops pre.length (List.range' (pre.length+1) post.length);have b4:=b4 ho hwant
   have b5:VRs μ2 (fr1.put io.dst v).tm (mJ t1 o.dst v').toList:=by
    rw[hok.dst]
    cases o.dst with
    | none=>exact VRs.mono b2.le _ _ a3
    | some d=>simp only[Fr.put,mJ,uv];exact(VRs.mono b2.le _ _ a3).set d b3
   obtain⟨n3,o3,H3,hrun3,fr3,rfl,hq⟩:=hpost v H2 b0;obtain⟨fr3',S3,e3,htr3⟩:=oU (N:=n3) post n3 (au _) _ _ _ _ _ hrun3;injection e3 with _ e3;subst e3
   obtain⟨μ3,t3,w3,c1,c2,c3,c4⟩:=vP (a:=pre.length+1) (ops:=ops) (wd hE n3) (fun j io' hj=>by
    obtain⟨o,q1,q2⟩:=hos (pre.length+1+j) io' (by rw[uu (by omega),show pre.length+1+j - pre.length=j+1 by omega];simpa using hj);exact⟨o,q1,q2⟩) htr3 b1 b5 f r ds k cs []
   rw[ip] at c4;refine⟨.normal,fr3,H3,μ3,w3,t3,ds,hq,c1,(a2.trans b2).trans c2,c3,?_,?_⟩
   ·have hm:fr3.marks=fr.marks:=by
     rw[htr3.marks]
     have:(fr1.put io.dst v).marks=fr1.marks:=by cases io.dst<;>rfl
     rw[this,htr1.marks]
    rw[hm];exact hds.mono ((a2.trans b2).trans c2).le
   ·refine Steps.head Aa ?_;rw[j7];exact a4.trans (b4.trans (c4.trans (.one ku)))
theorem NOp.next{o:Oper}(hk:bR P o.op=some .nextM){r b since last clock:Nat}{seen:List Nat}{es:List (IV×IV×Nat)}
  (hg:H.get r=some (.iter (some b) since seen last)) (hm:aF H b=some (es,clock)) (hlo:lo≤r)
  (hseen:∀e∈es,e.2.2 < last) (hold:∀e∈es,e.2.2 < since) (hne:∃e∈es,e.2.2∉seen):
  NOp P g0 o lo [.ptr r 0] H fun v H'=>∃k x s,(k,x,s)∈es∧s∉seen∧v=.tuple [.bool true,k,x]∧H'=H.put r (.iter (some b) since (seen++[s]) clock):=by
 intro μ w t hr hx f rd ds k cs ops i rest
 obtain⟨y,hop⟩:∃y,o.op=.next y false:=by
  cases ho:o.op<;>rw[ho] at hk<;>simp only[bR,EA,aJ,bZ,b9] at hk
  all_goals (repeat' split at hk)
  all_goals (try simp only[b9,bZ,reduceCtorEq,and_false,exists_false] at hk)
  all_goals first
   | (cases hk;done)
   | exact⟨_,rfl⟩
   | grind
 obtain⟨dst,op,type,pos,after,guard⟩:=o;simp only at hop;subst hop;have hx:VRs μ [.ptr r 0] [ct t y]:=by simpa [Op.operands] using hx
 obtain⟨k0,v0,s0,h1,h2,nx,v',w',μ',hrun,hnx,hr',hp,hv⟩:=BR (dst:=dst) (type:=type) (pos:=pos) (after:=after) (guard:=guard) (ρ:=ct t) hr hg hm hlo hseen hold hne hx;exact⟨_,_,v',w',μ',⟨k0,v0,s0,h1,h2,rfl,rfl⟩,hr',hp,hv,fun ho hw=>.one (DI ho hw (yG hk) hrun hnx)⟩
def IX(P:Program)(g0:Nat)(f:FuncId)(args:List IV)(lo:Nat)(H:Heap)(R:IV→Heap→Prop):Prop:=
 ∀(μ:Mu) (w:World) (args':Array Value),Rel P g0 μ H.get H.n w→VRs μ args args'.toList→
  Calls P f args' w fun e w'=>∃(v:IV) (H':Heap) (v':Value) (μ':Mu),R v H'∧e=.returned v'∧Rel P g0 μ' H'.get H'.n w'∧Post lo μ H.get H.n w μ' H'.get H'.n w'∧VR μ' v v'
theorem NOp.call{o:Oper}(hk:bR P o.op=some .call){g:FuncId}{first cap args:List IV}{fn:Func}{body:Code}(hf:P.funcs[g]? =some fn)(hb:fn.body=some body)(hn:(fn.name=="runtime.NumGoroutine")=false){R:IV→Heap→Prop}
  (h:IX P g0 g (first++args++cap) lo H R):NOp P g0 o lo (.fn g first cap::args) H R:=by
 obtain⟨fo,ars,ts,ho⟩:=Iw hk;intro μ w t hr hx f rd ds k cs ops i rest;have hops:o.op.operands.toList.map (ct t)=ct t fo::ars.toList.map (ct t):=by rw[ho];simp[Op.operands,Call.operands]
 rw[hops] at hx;obtain⟨y,yl,hy,hvf,hva⟩:=hx;simp only[dt] at hy;obtain⟨rfl,rfl⟩:=hy;obtain⟨l',r',hfe,hl,hrr⟩:=hvf;have hva:VRs μ args (ars.map (ct t)).toList:=by simpa using hva
 have hvs:VRs μ (first++args++cap) ((l'++ars.map (ct t))++r').toList:=by
  rw[xR,xR];exact(hl.append hva).append hrr
 obtain⟨e,w',fr,⟨v,H',v',μ',hR,rfl,hr',hp,hv⟩,hsteps,hfn,hleave⟩:=h μ w _ hr hvs (bg f rd t ds (.inRegion ops (i::rest)::k)::cs);refine⟨v,H',v',w',μ',hR,hr',hp,hv,fun hoi hw=>?_⟩;rw[←lX hoi]
 have hrun:(execOp (ct t) o).run P w=.ok (.enter g ((l'++ars.map (ct t))++r')) w:=by
  have hn':¬fn.name="runtime.NumGoroutine":=by simpa using hn
  simp only[execOp,ho,resolve,hfe];simp[Deferred.ofValue,invoke,callFunc,hf,hn',hb]
 refine Steps.head (step_lone_go ?_) (Steps.trans hsteps (.one (step_leave_returned hleave)));rw[mN hoi hw (fun c e=>by rw[ho] at e;cases e),nn];simp only[stepG.apply,Sem.runT_eq,hrun,if_true,GStep.bare_after];split
 ·rename_i heq;simp[bg] at heq
 ·rfl
end
open Go.Sort Go.Proofs Go.Shelf
section
variable {P:Program}{g0 lo:Nat}{μ:Mu}{H:Heap}{w:World}
theorem Np{n n':Nat}{g g':Gt}{μ':Mu}{w':World}(hp:Post n μ g n w μ' g' n' w'):∃q os,w'=grow (w.drewN q) os:=by
 have hh:w'.heap=w.heap++w'.heap.extract w.heap.size w'.heap.size:=by
  apply Array.ext_getElem?;intro i;by_cases hi:i < w.heap.size
  ·rw[Array.getElem?_append_left hi];exact hp.frame i hi fun b p ez z h1 h2=>by omega
  ·rw[Array.getElem?_append_right (by omega),Array.getElem?_extract];have hs:=hp.size;by_cases h2:i < w'.heap.size
   ·rw[if_pos (by omega),show w.heap.size+(i - w.heap.size)=i by omega]
   ·rw[if_neg (by omega),Ao (by omega)]
 refine⟨w'.drawn - w.drawn,w'.heap.extract w.heap.size w'.heap.size,?_⟩
 have h1:=hp.os;have h2:=hp.tape;have h3:=hp.output;have h4:=hp.drawn;obtain⟨h,t,d,o,u⟩:=w;obtain⟨h',t',d',o',u'⟩:=w';simp only at h1 h2 h3 h4 hh⊢;subst h1 h2 h3
 show World.mk h' t' d' o' u'=World.mk (h++h'.extract h.size h'.size) t' (d+(d' - d)) o' u'
 rw[←hh,show d+(d' - d)=d' by omega]
theorem ED(os:Array Obj){c:Nat}(hc:c < w.heap.size):(grow w os).heap[c]? =w.heap[c]?:=Array.getElem?_append_left hc
theorem Rel.grown{g:Gt}{n:Nat}(h:Rel P g0 μ g n w)(os:Array Obj):Rel P g0 μ g n (grow w os):=
 ⟨h.lt,h.inj,fun b c p ez z hb=>by rw[ED os (h.clt hb)];exact h.obj b c p ez z hb,h.glob,h.ded⟩
theorem Post.grown{g:Gt}{n:Nat}(h:Rel P g0 μ g n w)(os:Array Obj):Post lo μ g n w μ g n (grow w os) where
 le:=μ.le_refl
 hn:=au _
 old:=fun _ _ h=>h
 low:=fun _ _ _=>⟨rfl,rfl⟩
 own:=fun _ _ h=>h
 new:=fun b c p ez z hb e=>absurd (h.lt b (by rw[e];exact fun x=>by cases x)) (by omega)
 full:=fun b h1 h2=>by omega
 size:=by show _≤(w.heap++os).size;rw[Array.size_append];omega
 frame:=fun c hc _=>ED os hc
 os:=rfl
 tape:=rfl
 output:=rfl
 drawn:=au _
def toV:IV→Value
 | .int k n=>.int k n
 | _=>undef
def Ix:IV→Bool
 | .int _ _=>true
 | _=>false
theorem sM:∀{L:List IV} {vs:List Value},L.all Ix=true→(VRs μ L vs↔vs=L.map toV)
 | [],vs,_=>by constructor<;>exact fun h=>h
 | x::L,vs,h=>by
   simp only[ll,bk] at h;have ih:=fun vs=>sM (L:=L) (vs:=vs) h.2
   obtain⟨k,n,rfl⟩:∃k n,x=.int k n:=by
    cases x with
    | int k n=>exact⟨k,n,rfl⟩
    | _=>exact absurd h.1 (by simp[Ix])
   constructor
   ·rintro⟨y,ys,rfl,hy,hys⟩
    have hy:y=.int k n:=hy;rw[hy,(ih ys).1 hys];rfl
   ·rintro rfl;exact⟨_,_,rfl,rfl,(ih _).2 rfl⟩
theorem zD(F:Array Value)(cs:Array Value)(h:F.size≤cs.size):(putCells id 0 F cs).toList.take F.size=F.toList:=by
 apply Al;intro i;rw[List.getElem?_take];by_cases hi:i < F.size
 ·rw[if_pos hi,ur,ur];unfold putCells;rw[Array.getElem?_mapIdx,pC (by omega:i < cs.size)];simp only[cx];rw[if_pos (by omega),tA,getElem!_pos F i hi,pC hi];rfl
 ·rw[if_neg hi,ur,Ao (by omega)]
theorem adC(h:Rel P g0 μ H.get H.n w){b c e ez z:Nat}{cs cs2:List IV}(hb:μ b=.at c 0 ez z)(hlo:lo≤b)(hg:H.get b=some (.cells false e ez cs)){F:Array Value}(hF:VRs μ cs2 F.toList)(hl:cs2.length=cs.length)(m:Nat):
  Rel P g0 μ (H.put b (.cells false e ez cs2)).get (H.put b (.cells false e ez cs2)).n (putRow id (Sort.ahead w m) c 0 F)∧Post lo μ H.get H.n w μ (H.put b (.cells false e ez cs2)).get (H.put b (.cells false e ez cs2)).n (putRow id (Sort.ahead w m) c 0 F):=by
 obtain⟨o,ho,hor⟩:=h.obj b c 0 ez z hb;rw[hg] at ho;injection ho with ho;subst ho;obtain⟨_,_,cs',hc,hz,hle,hv⟩:=hor;have hsz:F.size=cs2.length:=by rw[←mW,hF.length]
 refine h.update hb hlo ⟨_,hg,rfl⟩ (by show(w.heap.modify c _).size=_;rw[Array.size_modify]) (fun c' hc'=>by show(w.heap.modify c _)[c']? =_;rw[Array.getElem?_modify,if_neg (Ne.symm hc')]) ?_ rfl rfl rfl (Nat.le_add_right _ _);refine⟨rfl,rfl,putCells id 0 F cs',?_,?_,by omega,?_⟩
 ·show(w.heap.modify c _)[c]? =_
  rw[Array.getElem?_modify,if_pos rfl,hc];rfl
 ·unfold putCells;rw[Array.size_mapIdx];exact hz
 ·rw[←hsz,zD F cs' (by omega)];exact hF
section
variable {α:Type}[Inhabited α]
theorem xM:∀(l:List Value),(List.range l.length).map (fun t=>l[t]!)=l:=by
 intro l;apply xP (by simp);intro i h1 h2;simp[ca h2]
theorem Cy(enc:α→List Value)(k:Nat)(hk:∀x,(enc x).length=k)(hk0:0 < k):∀(l:List α),(flatK enc k l.toArray).toList=l.flatMap enc:=by
 have key:∀(l:List α),(List.range (l.length*k)).map (fun t=>(enc l[t / k]!)[t%k]!)=l.flatMap enc:=by
  intro l
  induction l with
  | nil=>simp
  | cons a l ih=>
    rw[fe,dB,Nat.add_comm,List.range_add,pw,List.flatMap_cons,←ih];congr 1
    ·conv=>rhs;rw[←xM (enc a),hk]
     apply List.map_congr_left;intro t ht;have ht:=List.mem_range.1 ht;rw[Nat.div_eq_of_lt ht,Nat.mod_eq_of_lt ht];rfl
    ·rw[List.map_map];apply List.map_congr_left;intro t _
     show(enc (a::l)[(k+t) / k]!)[(k+t)%k]! =_
     rw[Nat.add_div_left _ hk0,Nat.add_mod_left];rfl
 intro l;unfold flatK;rw[Array.toList_map,Array.toList_range,←key l];simp
end
section
variable {α:Type}[Inhabited α][Cell α]
def p8(x:α):List Value:=(Cell.cs x).map toV
omit [Inhabited α] in
theorem EP(x:α):(p8 x).length=Cell.z α:=by unfold p8;rw[mD,Cell.len]
omit [Inhabited α] in
theorem N8(l:List α):l.flatMap p8=(aD l).map toV:=by
 unfold aD p8;rw[List.map_flatMap]
def Fm(cf:α→α→Int)(b e ez:Nat)(l:List α)(H:Heap)(v:IV)(H':Heap):Prop:=
 v=.tuple []∧∃l':List α,l'.Perm l∧l'.Pairwise (fun x y=>ltOf cf y x=false)∧H'.n=H.n∧(∀x,x≠b→H'.get x=H.get x)∧H'.get b=some (.cells false e ez (aD l'))
theorem xE{ρ:Ren}(L:SlLaysF0.n6 P ρ)(hint:∀x:α,(Cell.cs x).all Ix=true)(aE:∀w,(isAgg (ρ.t 24)).run P w=.ok true w)(zE:∀w,(Go.sizeOf (ρ.t 24)).run P w=.ok (Cell.z α) w)
  (cf:α→α→Int) (hO:SWO (ltOf cf)) {g b e ez lb:Nat} {ex:Bool} {l:List α} (hlo:lo≤b) (hg:H.get b=some (.cells false e ez (aD l))) (hsz:l.length < 4611686018427387904)
  (eg:∀args w,(callFunc g args).run P w=.ok (.enter g args) w) (hcmp:∀(x y:α) (H':Heap),∃H'',CallSim P g0 g [.agg (Cell.cs x),.agg (Cell.cs y)] H'.n H' (.int .i64 (cf x y)) H''):
  IX P g0 (ρ.f 6) [.slice b 0 l.length lb ex,.fn g [] []] lo H (Fm cf b e ez l H):=by
 intro μ w args' hr ha;obtain⟨v1,vs1,e1,hv1,v2,vs2,rfl,hv2,rfl⟩:=ha;obtain⟨a,cap,rfl,hcap,hsl⟩:=hv1;obtain⟨l1,r1,rfl,hl1,hr1⟩:=hv2;have hl1:l1.toList=[]:=hl1;have hr1:r1.toList=[]:=hr1;have hl1:l1=#[]:=Array.toList_eq_nil_iff.1 hl1;have hr1:r1=#[]:=Array.toList_eq_nil_iff.1 hr1;subst hl1 hr1
 have hargs:args'=#[.slice (some a) l.length cap,.func (.func g) #[] #[]]:=by
  apply dA;rw[e1]
 subst hargs
 have hat:∃c ez' z,μ b=.at c 0 ez' z∧ez'=ez∧(cap=0∨a=⟨c,0,none⟩):=by
  unfold SlR at hsl
  cases hb:μ b with
  | no=>rw[hb] at hsl;exact hsl.elim
  | dead=>have:=hr.ded b hb;rw[hg] at this;injection this with this;cases this
  | «at» c p ez' z=>
    rw[hb] at hsl;obtain⟨o,ho,hor⟩:=hr.obj b c p ez' z hb;rw[hg] at ho;injection ho with ho;subst ho;obtain⟨rfl,rfl,_⟩:=hor;exact⟨c,_,z,rfl,rfl,by simpa using hsl.1⟩
 obtain⟨c,ez',z,hb,rfl,hcap0⟩:=hat;by_cases hnil:l=[]
 ·subst hnil
  exact(AnyF.slices_SortFunc_none L (some a) cap _ w).mono fun e' w' ⟨h1,h2⟩=>by
   subst h1 h2;exact⟨.tuple [],H,.tuple #[],μ,⟨rfl,[],.refl _,.nil,rfl,fun _ _=>rfl,hg⟩,rfl,hr,Post.refl hr,⟨#[],rfl,rfl⟩⟩
 have hpos:0 < l.length:=List.length_pos_iff.2 hnil
 have ha:a=⟨c,0,none⟩:=by
  rcases hcap0 with h | h
  ·have h1:=hcap.1;have h2:=hcap.2.1;omega
  ·exact h
 subst ha
 have hall:∀l:List α,(aD l).all Ix=true:=fun l=>by
  unfold aD;rw[List.all_flatMap,um];exact fun x _=>hint x
 have hF:∀d:Array α,(flatK p8 (Cell.z α) d).toList=(aD d.toList).map toV:=fun d=>by
  rw[←N8,←Cy p8 (Cell.z α) EP Cell.pos]
 have hVF:∀d:Array α,VRs μ (aD d.toList) (flatK p8 (Cell.z α) d).toList:=fun d=>(sM (hall _)).2 (hF d);obtain⟨o,ho,hor⟩:=hr.obj b c 0 ez' z hb;rw[hg] at ho;injection ho with ho;subst ho;obtain⟨_,_,cs',hc,hz,hle,hv⟩:=hor
 have hcs:cs'.toList.take (aD l).length=(flatK p8 (Cell.z α) l.toArray).toList:=by
  rw[hF];exact(sM (hall _)).1 hv
 have hblk:c < w.heap.size:=(Array.getElem?_eq_some_iff.1 hc).1
 have hH:HoldsK p8 (Cell.z α) w c 0 l.toArray:=by
  intro j hj;have hj':j < (aD l).length:=by rw[aw];simpa using hj
  have hj2:j < cs'.size:=by omega
  refine⟨?_,?_⟩
  ·unfold World.cell?;simp only[hc,An,fY,if_false,bL];have h1:(cs'.toList.take (aD l).length)[j]? =cs'[j]?:=by rw[List.getElem?_take,if_pos hj',ur]
   rw[←h1,hcs,ur,pC hj,getElem!_pos _ j hj];rfl
  ·unfold World.frozen?;simp only[hc];simp
 have hW:∀(d:Array α) (m:Nat) (os:Array Obj),d.size=l.length→Rel P g0 μ (H.put b (.cells false e ez' (aD d.toList))).get (H.put b (.cells false e ez' (aD d.toList))).n (sortWorldK p8 (Cell.z α) w c 0 m d os)∧
   Post lo μ H.get H.n w μ (H.put b (.cells false e ez' (aD d.toList))).get (H.put b (.cells false e ez' (aD d.toList))).n (sortWorldK p8 (Cell.z α) w c 0 m d os):=by
  intro d m os hd;obtain⟨r1,p1⟩:=adC (lo:=lo) hr hb hlo hg (hVF d) (by rw[aw,aw,mW,hd]) m;exact⟨r1.grown os,p1.trans (Post.grown r1 os)⟩
 have hcl:CmpLays P g #[] p8 (Cell.z α) cf c 0 l.toArray.size w:=by
  intro m os dk hdk x y;obtain⟨r1,_⟩:=hW dk m os (by simpa using hdk);obtain⟨H'',hs⟩:=hcmp x y (H.put b (.cells false e ez' (aD dk.toList)));have hx:∀x:α,VR μ (.agg (Cell.cs x)) (.agg (p8 x).toArray):=fun x=>⟨_,rfl,(sM (hint x)).2 rfl⟩;refine(hs μ _ _ r1 ⟨_,_,rfl,hx x,_,_,rfl,hx y,rfl⟩).mono fun e' w' ⟨v',μ',h1,_,h3,h4⟩=>?_;have h4:v'=.int .i64 (cf x y):=h4;subst h1 h4;exact⟨rfl,Np h3⟩
 have hone:∀x:α,∀v∈p8 x,v.oneCell'=true:=by
  intro x v hv;obtain⟨y,hy,rfl⟩:=List.mem_map.1 hv
  have:=List.all_eq_true.1 (hint x) y hy
  cases y<;>first | (cases this;done) | rfl
 have hcall:=AnyQ.slices_SortFunc L (Cell.z α) aE zE p8 EP hone cf hO g #[] c 0 cap l.toArray w eg hcl hH hblk (by simpa using hsz);rw[ya] at hcall;refine hcall.mono fun e' w' ⟨h1,d',m,os,hp,hs,hw⟩=>?_;subst h1 hw;have hd:d'.size=l.length:=by simpa using hp.1
 obtain⟨r1,p1⟩:=hW d' m os hd;refine⟨.tuple [],H.put b (.cells false e ez' (aD d'.toList)),.tuple #[],μ,⟨rfl,d'.toList,?_,?_,rfl,fun x hx=>by rw[ae,if_neg (Ne.symm hx)],by rw[ae,if_pos rfl]⟩,rfl,r1,p1,⟨#[],rfl,rfl⟩⟩
 ·have:=hp.2.2
  have e1:d'.extract 0 l.length=d':=by rw[←hd];exact Array.extract_size
  have e2:l.toArray.extract 0 l.length=l.toArray:=by rw[←ya];exact Array.extract_size
  rw[e1,e2] at this;simpa using this
 ·rw[Ar];intro i j hi hj hij
  have:=hs i j (fd _) hij (by rw[←hd,←mW];exact hj)
  rw[getElem!_pos d' i (by simpa using hi),getElem!_pos d' j (by simpa using hj)] at this;simpa using this
end
end
open Classical
def uG(mb:Nat):IV→IV
 | .slice _ _ n _ _=>.slice mb 0 n n false
 | v=>v
def okC:IV→Bool
 | .int _ _=>true
 | .bool _=>true
 | .nilSlice=>true
 | .slice _ _ _ _ _=>true
 | _=>false
theorem EV{μ μ':Mu}{mb:Nat}(hm:μ' mb=.dead):∀{v:IV} {v':Value},okC v=true→VR μ v v'→VR μ' (uG mb v) v'
 | .int _ _,_,_,h=>h
 | .bool _,_,_,h=>h
 | .nilSlice,_,_,h=>h
 | .slice b o n lb ex,_,_,h=>by
   obtain⟨a,cap,e,⟨h1,h2,h3,h4⟩,_⟩:=h;exact⟨a,cap,e,⟨au _,by omega,h3,fun h=>by cases h⟩,by unfold SlR;rw[hm];trivial⟩
theorem sr{μ μ':Mu}{mb:Nat}(hm:μ' mb=.dead):∀{cs:List IV} {l:List Value},cs.all okC=true→VRs μ cs l→VRs μ' (cs.map (uG mb)) l
 | [],_,_,h=>h
 | c::cs,_,hk,h=>by
   simp only[ll,bk] at hk;obtain⟨y,ys,e,h1,h2⟩:=h;exact⟨y,ys,e,EV hm hk.1 h1,sr hm hk.2 h2⟩
section
variable {P:Program}{g0 lo:Nat}
theorem Oj{f:FuncId}{fn:IFn}(hc:am P f=some fn){mb:Nat}{H:Heap}{ds:List IV}(hg0:g0≤lo)(hmb:lo≤mb)(hmbn:mb < H.n)
  (hbody:∀pf c,P.funcs[f]? =some pf→pf.body=some c→aM P c=some fn.body→NItem P g0 lo (.code c) none ⟨[.ptr mb 0]++ce (fn.ntmps - 1),[]⟩ H fun o H'=>∃e fr',o=.ex e fr'∧(∀id,e≠.jmp (.exit id))∧fr'.marks=[]∧
   ∃cs,ax H' fr'.tm fn.results=some [.agg cs]∧cs.all okC=true∧cs.map (uG mb)=ds):
  CallSim P g0 f [.ptr mb 0] lo H (.agg ds) (bJ lo H):=by
 unfold am at hc
 cases hf:P.funcs[f]? with
 | none=>rw[hf] at hc;cases hc
 | some pf=>
   rw[hf] at hc;simp only at hc;split at hc
   ·cases hc
   ·cases hb:pf.body with
    | none=>rw[hb] at hc;cases hc
    | some c=>
      rw[hb] at hc;simp only at hc
      cases hres:pf.results.toList.mapM (uK P) with
      | none=>rw[hres] at hc;cases hc
      | some irs=>
        cases hcc:aM P c with
        | none=>rw[hres,hcc] at hc;cases hc
        | some ic=>
          rw[hres,hcc] at hc;injection hc with hc;subst hc;have hs:=hbody pf c hf hb hcc;intro μ w args' hr ha cs
          have ht:VRs μ ([.ptr mb 0]++ce (pf.ntmps - 1)) (args'++Array.replicate (pf.ntmps - args'.size) undef).toList:=by
           have hl:1=args'.size:=by have:=ha.length;simpa using this
           rw[hl,xR,Array.toList_replicate];exact ha.append (lL _)
          have hmne:μ mb≠.no:=by
           obtain⟨y,ys,_,⟨a,_,hl⟩,_⟩:=ha;exact hl.ne
          obtain⟨e,fr1,H1,μ1,w1,t1,ds1,⟨e',fr',heq,he,hmk,vs,hv,hok,hds⟩,a1,a2,a3,a4,a5⟩:=hs μ w _ none [] hr ht rfl rfl f [] cs;injection heq with q1 q2;subst q1 q2;rw[hmk] at a4;have a4:ds1=[]:=a4;subst a4
          have henter:Frame.enter P f args' .normal=bg f none (args'++Array.replicate (pf.ntmps - args'.size) undef) [] [.code c]:=by
           simp[Frame.enter,bg,hf,hb]
          have hlv:∃todo,Steps P (lone (Frame.enter P f args' .normal) cs w) (lone (OD f t1 [] todo) cs w1):=by
           rw[henter]
           cases e with
           | normal=>exact⟨[],Steps.trans a5 (.one (qZ (.inl rfl)))⟩
           | jmp j=>
             cases j with
             | exit id=>exact absurd rfl (he id)
             | ret=>
               obtain⟨pre,b1,_⟩:=a5;exact⟨_,Steps.trans b1 (.one (qZ (.inr ⟨_,rfl⟩)))⟩
          obtain⟨todo,hst⟩:=hlv;obtain⟨v',hrun,hvr⟩:=pt a1 a3 hres hv;have hvr:VR μ1 (.agg vs) v':=hvr
          let m2:Mu:=fun b=>if b < H.n∧lo≤b∧μ b≠.no then .dead else μ b
          have hno:∀b,μ b=.no→m2 b=.no:=fun b h=>by show(if _ then _ else _)=_;rw[if_neg (fun hh=>hh.2.2 h),h]
          have hlow:∀b,b < lo→m2 b=μ b:=fun b h=>by show(if _ then _ else _)=_;rw[if_neg (by omega)]
          have hdead:∀b,b < H.n→lo≤b→μ b≠.no→m2 b=.dead:=fun b h1 h2 h3=>by show(if _ then _ else _)=_;rw[if_pos ⟨h1,h2,h3⟩]
          have hle:μ.le m2:=fun b hb=>by
           by_cases h:b < H.n∧lo≤b
           ·exact .inr (hdead b h.1 h.2 hb)
           ·left;show(if _ then _ else _)=_;rw[if_neg (fun hh=>h ⟨hh.1,hh.2.1⟩)]
          have hat:∀b c p ez z,m2 b=.at c p ez z→b < lo∧b < H.n∧μ b=.at c p ez z:=by
           intro b c p ez z hb;have hne:μ b≠.no:=fun h=>by rw[hno b h] at hb;cases hb
           have hlt:=hr.lt b hne
           have hb2:b < lo:=by
            rcases gP b lo with h | h
            ·exact h
            ·rw[hdead b hlt h hne] at hb;cases hb
           exact⟨hb2,hlt,by rw[←hlow b hb2];exact hb⟩
          have hkg:∀b,b < lo→b < H.n→(bJ lo H).get b=H.get b:=fun b h1 h2=>by rw[jo _ _ _ h2,if_neg (by omega)]
          have hlt2:∀b,m2 b≠.no→b < H.n:=fun b hb=>hr.lt b fun h=>hb (hno b h)
          have hrel:Rel P g0 m2 (bJ lo H).get (bJ lo H).n w1:=by
           refine⟨fun b hb=>by rw[jI];exact hlt2 b hb,?_,?_,?_,?_⟩
           ·intro b b' c p ez z p' ez' z' hb hb' ho;obtain⟨h1,h2,h3⟩:=hat _ _ _ _ _ hb;obtain⟨h4,h5,h6⟩:=hat _ _ _ _ _ hb';exact hr.inj b b' c p ez z p' ez' z' h3 h6 (bN (hkg b h1 h2) ho)
           ·intro b c p ez z hb;obtain⟨h1,h2,h3⟩:=hat _ _ _ _ _ hb;obtain⟨o,ho,hor⟩:=hr.obj b c p ez z h3;refine⟨o,by rw[hkg b h1 h2];exact ho,?_⟩
            rw[a2.frame c (hr.clt h3) fun b2 p2 ez2 z2 k1 k2 k3 k4=>by
             have:=hr.inj b2 b c p2 ez2 z2 p ez z k4 h3 k3
             omega]
            exact hor.mono hle
           ·intro i hi;rw[hlow i (by omega)];exact hr.glob i hi
           ·intro b hb;have hbn:=hlt2 b (by rw[hb];exact fun x=>by cases x);rw[jo _ _ _ hbn];by_cases h:lo≤b
            ·rw[if_pos h]
            ·rw[if_neg h];rw[hlow b (by omega)] at hb;exact hr.ded b hb
          have hpost:Post lo μ H.get H.n w m2 (bJ lo H).get (bJ lo H).n w1:=by
           refine⟨hle,by rw[jI];exact au _,fun b _ h=>hno b h,fun b h1 h2=>⟨hlow b h1,hkg b h1 h2⟩,?_,?_,?_,a2.size,a2.frame,a2.os,a2.tape,a2.output,a2.drawn⟩
           ·intro b hb ho;by_cases h:lo≤b
            ·obtain⟨o,h1,h2⟩:=ho;rw[jo _ _ _ hb,if_pos h] at h1;injection h1 with h1;subst h1;cases h2
            ·exact bN (hkg b (by omega) hb) ho
           ·intro b c p ez z hb e
            have:=hlt2 b (by rw[e];exact fun x=>by cases x)
            omega
           ·intro b h1 h2;rw[jI] at h2;omega
          refine⟨.returned v',w1,OD f t1 [] todo,⟨v',m2,rfl,hrel,hpost,?_⟩,hst,rfl,rfl,rfl,rfl,pf,hf,hrun⟩
          obtain⟨l',e',hl'⟩:=hvr;exact⟨l',e',by rw[←hds];exact sr (hdead mb hmbn hmb hmne) hok hl'⟩
theorem gb{c:Code}{x y:IC}(h:aM P c=some (.seq x y)):∃a b,c=.seq a b∧aM P a=some x∧aM P b=some y:=by
 cases c<;>simp only[aM,bZ,rz,b9,tD,jB,reduceCtorEq,and_false,exists_false] at h
 case seq a b=>
  obtain⟨x',hx,y',hy,he⟩:=h;injection he with h1 h2;subst h1 h2;exact⟨a,b,rfl,hx,hy⟩
theorem tT{c:Code}{l:List (Sg×List IOp)}(h:aM P c=some (.ops l)):∃id ops draw,c=.region id ops draw∧cD P ops draw=some l:=by
 cases c<;>simp only[aM,bZ,rz,b9,tD,jB,reduceCtorEq,and_false,exists_false] at h
 case region id ops draw=>
  obtain⟨x,hx,he⟩:=h;injection he with h1;subst h1;exact⟨id,ops,draw,rfl,hx⟩
theorem E5{c:Code}{x:IC}{n:Nat}(h:aM P c=some (.block n x)):∃a,c=.block n a∧aM P a=some x:=by
 cases c<;>simp only[aM,bZ,rz,b9,tD,jB,reduceCtorEq,and_false,exists_false] at h
 case block id a=>
  obtain⟨x',hx,he⟩:=h;injection he with h1 h2;subst h1 h2;exact⟨a,rfl,hx⟩
theorem G6{c:Code}{x:IC}(h:aM P c=some (.loop x)):∃a,c=.loop a∧aM P a=some x:=by
 cases c<;>simp only[aM,bZ,rz,b9,tD,jB,reduceCtorEq,and_false,exists_false] at h
 case loop a=>
  obtain⟨x',hx,he⟩:=h;injection he with h1;subst h1;exact⟨a,rfl,hx⟩
def mi:Code→List Bool
 | .region _ _ d=>[d]
 | .seq a b=>mi a++mi b
 | .cond _ a b=>mi a++mi b
 | .block _ c=>mi c
 | .scope c=>mi c
 | .loop c=>mi c
 | _=>[]
end
end Go.Iso
