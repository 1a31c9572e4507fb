/-
  rules of runs over ranges, slices and lists.
-/
import Derived.Test.YtpnbiapmndbhgaaGreatDoorIsoP6
import Derived.IntWalk
import Derived.Shelf.SlSortCmp.NoneTotal
set_option linter.unusedSimpArgs false
set_option linter.unusedVariables false
set_option maxRecDepth 100000
set_option linter.defProp false
namespace Go.Iso
section
variable {E:Env}{lo:Nat}{rd:Option Nat}{fr:Fr}{H:Heap}{Q:Out→Heap→Prop}
def E8:Option Jmp→Ex
 | none=>.normal
 | some j=>.jmp j
theorem M4:E8 none=.normal:=rfl
theorem MZ{j:Jmp}:E8 (some j)=.jmp j:=rfl
def Jm(l lo:Nat)(marks:List Nat)(fr:Fr)(Q:Out→Heap→Prop)(H2:Heap)(ob:Option IObj):Prop:=
 match ob with
 | some (.loop st pend tm ps asg body df)=>st≠.busy∧lo≤l∧Q (.ex (E8 pend) {fr with marks:=marks++fr.marks}) (H2.put l (.loop .exhausted pend tm ps asg body df))
 | _=>False
def Qo(l lo:Nat)(marks:List Nat)(fr:Fr)(Q:Out→Heap→Prop):Out→Heap→Prop:=fun o H2=>
 match o with
 | .val _=>Jm l lo marks fr Q H2 (H2.get l)
 | _=>False
def UG(E:Env)(lo:Nat)(ps:List Nat)(asg body:IC)(fr:Fr)(Q:Out→Heap→Prop)(g:IV)(e:Nat×List Nat×Heap):Prop:=
 W E lo (.apply g [.yield e.2.2.n]) (e.2.2.new (.loop .ready none fr.tm ps asg body e.1)) (Qo e.2.2.n lo e.2.1 fr Q)
theorem Qn{l:Nat}{marks:List Nat}{v:IV}:Qo l lo marks fr Q (.val v) H=Jm l lo marks fr Q H (H.get l):=rfl
theorem Qm{l:Nat}{marks:List Nat}{st:LoopState}{pend:Option Jmp}{tm:List IV}{ps:List Nat}{asg body:IC}{df:Nat}:
  Jm l lo marks fr Q H (some (.loop st pend tm ps asg body df))=(st≠.busy∧lo≤l∧Q (.ex (E8 pend) {fr with marks:=marks++fr.marks}) (H.put l (.loop .exhausted pend tm ps asg body df))):=rfl
theorem Ru{f:IA}{ps:List Nat}{asg body:IC}{g:IV}{e:Nat×List Nat×Heap}(hg:f.eval E.g0 fr.tm=some g)(he:gE rd H=some e):W E lo (.code (.rfn f ps asg body) rd fr) H Q=UG E lo ps asg body fr Q g e:=by
 obtain⟨df,marks,H1⟩:=e;refine propext ⟨?_,?_⟩
 ·rintro⟨n,o,H',h,hq⟩
  cases n with
  | zero=>cases h
  | succ n=>
    rw[run] at h;simp only[hg,he] at h
    cases h1:run E n (.apply g [.yield H1.n]) lo (H1.new (.loop .ready none fr.tm ps asg body df)) with
    | none=>rw[h1] at h;cases h
    | some p=>
      rw[h1] at h;obtain⟨o1,H2⟩:=p;refine⟨n,o1,H2,h1,?_⟩
      cases o1 with
      | ex e fr=>cases h
      | val v=>
        simp only at h
        show Jm _ _ _ _ _ _ _
        cases h2:H2.get H1.n with
        | none=>rw[h2] at h;cases h
        | some ob=>
          rw[h2] at h
          cases ob with
          | loop st pend tm ps' asg' body' df'=>
            simp only at h;split at h
            ·cases h
            ·rename_i hn;refine⟨fun e=>hn (.inl e),Nat.le_of_not_lt fun e=>hn (.inr e),?_⟩
             cases pend with
             | none=>injection h with h;injection h with h3 h4;subst h3 h4;exact hq
             | some j=>injection h with h;injection h with h3 h4;subst h3 h4;exact hq
          | _=>cases h
 ·intro h;refine S4 hg he (h.mono fun o H2 h=>?_)
  cases o with
  | ex e fr=>exact h.elim
  | val v=>
    have h':Jm H1.n lo marks fr Q H2 (H2.get H1.n):=h
    cases h2:H2.get H1.n with
    | none=>rw[h2] at h';exact h'.elim
    | some ob=>
      rw[h2] at h'
      cases ob with
      | loop st pend tm ps' asg' body' df'=>exact⟨v,st,pend,tm,ps',asg',body',df',rfl,rfl,h'.1,h'.2.1,by cases pend<;>exact h'.2.2⟩
      | _=>exact h'.elim
theorem Rv{f:IA}{ps:List Nat}{asg body:IC}:W E lo (.code (.rfn f ps asg body) none fr) H Q=kz (f.eval E.g0 fr.tm) fun g=>
  W E lo (.apply g [.yield (H.n+1)]) ((H.new .deferred).new (.loop .ready none fr.tm ps asg body H.n)) (Qo (H.n+1) lo [H.n] fr Q):=by
 cases hg:f.eval E.g0 fr.tm with
 | none=>
   refine propext ⟨?_,fun h=>h.elim⟩;rintro⟨n,o,H',h,hq⟩
   cases n with
   | zero=>cases h
   | succ n=>rw[run] at h;simp only[hg] at h;cases h
 | some g=>exact Ru hg (e:=(H.n,[H.n],H.new .deferred)) rfl
def xm(l:Nat)(Q:Out→Heap→Prop)(e:Ex)(H:Heap)(ob:Option IObj):Prop:=
 match ob with
 | some (.loop _ _ tm ps asg body df)=>
   match e with
   | .normal=>Q (.val (.bool true)) (H.put l (.loop .ready none tm ps asg body df))
   | .jmp j=>Q (.val (.bool false)) (H.put l (.loop .done (some j) tm ps asg body df))
 | _=>False
def Iq(l:Nat)(Q:Out→Heap→Prop):Out→Heap→Prop:=fun o H=>
 match o with
 | .ex e _=>xm l Q e H (H.get l)
 | _=>False
def vw(E:Env)(lo l:Nat)(body:IC)(Q:Out→Heap→Prop)(fr:Fr)(H:Heap)(ob:Option IObj):Prop:=
 match ob with
 | some (.loop .ready pend tm ps asg body' df)=>W E lo (.code body (some l) fr) (H.put l (.loop .busy pend tm ps asg body' df)) (Iq l Q)
 | _=>False
def Dq(E:Env)(lo l:Nat)(body:IC)(Q:Out→Heap→Prop):Out→Heap→Prop:=fun o H=>
 match o with
 | .ex .normal fr=>vw E lo l body Q fr H (H.get l)
 | _=>False
def HP(E:Env)(lo l:Nat)(args:List IV)(Q:Out→Heap→Prop)(H:Heap)(ob:Option IObj):Prop:=
 match ob with
 | some (.loop _ _ tm ps asg body _)=>args.length=ps.length∧lo≤l∧W E lo (.code asg (some l) ⟨dQ tm ps args,[]⟩) H (Dq E lo l body Q)
 | _=>False
theorem Mq{l:Nat}{e:Ex}:Iq l Q (.ex e fr) H=xm l Q e H (H.get l):=rfl
theorem Mo{l:Nat}{st:LoopState}{pend:Option Jmp}{tm:List IV}{ps:List Nat}{asg body:IC}{df:Nat}:xm l Q .normal H (some (.loop st pend tm ps asg body df))=Q (.val (.bool true)) (H.put l (.loop .ready none tm ps asg body df)):=rfl
theorem Mp{l:Nat}{j:Jmp}{st:LoopState}{pend:Option Jmp}{tm:List IV}{ps:List Nat}{asg body:IC}{df:Nat}:xm l Q (.jmp j) H (some (.loop st pend tm ps asg body df))=Q (.val (.bool false)) (H.put l (.loop .done (some j) tm ps asg body df)):=rfl
theorem Jt{l:Nat}{body:IC}:Dq E lo l body Q (.ex .normal fr) H=vw E lo l body Q fr H (H.get l):=rfl
theorem Js{l:Nat}{body body':IC}{pend:Option Jmp}{tm:List IV}{ps:List Nat}{asg:IC}{df:Nat}:vw E lo l body Q fr H (some (.loop .ready pend tm ps asg body' df))=W E lo (.code body (some l) fr) (H.put l (.loop .busy pend tm ps asg body' df)) (Iq l Q):=rfl
theorem HO{l:Nat}{args:List IV}{st:LoopState}{pend:Option Jmp}{tm:List IV}{ps:List Nat}{asg body:IC}{df:Nat}:HP E lo l args Q H (some (.loop st pend tm ps asg body df))=(args.length=ps.length∧lo≤l∧W E lo (.code asg (some l) ⟨dQ tm ps args,[]⟩) H (Dq E lo l body Q)):=rfl
theorem CB{l:Nat}{args:List IV}:W E lo (.apply (.yield l) args) H Q=HP E lo l args Q H (H.get l):=by
 refine propext ⟨?_,?_⟩
 ·rintro⟨n,o,H',h,hq⟩
  cases n with
  | zero=>cases h
  | succ n=>
    rw[run] at h
    try simp only at h
    cases hg:H.get l with
    | none=>rw[hg] at h;cases h
    | some ob=>
      rw[hg] at h
      cases ob with
      | loop st pend tm ps asg body df=>
        simp only at h;split at h
        ·rename_i hl;refine⟨hl.1,hl.2,?_⟩
         cases h1:run E n (.code asg (some l) ⟨dQ tm ps args,[]⟩) lo H with
         | none=>rw[h1] at h;cases h
         | some p=>
           rw[h1] at h;obtain⟨o1,H1⟩:=p;refine⟨n,o1,H1,h1,?_⟩
           cases o1 with
           | val v=>cases h
           | ex e fr=>cases e with
             | jmp j=>cases h
             | normal=>
               simp only at h
               show vw _ _ _ _ _ _ _ _
               simp only[ig] at h
               cases hb:H1.get l with
               | none=>rw[hb] at h;cases h
               | some ob2=>
                 rw[hb] at h
                 cases ob2 with
                 | loop st2 pend2 tm2 ps2 asg2 body2 df2=>
                   cases st2 with
                   | ready=>
                     simp only at h
                     cases h2:run E n (.code body (some l) fr) lo (H1.put l (.loop .busy pend2 tm2 ps2 asg2 body2 df2)) with
                     | none=>rw[h2] at h;cases h
                     | some p=>
                       rw[h2] at h;obtain⟨o3,H3⟩:=p;refine⟨n,o3,H3,h2,?_⟩
                       cases o3 with
                       | val v=>cases h
                       | ex e fr3=>
                         simp only[xf] at h
                         show xm _ _ _ _ _
                         cases hc:H3.get l with
                         | none=>rw[hc] at h;cases h
                         | some ob3=>
                           rw[hc] at h
                           cases ob3 with
                           | loop st3 pend3 Ix ps3 asg3 body3 df3=>
                             cases e with
                             | normal=>injection h with h;injection h with h3 h4;subst h3 h4;exact hq
                             | jmp j=>injection h with h;injection h with h3 h4;subst h3 h4;exact hq
                           | _=>cases h
                   | _=>cases h
                 | _=>cases h
        ·cases h
      | _=>cases h
 ·intro h
  cases hg:H.get l with
  | none=>rw[hg] at h;exact h.elim
  | some ob=>
    rw[hg] at h
    cases ob with
    | loop st pend tm ps asg body df=>
      obtain⟨h1,h2,h3⟩:=h;refine NW hg h1 h2 (h3.mono fun o H1 h=>?_)
      cases o with
      | val v=>exact h.elim
      | ex e fr=>cases e with
        | jmp j=>exact h.elim
        | normal=>
          have h':vw E lo l body Q fr H1 (H1.get l):=h
          cases hb:H1.get l with
          | none=>rw[hb] at h';exact h'.elim
          | some ob2=>
            rw[hb] at h'
            cases ob2 with
            | loop st2 pend2 tm2 ps2 asg2 body2 df2=>
              cases st2 with
              | ready=>
                refine⟨fr,_,rfl,by simp only[ig,hb],W.mono h' fun o H3 h=>?_⟩
                cases o with
                | val v=>exact h.elim
                | ex e fr3=>
                  have h'':xm l Q e H3 (H3.get l):=h
                  cases hc:H3.get l with
                  | none=>rw[hc] at h'';exact h''.elim
                  | some ob3=>
                    rw[hc] at h''
                    cases ob3 with
                    | loop st3 pend3 Ix ps3 asg3 body3 df3=>
                      cases e with
                      | normal=>exact⟨_,_,(_,_),rfl,by simp only[xf,hc];rfl,h''⟩
                      | jmp j=>exact⟨_,_,(_,_),rfl,by simp only[xf,hc];rfl,h''⟩
                    | _=>exact h''.elim
              | _=>exact h'.elim
            | _=>exact h'.elim
    | _=>exact h.elim
def So(I:Nat→Fr→Heap→Prop)(k:Nat)(Q:Out→Heap→Prop):Out→Heap→Prop:=fun o H=>
 match o with
 | .ex .normal fr=>∃k',k' < k∧I k' fr H
 | o=>Q o H
theorem aM{c:IC}(I:Nat→Fr→Heap→Prop)(h:∀k fr H,I k fr H→∀L:Out→Heap→Prop,(∀k' fr H,k' < k→I k' fr H→L (.ex .normal fr) H)→(∀j fr H,L (.ex (.jmp j) fr) H=Q (.ex (.jmp j) fr) H)→W E lo (.code c rd fr) H L):∀(k:Nat) {fr:Fr} {H:Heap},I k fr H→W E lo (.code (.loop c) rd fr) H Q:=by
 intro k
 induction k using Nat.strongRecOn with
 | ind k ih=>
   intro fr H hi;rw[ij];refine(h k fr H hi (So I k Q) (fun k' fr H h1 h2=>⟨k',h1,h2⟩) (fun j fr H=>rfl)).mono fun o H' hc=>?_
   cases o with
   | val v=>exact hc
   | ex e fr'=>cases e with
     | jmp j=>exact hc
     | normal=>
       obtain⟨k',hk,hi'⟩:=hc;exact ih k' hk hi'
end
theorem Xe{a b:Nat}(h:b < a):(a=b)=False:=by simp;omega
theorem Xd{a b:Nat}(h:a < b):(a=b)=False:=by simp;omega
theorem cLe{a b:Nat}(h:a≤b):(a≤b)=True:=by simp[h]
theorem Xc{a b:Nat}(h:b < a):(a≤b)=False:=by simp;omega
theorem cLt{a b:Nat}(h:a < b):(a < b)=True:=by simp[h]
theorem Xb{a b:Nat}(h:b≤a):(a < b)=False:=by simp;omega
theorem iLe{a b:Int}(h:a≤b):(a≤b)=True:=by simp[h]
theorem WM{a b:Int}(h:b < a):(a≤b)=False:=by simp;omega
theorem iLt{a b:Int}(h:a < b):(a < b)=True:=by simp[h]
theorem WL{a b:Int}(h:b≤a):(a < b)=False:=by simp;omega
theorem iGe{a b:Int}(h:a≥b):(a≥b)=True:=by simp;omega
theorem WO{a b:Int}(h:a < b):(a≥b)=False:=by simp;omega
theorem iGt{a b:Int}(h:a>b):(a>b)=True:=by simp;omega
theorem WN{a b:Int}(h:a≤b):(a>b)=False:=by simp;omega
theorem WQ{a b:Int}(h:a=b):(a==b)=true:=by simp[h]
theorem Sz{a b:Int}(h:a < b∨b < a):(a==b)=false:=by simp;omega
theorem WP{a b:Int}(h:a < b∨b < a):(a !=b)=true:=by simp;omega
theorem Sy{a b:Int}(h:a=b):(a !=b)=false:=by simp[h]
theorem Uz{a:Int}(h: -9223372036854775808≤a∧a≤9223372036854775807):IntKind.i64.wrap a=a:=IntWalk.i64_in a (by omega)
theorem Zu{a:Int}(h:0≤a∧a≤255):IntKind.u8.wrap a=a:=IntWalk.u8_in a h
theorem Ec{l:List IV}:(IV.agg l).cells=l:=rfl
theorem Eb{k:IntKind}{n:Int}:(IV.int k n).cells=[.int k n]:=rfl
theorem Cs{b:Bool}:(IV.bool b).cells=[.bool b]:=rfl
theorem D8{s:List UInt8}:(IV.str s).cells=[.str s]:=rfl
theorem D9{b o:Nat}:(IV.ptr b o).cells=[.ptr b o]:=rfl
theorem xh:IV.nilPtr.cells=[.nilPtr]:=rfl
theorem Au{b o n c:Nat}{ex:Bool}:(IV.slice b o n c ex).cells=[.slice b o n c ex]:=rfl
theorem tw:IV.nilSlice.cells=[.nilSlice]:=rfl
theorem Ea{b:Nat}:(IV.map b).cells=[.map b]:=rfl
theorem xi:IV.nilMap.cells=[.nilMap]:=rfl
theorem Hm{f:FuncId}{a b:List IV}:(IV.fn f a b).cells=[.fn f a b]:=rfl
theorem At{b:Nat}:(IV.yield b).cells=[.yield b]:=rfl
theorem wD:IV.nilFunc.cells=[.nilFunc]:=rfl
theorem Av{t:TypeId}{v:IV}:(IV.iface t v).cells=[.iface t v]:=rfl
theorem tz:IV.nilIface.cells=[.nilIface]:=rfl
theorem vE{k:IntKind}{n:Int}:(IV.int k n).one=true:=rfl
theorem rQ{b:Bool}:(IV.bool b).one=true:=rfl
theorem JG{s:List UInt8}:(IV.str s).one=true:=rfl
theorem JH{b o:Nat}:(IV.ptr b o).one=true:=rfl
theorem Bs:IV.nilPtr.one=true:=rfl
theorem DA{b o n c:Nat}{ex:Bool}:(IV.slice b o n c ex).one=true:=rfl
theorem wY:IV.nilSlice.one=true:=rfl
theorem JI{b:Nat}:(IV.map b).one=true:=rfl
theorem Bt:IV.nilMap.one=true:=rfl
theorem M9{f:FuncId}{a b:List IV}:(IV.fn f a b).one=true:=rfl
theorem Dz{b:Nat}:(IV.yield b).one=true:=rfl
theorem zI:IV.nilFunc.one=true:=rfl
theorem DB{t:TypeId}{v:IV}:(IV.iface t v).one=true:=rfl
theorem wZ:IV.nilIface.one=true:=rfl
def Jw(ob:IObj)(o n:Nat):Option (List IV):=
 match ob with
 | .cells _ _ _ cs=>if o+n≤cs.length then some ((cs.drop o).take n) else none
 | _=>none
theorem MX{ro:Bool}{e ez:Nat}{cs:List IV}{o n:Nat}:Jw (.cells ro e ez cs) o n=if o+n≤cs.length then some ((cs.drop o).take n) else none:=rfl
theorem Jv{H:Heap}{ob:IObj}{b o n:Nat}:(H.new ob).read b o n=if H.n=b then Jw ob o n else H.read b o n:=by
 unfold Heap.read;rw[aj];by_cases h:H.n=b
 ·simp only[h,if_true];cases ob<;>rfl
 ·simp[h]
theorem Ju{H:Heap}{ob:IObj}{b' b o n:Nat}:(H.put b' ob).read b o n=if b'=b then Jw ob o n else H.read b o n:=by
 unfold Heap.read;rw[aa];by_cases h:b'=b
 ·simp only[h,if_true];cases ob<;>rfl
 ·simp[h]
theorem ae{H:Heap}{ro:Bool}{e ez:Nat}{cs:List IV}{b:Nat}(h:H.get b=some (.cells ro e ez cs))(o n:Nat):H.read b o n=if o+n≤cs.length then some ((cs.drop o).take n) else none:=by
 unfold Heap.read;rw[h]
theorem E5{H H':Heap}{b:Nat}(h:H'.get b=H.get b)(o n:Nat):H'.read b o n=H.read b o n:=by
 unfold Heap.read;rw[h]
theorem Keep.read{lo:Nat}{H H':Heap}(k:Keep lo H H')(b o n:Nat)(h1:b < lo)(h2:b < H.n):H'.read b o n=H.read b o n:=E5 (k.2 b h1 h2) o n
inductive SV where
 | nil
 | sl (b o n c:Nat) (ex:Bool)
 deriving Inhabited
def SV.iv:SV→IV
 | .nil=>.nilSlice
 | .sl b o n c ex=>.slice b o n c ex
def SV.blk:SV→Nat
 | .nil=>0
 | .sl b _ _ _ _=>b
def SV.off:SV→Nat
 | .nil=>0
 | .sl _ o _ _ _=>o
def SV.tight:SV→Prop
 | .nil=>True
 | .sl _ _ n c ex=>c=n∧ex=true
theorem oZ(v:SV):v.iv.one=true:=by cases v<;>rfl
theorem CG(v:SV):v.iv.cells=[v.iv]:=by cases v<;>rfl
theorem yt:SV.nil.iv=.nilSlice:=rfl
theorem iN{b o n c:Nat}{ex:Bool}:(SV.sl b o n c ex).iv=.slice b o n c ex:=rfl
class Cell (α:Type) where
 z:Nat
 cs:α→List IV
 len:∀a,(cs a).length=z
 one:∀a,(cs a).all IV.one=true
 pos:0 < z
instance:Cell SV where
 z:=1
 cs v:=[v.iv]
 len _:=rfl
 one v:=by simp[oZ]
 pos:=by omega
theorem qW(v:SV):Cell.cs v=[v.iv]:=rfl
theorem mD:Cell.z SV=1:=rfl
theorem fj{b o n c:Nat}{ex:Bool}:(SV.sl b o n c ex).blk=b:=rfl
theorem jg{b o n c:Nat}{ex:Bool}:(SV.sl b o n c ex).off=o:=rfl
section
variable {α:Type}[Cell α]
def aB(l:List α):List IV:=l.flatMap Cell.cs
theorem cW(a:α)(l:List α):aB (a::l)=Cell.cs a++aB l:=rfl
theorem bY(a b:List α):aB (a++b)=aB a++aB b:=by simp[aB]
theorem BW(a:α):aB [a]=Cell.cs a:=by simp[aB]
theorem ao(l:List α):(aB l).length=l.length*Cell.z α:=by
 induction l with
 | nil=>simp[aB]
 | cons p l ih=>rw[cW,List.length_append,ih,Cell.len,List.length_cons,Nat.succ_mul];omega
theorem gD(l:List α):(aB l).all IV.one=true:=by
 induction l with
 | nil=>rfl
 | cons p l ih=>rw[cW,List.all_append,ih,Cell.one];rfl
theorem oS(l:List α)(k:Nat):(aB l).drop (k*Cell.z α)=aB (l.drop k):=by
 induction l generalizing k with
 | nil=>simp[aB]
 | cons p l ih=>
   cases k with
   | zero=>simp
   | succ k=>rw[cW,List.drop_succ_cons,Nat.succ_mul,Nat.add_comm,←Cell.len p,List.drop_length_add_append,Cell.len,ih]
theorem xV(l:List α)(k:Nat):(aB l).take (k*Cell.z α)=aB (l.take k):=by
 induction l generalizing k with
 | nil=>simp[aB]
 | cons p l ih=>
   cases k with
   | zero=>simp[aB]
   | succ k=>rw[cW,List.take_succ_cons,cW,Nat.succ_mul,Nat.add_comm,←Cell.len p,List.take_length_add_append,Cell.len,ih]
theorem NC(l:List α)(i:Nat)(h:i < l.length):((aB l).drop (i*Cell.z α)).take (Cell.z α)=Cell.cs l[i]:=by
 rw[oS,List.drop_eq_getElem_cons h,cW,←Cell.len l[i],List.take_left]
theorem ew{H:Heap}{b o n a m:Nat}{cs:List IV}(h:H.read b o n=some cs)(ha:a+m≤n):H.read b (o+a) m=some ((cs.drop a).take m):=by
 unfold Heap.read at h⊢
 cases hg:H.get b with
 | none=>rw[hg] at h;cases h
 | some ob=>
   rw[hg] at h
   cases ob with
   | cells ro e ez cs0=>
     simp only at h⊢;split at h
     ·injection h with h;rw[if_pos (by omega),←h,List.drop_take,List.take_take,List.drop_drop,show min m (n - a)=m from by omega]
     ·cases h
   | _=>cases h
def Sl(H:Heap)(v:SV)(l:List α):Prop:=
 match v with
 | .nil=>l=[]
 | .sl b o n c _=>n=l.length∧n≤c∧(l≠[]→b < H.n∧H.read b o (l.length*Cell.z α)=some (aB l))
theorem Sl.keep{H H':Heap}{v:SV}{l:List α}(h:Sl H v l)(k:Keep H.n H H'):Sl H' v l:=by
 cases v with
 | nil=>exact h
 | sl b o n c ex=>exact⟨h.1,h.2.1,fun hl=>⟨Nat.lt_of_lt_of_le (h.2.2 hl).1 k.1,(k.read b o _ (h.2.2 hl).1 (h.2.2 hl).1).trans (h.2.2 hl).2⟩⟩
theorem Sl.same{H H':Heap}{v:SV}{l:List α}(h:Sl H v l)(hn:H.n≤H'.n)(hg:l≠[]→H'.get v.blk=H.get v.blk):Sl H' v l:=by
 cases v with
 | nil=>exact h
 | sl b o n c ex=>exact⟨h.1,h.2.1,fun hl=>⟨Nat.lt_of_lt_of_le (h.2.2 hl).1 hn,(E5 (hg hl) o _).trans (h.2.2 hl).2⟩⟩
theorem Sl.blk_lt{H:Heap}{v:SV}{l:List α}(h:Sl H v l)(hl:l≠[]):v.blk < H.n:=by
 cases v with
 | nil=>exact absurd h hl
 | sl b o n c ex=>exact(h.2.2 hl).1
theorem Sl.blk_lt'{H:Heap}{v:SV}{l:List α}(h:Sl H v l){i:Nat}(hl:i < l.length):v.blk < H.n:=h.blk_lt (by intro e;rw[e] at hl;simp at hl)
theorem Sl.empty{H:Heap}:Sl H .nil ([]:List α):=rfl
theorem Sl.ln{H:Heap}{v:SV}{l:List α}(h:Sl H v l)(lo:Nat)(H':Heap):ev1 .lenSl [v.iv] lo H'=some (.int .i64 l.length,H'):=by
 cases v with
 | nil=>have h:l=[]:=h;subst h;rfl
 | sl b o n c ex=>rw[←h.1];rfl
theorem Sl.lenI{H:Heap}{v:SV}{l:List α}(h:Sl H v l):i4 v.iv=some l.length:=by
 cases v with
 | nil=>have h:l=[]:=h;subst h;rfl
 | sl b o n c ex=>rw[←h.1];rfl
theorem Sl.srcI{H:Heap}{v:SV}{l:List α}(h:Sl H v l){z:Nat}(hz:Cell.z α=z):eq H z l.length v.iv=some (aB l):=by
 subst hz
 cases v with
 | nil=>have h:l=[]:=h;subst h;rfl
 | sl b o n c ex=>
   show(if l.length=0 then some [] else H.read b o (l.length*Cell.z α))=_
   by_cases hl:l=[]
   ·subst hl;rfl
   ·rw[if_neg (by intro e;exact hl (List.length_eq_zero_iff.1 e))];exact(h.2.2 hl).2
theorem Sl.idx{H:Heap}{v:SV}{l:List α}(h:Sl H v l)(z:Nat)(x:Int)(lo:Nat)(H':Heap)(h0:0≤x)(h1:x < l.length):ev1 (.idxSl z) [v.iv,.int .i64 x] lo H'=some (.ptr v.blk (v.off+x.toNat*z),H'):=by
 cases v with
 | nil=>have h:l=[]:=h;subst h;simp at h1;omega
 | sl b o n c ex=>
   have hn:=h.1;simp only[ev1,SV.iv,SV.blk,SV.off];rw[if_pos ⟨h0,by omega⟩]
theorem Sl.read{H:Heap}{v:SV}{l:List α}(h:Sl H v l){z:Nat}(hz:Cell.z α=z)(i:Nat)(hi:i < l.length):H.read v.blk (v.off+i*z) z=some (Cell.cs l[i]):=by
 subst hz;have hl:l≠[]:=by intro e;rw[e] at hi;simp at hi
 cases v with
 | nil=>exact absurd h hl
 | sl b o n c ex=>
   have:=ew (a:=i*Cell.z α) (m:=Cell.z α) (h.2.2 hl).2 (by rw[←Nat.succ_mul];exact Nat.mul_le_mul_right _ hi)
   rw[NC l i hi] at this;exact this
theorem Sl.part{H:Heap}{b o n c:Nat}{ex:Bool}{l:List α}(h:Sl H (.sl b o n c ex) l){z:Nat}(hz:Cell.z α=z){a m c':Nat}{ex':Bool}(hm:a+m≤l.length)(hc:m≤c'):Sl H (.sl b (o+a*z) m c' ex') ((l.drop a).take m):=by
 subst hz;have hlen:((l.drop a).take m).length=m:=by rw[List.length_take,List.length_drop];omega
 refine⟨hlen.symm,hc,fun hl=>?_⟩
 have hl':l≠[]:=by intro e;rw[e] at hl;simp at hl
 refine⟨(h.2.2 hl').1,?_⟩
 have:=ew (a:=a*Cell.z α) (m:=m*Cell.z α) (h.2.2 hl').2 (by rw[←Nat.add_mul];exact Nat.mul_le_mul_right _ hm)
 rw[oS,xV] at this;rw[hlen];exact this
theorem vv(n:Nat)(a:α):iU n (Cell.cs a)=aB (List.replicate n a):=by
 induction n with
 | zero=>rfl
 | succ n ih=>rw[iU,ih,List.replicate_succ,cW]
theorem BV(l:List α)(i:Nat)(a:α)(h:i < l.length):ar (aB l) (i*Cell.z α) (Cell.cs a)=aB (l.set i a):=by
 have hb:i*Cell.z α+Cell.z α≤(aB l).length:=by rw[ao,←Nat.succ_mul];exact Nat.mul_le_mul_right _ h
 rw[bM _ _ _ (by rw[Cell.len];exact hb),xV,Cell.len,←Nat.succ_mul,oS,List.set_eq_take_append_cons_drop,if_pos h];rw[bY,cW,List.append_assoc]
theorem bL(tm:List IV)(n:Nat)(h:tm.length=n):tm=(List.range n).map fun i=>tm.getD i IV.undef:=by
 subst h;apply List.ext_getElem
 ·simp
 ·intro i h1 h2;simp[List.getD_eq_getElem?_getD,h1]
def Own(H:Heap)(b e cap:Nat)(l:List α):Prop:=l.length≤cap∧b < H.n∧∃r,H.get b=some (.cells false e (Cell.z α) (aB l++r))∧r.length=(cap - l.length)*Cell.z α
theorem Own.sl{H:Heap}{b e cap:Nat}{l:List α}(h:Own H b e cap l)(ex:Bool):Sl H (.sl b 0 l.length cap ex) l:=by
 obtain⟨h1,h2,r,h3,h4⟩:=h;refine⟨rfl,h1,fun _=>⟨h2,?_⟩⟩;rw[ae h3,Nat.zero_add,if_pos (by rw[List.length_append,ao];omega),List.drop_zero,←ao,List.take_left]
theorem Own.same{H H':Heap}{b e cap:Nat}{l:List α}(h:Own H b e cap l)(hn:H.n≤H'.n)(hg:H'.get b=H.get b):Own H' b e cap l:=by
 obtain⟨h1,h2,r,h3,h4⟩:=h;exact⟨h1,Nat.lt_of_lt_of_le h2 hn,r,hg.trans h3,h4⟩
theorem Own.keep{H H':Heap}{b e cap:Nat}{l:List α}(h:Own H b e cap l)(k:Keep H.n H H'):Own H' b e cap l:=h.same k.1 (k.2 b h.2.1 h.2.1)
theorem Own.full{H:Heap}{b e:Nat}{l:List α}(h:Own H b e l.length l):H.get b=some (.cells false e (Cell.z α) (aB l)):=by
 obtain⟨h1,h2,r,h3,h4⟩:=h;rw[Nat.sub_self,Nat.zero_mul] at h4;rw[h3,List.length_eq_zero_iff.1 h4,List.append_nil]
theorem Own.mk'{H:Heap}{b e:Nat}{l:List α}(hb:b < H.n){z:Nat}(hz:Cell.z α=z){cs:List IV}(hg:H.get b=some (.cells false e z cs))(hc:cs=aB l):Own H b e l.length l:=by
 subst hz hc;exact⟨Nat.le_refl _,hb,[],by rw[hg,List.append_nil],by simp⟩
theorem Own.mksl{H:Heap}{e n:Nat}{z:Nat}(hz:Cell.z α=z)(a:α):Own (H.new (.cells false e z (iU n (Cell.cs a)))) H.n e n (List.replicate n a):=by
 subst hz;refine⟨by simp,by rw[ac];omega,[],by rw[aj,if_pos rfl,List.append_nil,vv],by simp⟩
theorem yu{H:Heap}{e n:Nat}{z:Nat}(hz:Cell.z α=z){cs:List IV}(hc:cs.length=n*z):Own (H.new (.cells false e z cs)) H.n e n ([]:List α):=by
 subst hz;exact⟨by simp,by rw[ac];omega,cs,by rw[aj,if_pos rfl];rfl,by simp[hc]⟩
theorem Own.set{H:Heap}{b e cap:Nat}{l:List α}(h:Own H b e cap l){z:Nat}(hz:Cell.z α=z)(i:Nat)(hi:i < l.length)(a:α)(lo:Nat)(hlo:lo≤b):∃cs,H.write lo b (i*z) (Cell.cs a)=some (H.put b (.cells false e z cs))∧Own (H.put b (.cells false e z cs)) b e cap (l.set i a):=by
 subst hz;obtain⟨h1,h2,r,h3,h4⟩:=h;have hfl:=ao l;have hb:i*Cell.z α+Cell.z α≤l.length*Cell.z α:=by rw[←Nat.succ_mul];exact Nat.mul_le_mul_right _ hi
 refine⟨ar (aB l++r) (i*Cell.z α) (Cell.cs a),?_,?_⟩
 ·unfold Heap.write;rw[h3];simp only;rw[if_pos ⟨hlo,by rw[Cell.len,List.length_append];omega,Cell.one a⟩]
 ·refine⟨by simp[h1],h2,r,?_,by simp[h4]⟩
  rw[aa,if_pos rfl,←BV l i a hi,bM _ _ _ (by rw[Cell.len,List.length_append];omega),bM _ _ _ (by rw[Cell.len];omega),Cell.len];rw[List.take_append_of_le_length (by omega),List.drop_append_of_le_length (by omega)];simp only[List.append_assoc]
theorem Own.push{H:Heap}{b e cap:Nat}{l m:List α}(h:Own H b e cap l){z:Nat}(hz:Cell.z α=z)(hc:l.length+m.length≤cap)(lo:Nat)(hlo:lo≤b):∃cs,H.write lo b (l.length*z) (aB m)=some (H.put b (.cells false e z cs))∧Own (H.put b (.cells false e z cs)) b e cap (l++m):=by
 subst hz;obtain⟨h1,h2,r,h3,h4⟩:=h;have hfl:=ao l;have hfm:=ao m;have hr:(aB m).length≤r.length:=by rw[hfm,h4];exact Nat.mul_le_mul_right _ (by omega)
 refine⟨ar (aB l++r) (l.length*Cell.z α) (aB m),?_,?_⟩
 ·unfold Heap.write;rw[h3];simp only;rw[if_pos ⟨hlo,by rw[List.length_append];omega,gD m⟩]
 ·refine⟨by simp;omega,h2,r.drop (aB m).length,?_,?_⟩
  ·rw[aa,if_pos rfl,bM _ _ _ (by rw[List.length_append];omega),bY,←hfl,List.take_left,List.drop_length_add_append]
  ·rw[List.length_drop,h4,hfm,List.length_append,←Nat.sub_mul];congr 1;omega
end
section
variable {α:Type}[Cell α]
theorem Keep.newPut{H:Heap}{o o':IObj}:Keep H.n H ((H.new o).put H.n o'):=(Keep.new _ _).trans (.put _ _ (Nat.le_refl _))
theorem gI{H:Heap}{v:SV}{l:List α}(hv:Sl H v l){z:Nat}(hz:Cell.z α=z)(e lo:Nat)(zs:List IV)(hzs:zs.length=z)(hlo:lo≤H.n):
  ∃H2,ev1 (.copy z) [.slice H.n 0 l.length l.length true,v.iv] lo (H.new (.cells false e z (iU l.length zs)))=some (.int .i64 l.length,H2)∧H2.n=H.n+1∧Keep H.n H H2∧Own H2 H.n e l.length l:=by
 subst hz;have hv':=hv.keep (H':=H.new (.cells false e (Cell.z α) (iU l.length zs))) (Keep.new _ _);have h1:jG (.slice H.n 0 l.length l.length true)=some l.length:=rfl;by_cases h0:l=[]
 ·subst h0;refine⟨H.new (.cells false e (Cell.z α) []),?_,ac _ _,Keep.new _ _,Own.mk' (l:=[]) (cs:=[]) (by rw[ac];omega) rfl (by rw[aj,if_pos rfl]) rfl⟩;simp only[ev1,h1,hv.lenI];rfl
 ·have hpos:0 < l.length:=List.length_pos_iff.2 h0;refine⟨(H.new (.cells false e (Cell.z α) (iU l.length zs))).put H.n (.cells false e (Cell.z α) (aB l)),?_,by rw[af,ac],Keep.newPut,Own.mk' (by rw[af,ac];omega) rfl (by rw[aa,if_pos rfl]) rfl⟩;simp only[ev1,h1,hv.lenI];rw[Nat.min_self,if_neg (by omega),hv'.srcI rfl];simp only[Option.bind_some,Heap.write];rw[aj,if_pos rfl];simp only;have hr:(iU l.length zs).length=(aB l).length:=by rw[gX,hzs,ao]
  rw[if_pos ⟨hlo,by omega,gD l⟩,bM _ _ _ (by omega)];simp only[List.take_zero,List.nil_append,Nat.zero_add];rw[←hr,List.drop_length,List.append_nil];rfl
theorem Own.put{H:Heap}{b e:Nat}{l:List α}(h:Own H b e l.length l){z:Nat}(hz:Cell.z α=z)(i:Nat)(hi:i < l.length)(a:α):Own (H.put b (.cells false e z (ar (aB l) (i*z) (Cell.cs a)))) b e l.length (l.set i a):=by
 subst hz;rw[BV l i a hi]
 have:=Own.mk' (H:=H.put b (.cells false e (Cell.z α) (aB (l.set i a)))) (l:=l.set i a) (b:=b) (e:=e) h.2.1 rfl (by rw[aa,if_pos rfl]) rfl
 rw[List.length_set] at this;exact this
theorem KP{H:Heap}{b e n:Nat}{ex:Bool}{d l:List α}{v:SV}(ho:Own H b e n d)(hd:d.length=n)(hv:Sl H v l){z:Nat}(hz:Cell.z α=z)(lo:Nat)(hl:l.length≤n)(hlo:lo≤b):
  ∃H2,ev1 (.copy z) [.slice b 0 n n ex,v.iv] lo H=some (.int .i64 l.length,H2)∧H2.n=H.n∧(∀x,x≠b→H2.get x=H.get x)∧Own H2 b e n (l++d.drop l.length):=by
 subst hz hd;have h1:jG (.slice b 0 d.length d.length ex)=some d.length:=rfl;have hf:=ho.full;by_cases h0:l=[]
 ·subst h0;refine⟨H,?_,rfl,fun _ _=>rfl,by simpa using ho⟩;simp only[ev1,h1,hv.lenI];rw[if_pos (by simp)];rfl
 ·have hpos:0 < l.length:=List.length_pos_iff.2 h0;have hfl:=ao l;have hfd:=ao d;have hle:(aB l).length≤(aB d).length:=by rw[hfl,hfd];exact Nat.mul_le_mul_right _ hl
  refine⟨H.put b (.cells false e (Cell.z α) (aB (l++d.drop l.length))),?_,af _ _ _,fun x hx=>by rw[aa,if_neg (Ne.symm hx)],?_⟩
  ·simp only[ev1,h1,hv.lenI];rw[Nat.min_eq_left hl,if_neg (by omega),hv.srcI rfl];simp only[Option.bind_some,Heap.write,hf];rw[if_pos ⟨hlo,by omega,gD l⟩,bM _ _ _ (by omega)];simp only[List.take_zero,List.nil_append,Nat.zero_add];rw[hfl,oS,←bY];rfl
  ·have hlen:(l++d.drop l.length).length=d.length:=by rw[List.length_append,List.length_drop];omega
   have:=Own.mk' (H:=H.put b (.cells false e (Cell.z α) (aB (l++d.drop l.length)))) (l:=l++d.drop l.length) (b:=b) (e:=e) ho.2.1 rfl (by rw[aa,if_pos rfl]) rfl
   rw[hlen] at this;exact this
theorem ca{H:Heap}{b e cap:Nat}{ex:Bool}{l m:List α}{v:SV}(ho:Own H b e cap l)(hv:Sl H v m){z:Nat}(hz:Cell.z α=z)(bytes lo:Nat)(hr:l.length+m.length≤cap)(hlo:lo≤b):
  ∃H2,ev1 (.append e z bytes) [.slice b 0 l.length cap ex,v.iv] lo H=some (.slice b 0 (l.length+m.length) cap ex,H2)∧H2.n=H.n∧(∀b',b'≠b→H2.get b'=H.get b')∧Own H2 b e cap (l++m):=by
 simp only[ev1,hv.lenI,hv.srcI hz,Option.bind_some,bF];rw[if_neg (by rw[gD];decide)];by_cases h0:m=[]
 ·subst h0;exact⟨H,by simp,rfl,fun _ _=>rfl,by rw[List.append_nil];exact ho⟩
 ·have hpos:0 < m.length:=List.length_pos_iff.2 h0;obtain⟨cs,hw,ho'⟩:=ho.push hz hr lo hlo;refine⟨_,?_,af _ _ _,fun b' hb=>by rw[aa,if_neg (Ne.symm hb)],ho'⟩;rw[if_neg (by omega),if_pos hr,Nat.zero_add,hw];rfl
theorem nY{H:Heap}{b e n:Nat}{l m:List α}{v:SV}(ho:Own H b e n l)(hn:n=l.length)(hv:Sl H v m){z:Nat}(hz:Cell.z α=z)(bytes lo:Nat)(hm:m≠[])(hb:(l.length+m.length)*(bytes+1)≤2^40)(hlo:lo≤b):
  ∃H2,ev1 (.append e z bytes) [.slice b 0 l.length n false,v.iv] lo H=some (.slice H.n 0 (l.length+m.length) (l.length+m.length) false,H2)∧H2.n=H.n+1∧(∀b',b'≠b→b' < H.n→H2.get b'=H.get b')∧Own H2 H.n e (l.length+m.length) (l++m):=by
 subst hn hz;have hpos:0 < m.length:=List.length_pos_iff.2 hm;have hf:=ho.full;simp only[ev1,hv.lenI,hv.srcI rfl,Option.bind_some,bF];rw[if_neg (by rw[gD];decide)];rw[if_neg (by omega),if_neg (by omega),if_pos hb,hf];simp only[Bool.false_eq_true,if_false];have hfl:=ao l;rw[if_pos ⟨trivial,trivial,Cell.pos,trivial,hlo,by omega⟩];refine⟨_,rfl,by rw[ac,af],fun b' h1 h2=>by rw[aj,if_neg (by rw[af];omega),aa,if_neg (Ne.symm h1)],?_⟩;rw[←hfl,List.take_length,←bY,←List.length_append];exact Own.mk' (by rw[ac,af];omega) rfl (by rw[aj,if_pos (af _ _ _)]) rfl
theorem wG{H:Heap}{e:Nat}{m:List α}{v:SV}(hv:Sl H v m){z:Nat}(hz:Cell.z α=z)(bytes lo:Nat)(hm:m≠[])(hb:m.length*(bytes+1)≤2^40):
  ∃H2,ev1 (.append e z bytes) [.nilSlice,v.iv] lo H=some (.slice H.n 0 m.length m.length false,H2)∧H2.n=H.n+1∧Keep H.n H H2∧Own H2 H.n e m.length m:=by
 subst hz;have hpos:0 < m.length:=List.length_pos_iff.2 hm;simp only[ev1,hv.lenI,hv.srcI rfl,Option.bind_some,bF];rw[if_neg (by rw[gD];decide)];rw[if_neg (by omega),if_pos hb];exact⟨_,rfl,ac _ _,Keep.new _ _,Own.mk' (by rw[ac];omega) rfl (by rw[aj,if_pos rfl]) rfl⟩
theorem ki{H:Heap}{b o n e:Nat}{l m:List α}{v:SV}(hs:Sl H (.sl b o l.length n true) l)(hv:Sl H v m){z:Nat}(hz:Cell.z α=z)(bytes lo:Nat)(hm:m≠[])(hn:n < l.length+m.length)(hb:(l.length+m.length)*(bytes+1)≤2^40):
  ∃H2,ev1 (.append e z bytes) [.slice b o l.length n true,v.iv] lo H=some (.slice H.n 0 (l.length+m.length) (l.length+m.length) false,H2)∧H2.n=H.n+1∧Keep H.n H H2∧Own H2 H.n e (l.length+m.length) (l++m):=by
 subst hz;have hpos:0 < m.length:=List.length_pos_iff.2 hm;have hsrc:=hs.srcI rfl;simp only[SV.iv] at hsrc;simp only[ev1,hv.lenI,hv.srcI rfl,Option.bind_some,bF];rw[if_neg (by rw[gD];decide)];rw[if_neg (by omega),if_neg (by omega),if_pos hb,if_pos trivial,hsrc];refine⟨_,rfl,ac _ _,Keep.new _ _,?_⟩;rw[←bY,←List.length_append];exact Own.mk' (by rw[ac];omega) rfl (by rw[aj,if_pos rfl]) rfl
end
section
variable {α:Type}[Cell α]
def Sl2(H:Heap)(v:SV)(ls:List (List α)):Prop:=∃vs:List SV,Sl H v vs∧vs.length=ls.length∧∀(i:Nat) (h:i < ls.length) (h':i < vs.length),Sl H vs[i] ls[i]
theorem Sl2.keep{H H':Heap}{v:SV}{ls:List (List α)}(h:Sl2 H v ls)(k:Keep H.n H H'):Sl2 H' v ls:=by
 obtain⟨vs,h1,h2,h3⟩:=h;exact⟨vs,h1.keep k,h2,fun i a b=>(h3 i a b).keep k⟩
theorem Sl2.ln{H:Heap}{v:SV}{ls:List (List α)}(h:Sl2 H v ls)(lo:Nat)(H':Heap):ev1 .lenSl [v.iv] lo H'=some (.int .i64 ls.length,H'):=by
 obtain⟨vs,h1,h2,h3⟩:=h;rw[h1.ln,h2]
theorem Sl2.idx{H:Heap}{v:SV}{ls:List (List α)}(h:Sl2 H v ls)(z:Nat)(x:Int)(lo:Nat)(H':Heap)(h0:0≤x)(h1:x < ls.length):ev1 (.idxSl z) [v.iv,.int .i64 x] lo H'=some (.ptr v.blk (v.off+x.toNat*z),H'):=by
 obtain⟨vs,g1,g2,g3⟩:=h;exact g1.idx z x lo H' h0 (by omega)
theorem Sl2.elem{H:Heap}{v:SV}{ls:List (List α)}(h:Sl2 H v ls)(i:Nat)(hi:i < ls.length):∃w:SV,H.read v.blk (v.off+i*1) 1=some [w.iv]∧Sl H w ls[i]∧v.blk < H.n:=by
 obtain⟨vs,g1,g2,g3⟩:=h;exact⟨vs[i]'(by omega),g1.read (α:=SV) rfl i (by omega),g3 i hi (by omega),g1.blk_lt' (i:=i) (by omega)⟩
theorem Sl2.nil{H:Heap}:Sl2 H .nil ([]:List (List α)):=⟨[],rfl,rfl,fun i h=>by simp at h⟩
def Fresh(n0:Nat)(H:Heap)(e:Nat)(v:SV)(l:List α):Prop:=(v=.nil∧l=[])∨∃b,v=.sl b 0 l.length l.length true∧n0≤b∧Own H b e l.length l
theorem Fresh.sl{n0:Nat}{H:Heap}{e:Nat}{v:SV}{l:List α}(h:Fresh n0 H e v l):Sl H v l:=by
 rcases h with⟨rfl,rfl⟩ | ⟨b,rfl,h1,h2⟩
 ·exact Sl.empty
 ·exact h2.sl true
theorem Fresh.keep{n0:Nat}{H H':Heap}{e:Nat}{v:SV}{l:List α}(h:Fresh n0 H e v l)(k:Keep H.n H H'):Fresh n0 H' e v l:=by
 rcases h with⟨rfl,rfl⟩ | ⟨b,rfl,h1,h2⟩
 ·exact .inl ⟨rfl,rfl⟩
 ·exact .inr ⟨b,rfl,h1,h2.keep k⟩
end
theorem Sl.cellsAt{α:Type}[Cell α]{H:Heap}{v:SV}{l:List α}(h:Sl H v l)(hl:l≠[]):∃ro e ez cs,H.get v.blk=some (.cells ro e ez cs):=by
 cases v with
 | nil=>exact absurd h hl
 | sl b o n c ex=>
   have hr:=(h.2.2 hl).2;unfold Heap.read at hr
   show ∃ro e ez cs,H.get b=_
   cases hg:H.get b with
   | none=>rw[hg] at hr;cases hr
   | some ob=>
     rw[hg] at hr
     cases ob with
     | cells ro e ez cs=>exact⟨_,_,_,_,rfl⟩
     | _=>cases hr
theorem Sl.off{α:Type}[Cell α]{H:Heap}{v:SV}{l:List α}(h:Sl H v l)(hl:l≠[]){x:Nat}{ob:IObj}(hx:H.get x=some ob)(hob:∀ro e ez cs,ob≠.cells ro e ez cs):v.blk≠x:=by
 intro e;obtain⟨ro,a,b,c,hc⟩:=h.cellsAt hl;rw[e,hx] at hc;injection hc with hc;exact hob _ _ _ _ hc
def aQ{α:Type}:List (List α)→Nat
 | []=>0
 | a::l=>if aQ l=0∧a=[] then 0 else aQ l+1
theorem fg{α:Type}:∀l:List (List α),aQ l≤l.length
 | []=>Nat.le_refl _
 | a::l=>by
   have:=fg l
   unfold aQ;split
   ·omega
   ·simp only[List.length_cons];omega
theorem eu{α:Type}:∀(l:List (List α)) (i:Nat) (h:i < l.length),aQ l≤i→l[i]=[]
 | [],_,h,_=>by simp at h
 | a::l,0,h,k=>by
   unfold aQ at k;split at k
   ·rename_i h;exact h.2
   ·omega
 | a::l,i+1,h,k=>by
   have:aQ l≤i:=by
    unfold aQ at k;split at k
    ·rename_i h;omega
    ·omega
   exact eu l i (by simpa using h) this
theorem mZ{α:Type}:∀(l:List (List α)) (n:Nat) (h:n < l.length),aQ l=n+1→l[n]≠[]
 | [],_,h,_=>by simp at h
 | a::l,n,h,k=>by
   unfold aQ at k;split at k
   ·omega
   ·rename_i hn
    cases n with
    | zero=>simp only[List.getElem_cons_zero];exact fun e=>hn ⟨by omega,e⟩
    | succ n=>exact mZ l n (by simpa using h) (by omega)
theorem sy{α:Type}{l:List (List α)}{n:Nat}(hn:n≤l.length)(h1:∀i (h:i < l.length),n≤i→l[i]=[])(h2:∀m (h:m < l.length),n=m+1→l[m]≠[]):n=aQ l:=by
 rcases Nat.lt_trichotomy n (aQ l) with h | h | h
 ·exfalso
  have hle:=fg l;exact mZ l (aQ l - 1) (by omega) (by omega) (h1 _ (by omega) (by omega))
 ·exact h
 ·exfalso
  exact h2 (n - 1) (by omega) (by omega) (eu l _ (by omega) (by omega))
section
variable {α:Type}
def gl(f:Nat→α)(a b n x:Nat):α:=if a≤x∧x < a+n then f (x+b - a) else if b≤x∧x < b+n then f (x+a - b) else f x
def lP(f:Nat→α)(a m b x:Nat):α:=if a≤x∧x < a+(b - m) then f (x+(m - a)) else if a+(b - m)≤x∧x < b then f (x - (b - m)) else f x
theorem Da(f:Nat→α)(a b x:Nat):gl f a b 0 x=f x:=by
 unfold gl;rw[if_neg (by omega),if_neg (by omega)]
theorem Db{f g:Nat→α}{a b n:Nat}(hab:a+n < b)(hg:∀x,g x=if x=b+n then gl f a b n (a+n) else if x=a+n then gl f a b n (b+n) else gl f a b n x)(x:Nat):g x=gl f a b (n+1) x:=by
 rw[hg];unfold gl;by_cases h1:x=b+n
 ·subst h1;rw[if_pos rfl,if_neg (by omega),if_neg (by omega),if_neg (by omega),if_pos (by omega)];congr 1;omega
 ·rw[if_neg h1];by_cases h2:x=a+n
  ·subst h2;rw[if_pos rfl,if_neg (by omega),if_neg (by omega),if_pos (by omega)];congr 1;omega
  ·rw[if_neg h2];by_cases h3:a≤x∧x < a+n
   ·rw[if_pos h3,if_pos (by omega)]
   ·by_cases h4:b≤x∧x < b+n
    ·rw[if_neg h3,if_pos h4,if_neg (by omega),if_pos (by omega)]
    ·rw[if_neg h3,if_neg h4,if_neg (by omega),if_neg (by omega)]
theorem Jl{f g:Nat→α}{m i j:Nat}(hi:i≤m)(hj:0 < j)(hij:j < i)(hg:∀x,g x=gl f (m - i) m j x)(x:Nat):lP g (m - (i - j)) m (m+j) x=lP f (m - i) m (m+j) x:=by
 unfold lP;by_cases h1:m - (i - j)≤x∧x < m - (i - j)+(m+j - m)
 ·rw[if_pos h1,hg];unfold gl;by_cases h2:m≤x+(m - (m - (i - j)))
  ·rw[if_neg (by omega),if_pos (by omega),if_neg (by omega),if_pos (by omega)];congr 1;omega
  ·omega
 ·rw[if_neg h1];by_cases h2:m - (i - j)+(m+j - m)≤x∧x < m+j
  ·rw[if_pos h2,hg];unfold gl;rw[if_neg (by omega),if_neg (by omega),if_neg (by omega),if_pos (by omega)]
  ·rw[if_neg h2,hg];unfold gl;by_cases h3:m - i≤x∧x < m - i+j
   ·rw[if_pos h3,if_pos (by omega)];congr 1;omega
   ·rw[if_neg h3];rw[if_neg (by omega),if_neg (by omega),if_neg (by omega)]
theorem Gk{f g:Nat→α}{m i j:Nat}(hi:i≤m)(hi0:0 < i)(hij:i < j)(hg:∀x,g x=gl f (m - i) (m+j - i) i x)(x:Nat):lP g (m - i) m (m+(j - i)) x=lP f (m - i) m (m+j) x:=by
 unfold lP;by_cases h1:m - i≤x∧x < m - i+(m+(j - i) - m)
 ·rw[if_pos h1,hg,if_pos (by omega)];unfold gl;rw[if_neg (by omega),if_neg (by omega)]
 ·rw[if_neg h1];by_cases h2:m - i+(m+(j - i) - m)≤x∧x < m+(j - i)
  ·rw[if_pos h2,hg];unfold gl;rw[if_pos (by omega),if_pos (by omega)];congr 1;omega
  ·rw[if_neg h2,hg];unfold gl;by_cases h3:m+j - i≤x∧x < m+j - i+i
   ·rw[if_neg (by omega),if_pos h3,if_neg (by omega),if_pos (by omega)];congr 1;omega
   ·rw[if_neg (by omega),if_neg h3,if_neg (by omega),if_neg (by omega)]
theorem Jk{f g:Nat→α}{m i:Nat}(hi:i≤m)(hg:∀x,g x=gl f (m - i) m i x)(x:Nat):g x=lP f (m - i) m (m+i) x:=by
 rw[hg];unfold gl lP;by_cases h1:m - i≤x∧x < m - i+i
 ·rw[if_pos h1,if_pos (by omega)];congr 1;omega
 ·by_cases h2:m≤x∧x < m+i
  ·rw[if_neg h1,if_pos h2,if_neg (by omega),if_pos (by omega)];congr 1;omega
  ·rw[if_neg h1,if_neg h2,if_neg (by omega),if_neg (by omega)]
theorem Bg(f:Nat→α){a m b:Nat}(h1:a≤m)(h2:m≤b)(h:a=m∨m=b)(x:Nat):lP f a m b x=f x:=by
 unfold lP;rcases h with rfl | rfl
 ·by_cases h3:a≤x∧x < a+(b - a)
  ·rw[if_pos h3];congr 1;omega
  ·rw[if_neg h3,if_neg (by omega)]
 ·rw[if_neg (by omega)];by_cases h3:a+(m - m)≤x∧x < m
  ·rw[if_pos h3];congr 1;omega
  ·rw[if_neg h3]
end
section
variable {α:Type}[Inhabited α]
def aC(l:List α)(x:Nat):α:=l.getD x default
theorem fe{l:List α}{x:Nat}(h:x < l.length):aC l x=l[x]:=by unfold aC;rw[List.getD_eq_getElem?_getD,List.getElem?_eq_getElem h,Option.getD_some]
def gj(l:List α)(i j:Nat):List α:=(l.set i (aC l j)).set j (aC l i)
theorem i2(l:List α)(i j:Nat):(gj l i j).length=l.length:=by simp[gj]
theorem C9{l:List α}{i j:Nat}(hi:i < l.length)(hj:j < l.length):(gj l i j).Perm l:=by
 unfold gj;rw[fe hi,fe hj];exact List.set_set_perm hi hj
theorem gz{l:List α}{i j:Nat}(hi:i < l.length)(hj:j < l.length)(x:Nat):aC (gj l i j) x=if x=j then aC l i else if x=i then aC l j else aC l x:=by
 unfold gj;by_cases h1:x=j
 ·subst h1;rw[if_pos rfl,fe (by simpa using hj)];simp
 ·rw[if_neg h1];by_cases h2:x=i
  ·subst h2;rw[if_pos rfl,fe (by simpa using hi)];rw[List.getElem_set_ne (Ne.symm h1),List.getElem_set_self]
  ·rw[if_neg h2];unfold aC;rw[List.getD_eq_getElem?_getD,List.getElem?_set_ne (Ne.symm h1),List.getElem?_set_ne (Ne.symm h2),←List.getD_eq_getElem?_getD]
structure Mix(a b:Nat)(l l':List α):Prop where
 len:l'.length=l.length
 perm:l'.Perm l
 out:∀x,(x < a∨b≤x)→aC l' x=aC l x
 img:∀x,a≤x→x < b→∃y,a≤y∧y < b∧aC l' x=aC l y
theorem Mix.refl(a b:Nat)(l:List α):Mix a b l l:=⟨rfl,.refl _,fun _ _=>rfl,fun x h1 h2=>⟨x,h1,h2,rfl⟩⟩
theorem Mix.trans{a b:Nat}{l m n:List α}(h:Mix a b l m)(k:Mix a b m n):Mix a b l n:=by
 refine⟨k.len.trans h.len,k.perm.trans h.perm,fun x hx=>(k.out x hx).trans (h.out x hx),fun x h1 h2=>?_⟩
 obtain⟨y,y1,y2,y3⟩:=k.img x h1 h2;obtain⟨z,z1,z2,z3⟩:=h.img y y1 y2;exact⟨z,z1,z2,y3.trans z3⟩
theorem Mix.wide{a b c d:Nat}{l m:List α}(h:Mix a b l m)(hc:c≤a)(hd:b≤d):Mix c d l m:=by
 refine⟨h.len,h.perm,fun x hx=>h.out x (by omega),fun x h1 h2=>?_⟩
 by_cases hx:a≤x∧x < b
 ·obtain⟨y,y1,y2,y3⟩:=h.img x hx.1 hx.2;exact⟨y,by omega,by omega,y3⟩
 ·exact⟨x,h1,h2,h.out x (by omega)⟩
theorem rp{a b i j:Nat}{l:List α}(hb:b≤l.length)(hi:a≤i∧i < b)(hj:a≤j∧j < b):Mix a b l (gj l i j):=by
 have h1:i < l.length:=by omega
 have h2:j < l.length:=by omega
 refine⟨i2 _ _ _,C9 h1 h2,fun x hx=>?_,fun x x1 x2=>?_⟩
 ·rw[gz h1 h2,if_neg (by omega),if_neg (by omega)]
 ·rw[gz h1 h2];by_cases e1:x=j
  ·rw[if_pos e1];exact⟨i,hi.1,hi.2,rfl⟩
  ·rw[if_neg e1];by_cases e2:x=i
   ·rw[if_pos e2];exact⟨j,hj.1,hj.2,rfl⟩
   ·rw[if_neg e2];exact⟨x,x1,x2,rfl⟩
variable (lt:α→α→Prop)
def Srt(l:List α)(a b:Nat):Prop:=∀i j,a≤i→i < j→j < b→lt (aC l i) (aC l j)
theorem Srt.part{lt:α→α→Prop}{l:List α}{a b c d:Nat}(h:Srt lt l a b)(hc:a≤c)(hd:d≤b):Srt lt l c d:=fun i j h1 h2 h3=>h i j (by omega) h2 (by omega)
theorem Srt.out{lt:α→α→Prop}{l l':List α}{a b c d:Nat}(h:Srt lt l a b)(k:Mix c d l l')(hd:b≤c∨d≤a):Srt lt l' a b:=fun i j h1 h2 h3=>by
 rw[k.out i (by omega),k.out j (by omega)];exact h i j h1 h2 h3
theorem Lh{lt:α→α→Prop}{l l1 l2:List α}{a m b:Nat}(k1:Mix a m l l1)(k2:Mix m b l1 l2)(h1:Srt lt l1 a m)(h2:Srt lt l2 m b)(hc:∀x y,a≤x→x < m→m≤y→y < b→lt (aC l x) (aC l y)):Srt lt l2 a b:=by
 intro i j hi hij hj;by_cases c1:j < m
 ·rw[k2.out i (by omega),k2.out j (by omega)];exact h1 i j hi hij c1
 ·by_cases c2:m≤i
  ·exact h2 i j c2 hij hj
  ·rw[k2.out i (by omega)];obtain⟨x,x1,x2,x3⟩:=k1.img i hi (by omega);obtain⟨y,y1,y2,y3⟩:=k2.img j (by omega) hj;rw[x3,y3,k1.out y (by omega)];exact hc x y x1 x2 y1 y2
theorem Mv{lt ord:α→α→Prop}{l l1:List α}{a m b mid start en:Nat}(h1:a≤start)(h2:start≤mid)(h3:start≤m)(h4:mid≤en)(h5:m≤en)(h6:en≤b)(he:start+en=mid+m)
  (sL:Srt lt l a m) (sR:Srt lt l m b) (hord:∀i j,a≤i→i < m→m≤j→j < b→ord (aC l i) (aC l j))
  (pA:∀i j,a≤i→i < start→en≤j→j < b→lt (aC l i) (aC l j)) (pB:∀i j,m≤i→i < en→start≤j→j < m→lt (aC l i) (aC l j))
  (hr:∀x,aC l1 x=lP (aC l) start m en x):
  (Srt lt l1 a start∧Srt lt l1 start mid∧Srt lt l1 mid en∧Srt lt l1 en b)∧(∀i j,a≤i→i < start→start≤j→j < mid→ord (aC l1 i) (aC l1 j))∧(∀i j,mid≤i→i < en→en≤j→j < b→ord (aC l1 i) (aC l1 j))∧
  ∀x y,a≤x→x < mid→mid≤y→y < b→lt (aC l1 x) (aC l1 y):=by
 have f1:∀x,x < start→aC l1 x=aC l x:=fun x hx=>by rw[hr];unfold lP;rw[if_neg (by omega),if_neg (by omega)]
 have f2:∀x,start≤x→x < mid→aC l1 x=aC l (x+(m - start)):=fun x hx hx'=>by rw[hr];unfold lP;rw[if_pos (by omega)]
 have f3:∀x,mid≤x→x < en→aC l1 x=aC l (x - (en - m)):=fun x hx hx'=>by rw[hr];unfold lP;rw[if_neg (by omega),if_pos (by omega)]
 have f4:∀x,en≤x→aC l1 x=aC l x:=fun x hx=>by rw[hr];unfold lP;rw[if_neg (by omega),if_neg (by omega)]
 refine⟨⟨fun i j q1 q2 q3=>?_,fun i j q1 q2 q3=>?_,fun i j q1 q2 q3=>?_,fun i j q1 q2 q3=>?_⟩,fun i j q1 q2 q3 q4=>?_,fun i j q1 q2 q3 q4=>?_,fun x y q1 q2 q3 q4=>?_⟩
 ·rw[f1 i (by omega),f1 j q3];exact sL i j q1 q2 (by omega)
 ·rw[f2 i q1 (by omega),f2 j (by omega) q3];exact sR _ _ (by omega) (by omega) (by omega)
 ·rw[f3 i q1 (by omega),f3 j (by omega) q3];exact sL _ _ (by omega) (by omega) (by omega)
 ·rw[f4 i q1,f4 j (by omega)];exact sR _ _ (by omega) q2 q3
 ·rw[f1 i q2,f2 j q3 q4];exact hord _ _ q1 (by omega) (by omega) (by omega)
 ·rw[f3 i q1 q2,f4 j q3];exact hord _ _ (by omega) (by omega) (by omega) q4
 ·by_cases c1:x < start
  ·rw[f1 x c1];by_cases c2:y < en
   ·rw[f3 y q3 c2];exact sL _ _ q1 (by omega) (by omega)
   ·rw[f4 y (by omega)];exact pA _ _ q1 c1 (by omega) q4
  ·rw[f2 x (by omega) q2];by_cases c2:y < en
   ·rw[f3 y q3 c2];exact pB _ _ (by omega) (by omega) (by omega) (by omega)
   ·rw[f4 y (by omega)];exact sR _ _ (by omega) (by omega) q4
theorem AB{lt:α→α→Prop}{l:List α}(h:Srt lt l 0 l.length):l.Pairwise lt:=by
 rw[List.pairwise_iff_getElem];intro i j hi hj hij
 have:=h i j (Nat.zero_le _) hij hj
 rwa [fe hi,fe hj] at this
theorem iS{lt:α→α→Prop}{l:List α}(h:l.Pairwise lt)(a b:Nat)(hb:b≤l.length):Srt lt l a b:=by
 rw[List.pairwise_iff_getElem] at h;intro i j h1 h2 h3;rw[fe (by omega),fe (by omega)];exact h i j _ _ h2
end
theorem sw{α:Type}{lt:α→α→Prop}(irr:∀a,¬lt a a)(tr:∀a b c,lt a b→lt b c→lt a c):∀{l m:List α},l.Pairwise lt→m.Pairwise lt→(∀x,x∈l↔x∈m)→l=m
 | [],[],_,_,_=>rfl
 | [],b::m,_,_,h=>absurd ((h b).2 (by simp)) (by simp)
 | a::l,[],_,_,h=>absurd ((h a).1 (by simp)) (by simp)
 | a::l,b::m,hl,hm,h=>by
   rw[List.pairwise_cons] at hl hm
   have hab:a=b:=by
    rcases List.mem_cons.1 ((h a).1 (by simp)) with e | e
    ·exact e
    ·rcases List.mem_cons.1 ((h b).2 (by simp)) with e' | e'
     ·exact e'.symm
     ·exact absurd (tr _ _ _ (hl.1 b e') (hm.1 a e)) (irr a)
   subst hab;congr 1;refine sw irr tr hl.2 hm.2 fun x=>⟨fun hx=>?_,fun hx=>?_⟩
   ·rcases List.mem_cons.1 ((h x).1 (by simp[hx])) with e | e
    ·subst e;exact absurd (hl.1 x hx) (irr x)
    ·exact e
   ·rcases List.mem_cons.1 ((h x).2 (by simp[hx])) with e | e
    ·subst e;exact absurd (hm.1 x hx) (irr x)
    ·exact e
theorem GB{f:Fp}:bg .none f=true:=by cases f<;>rfl
theorem xE{f:Fp}:bg f .none=true:=by cases f<;>rfl
theorem Gy{b o n b' o' n':Nat}:bg (.rd b o n) (.rd b' o' n')=true:=rfl
theorem Gx{b o n b' o' n':Nat}:bg (.rd b o n) (.wr b' o' n')=ii b o n b' o' n':=rfl
theorem Gw{b o n b' o' n':Nat}:bg (.wr b o n) (.rd b' o' n')=ii b o n b' o' n':=rfl
theorem Gv{b o n b' o' n':Nat}:bg (.wr b o n) (.wr b' o' n')=ii b o n b' o' n':=rfl
theorem GA{b o n b':Nat}:bg (.rd b o n) (.wb b')=decide (b'≠b):=rfl
theorem GD{b o n b':Nat}:bg (.wb b') (.rd b o n)=decide (b'≠b):=rfl
theorem Du{b o n b':Nat}:bg (.wr b o n) (.wb b')=decide (b'≠b):=rfl
theorem GC{b o n b':Nat}:bg (.wb b') (.wr b o n)=decide (b'≠b):=rfl
theorem GE{b b':Nat}:bg (.wb b) (.wb b')=decide (b≠b'):=rfl
theorem aL{fc:bR}{o:IOp}{xs:List IV}(h:dW o xs=some .none):aR (some fc) o xs=some (some ((o.idx,.none)::fc)):=by
 simp only[aR,lh,h];rw[if_pos]
 ·rfl
 ·rw[List.all_eq_true];intro p _;simp[xE]
section
variable {fc:bR}{dst:Option Nat}{args:List IA}{g:Option (Nat×Bool)}{amb:Bool}{idx mask:Nat}{xs:List IV}
theorem DF{o:IOp}:aR none o xs=some none:=rfl
theorem Bw:aR (some fc) ⟨dst,.move,args,g,amb,idx,mask⟩ xs=some (some ((idx,.none)::fc)):=aL rfl
theorem DG{op:BinOp}:aR (some fc) ⟨dst,.bin op,args,g,amb,idx,mask⟩ xs=some (some ((idx,.none)::fc)):=aL rfl
theorem GM{op:UnOp}:aR (some fc) ⟨dst,.un op,args,g,amb,idx,mask⟩ xs=some (some ((idx,.none)::fc)):=aL rfl
theorem By{k:IntKind}:aR (some fc) ⟨dst,.conv k,args,g,amb,idx,mask⟩ xs=some (some ((idx,.none)::fc)):=aL rfl
theorem zK{z:Nat}:aR (some fc) ⟨dst,.idxSl z,args,g,amb,idx,mask⟩ xs=some (some ((idx,.none)::fc)):=aL rfl
theorem rR{z:Nat}:aR (some fc) ⟨dst,.fieldAddr z,args,g,amb,idx,mask⟩ xs=some (some ((idx,.none)::fc)):=aL rfl
theorem zL{z:Nat}{n:Option Nat}:aR (some fc) ⟨dst,.field z n,args,g,amb,idx,mask⟩ xs=some (some ((idx,.none)::fc)):=aL rfl
theorem zJ:aR (some fc) ⟨dst,.lenSl,args,g,amb,idx,mask⟩ xs=some (some ((idx,.none)::fc)):=aL rfl
theorem Bv:aR (some fc) ⟨dst,.pick,args,g,amb,idx,mask⟩ xs=some (some ((idx,.none)::fc)):=aL rfl
theorem qw{l z:Nat}:aR (some fc) ⟨dst,.idxArrAddr l z,args,g,amb,idx,mask⟩ xs=some (some ((idx,.none)::fc)):=aL rfl
end
theorem UC(m k:Nat):Nat.testBit m k=decide (m / 2^k%2=1):=Nat.testBit_eq_decide_div_mod_eq
section
variable {α:Type}[Cell α]
def Gr(n0:Nat)(H:Heap)(e:Nat)(v:SV)(l:List α):Prop:=(v=.nil∧l=[])∨∃b,v=.sl b 0 l.length l.length false∧n0≤b∧l≠[]∧Own H b e l.length l
theorem Gr.nil{n0:Nat}{H:Heap}{e:Nat}:Gr n0 H e .nil ([]:List α):=.inl ⟨rfl,rfl⟩
theorem Gr.sl{n0:Nat}{H:Heap}{e:Nat}{v:SV}{l:List α}(h:Gr n0 H e v l):Sl H v l:=by
 rcases h with⟨rfl,rfl⟩ | ⟨b,rfl,_,_,h2⟩
 ·exact Sl.empty
 ·exact h2.sl false
theorem Gr.lower{n0 n1:Nat}{H:Heap}{e:Nat}{v:SV}{l:List α}(h:Gr n0 H e v l)(hn:n1≤n0):Gr n1 H e v l:=by
 rcases h with h | ⟨b,h1,h2,h3,h4⟩
 ·exact .inl h
 ·exact .inr ⟨b,h1,by omega,h3,h4⟩
theorem Gr.keep{n0:Nat}{H H':Heap}{e:Nat}{v:SV}{l:List α}(h:Gr n0 H e v l)(k:Keep H.n H H'):Gr n0 H' e v l:=by
 rcases h with h | ⟨b,h1,h2,h3,h4⟩
 ·exact .inl h
 ·exact .inr ⟨b,h1,h2,h3,h4.keep k⟩
def KeepG(n0 e z:Nat)(H H':Heap):Prop:=H.n≤H'.n∧∀x,x < H.n→(x < n0∨∀cs,H.get x≠some (.cells false e z cs))→H'.get x=H.get x
theorem KeepG.refl(n0 e z:Nat)(H:Heap):KeepG n0 e z H H:=⟨Nat.le_refl _,fun _ _ _=>rfl⟩
theorem KeepG.trans{n0 e z:Nat}{a b c:Heap}(h:KeepG n0 e z a b)(k:KeepG n0 e z b c):KeepG n0 e z a c:=by
 refine⟨Nat.le_trans h.1 k.1,fun x h1 h2=>?_⟩
 have e1:=h.2 x h1 h2;rw[←e1];exact k.2 x (Nat.lt_of_lt_of_le h1 h.1) (by rw[e1];exact h2)
theorem KeepG.of{n0 e z:Nat}{H H':Heap}(k:Keep H.n H H'):KeepG n0 e z H H':=⟨k.1,fun x h _=>k.2 x h h⟩
theorem KeepG.low{n0 e z:Nat}{H H':Heap}(k:KeepG n0 e z H H')(hn:n0≤H.n):Keep n0 H H':=⟨k.1,fun x h1 h2=>k.2 x h2 (.inl h1)⟩
theorem KeepG.get{n0 e z x:Nat}{H H':Heap}{ob:IObj}(k:KeepG n0 e z H H')(hx:x < H.n)(hg:H.get x=some ob)(hob:∀cs,ob≠.cells false e z cs):H'.get x=some ob:=by
 rw[k.2 x hx (.inr fun cs h=>hob cs (by rw[hg] at h;exact Option.some.inj h))];exact hg
theorem Own.keepG{n0 e e' z b cap:Nat}{H H':Heap}{l:List α}(h:Own H b e cap l)(k:KeepG n0 e' z H H')(hne:e≠e'):Own H' b e cap l:=by
 obtain⟨h1,h2,r,h3,h4⟩:=h;refine Own.same ⟨h1,h2,r,h3,h4⟩ k.1 (k.2 b h2 (.inr fun cs hc=>?_));rw[h3] at hc;injection hc with hc;injection hc with _ hc;exact hne hc
def OwnS(n0:Nat)(H:Heap)(e:Nat)(v:SV)(l:List α):Prop:=(v=.nil∧l=[])∨∃b cap ex,v=.sl b 0 l.length cap ex∧n0≤b∧Own H b e cap l
theorem OwnS.sl{n0:Nat}{H:Heap}{e:Nat}{v:SV}{l:List α}(h:OwnS n0 H e v l):Sl H v l:=by
 rcases h with⟨rfl,rfl⟩ | ⟨b,cap,ex,rfl,_,h⟩
 ·exact Sl.empty
 ·exact h.sl ex
theorem OwnS.keep{n0:Nat}{H H':Heap}{e:Nat}{v:SV}{l:List α}(h:OwnS n0 H e v l)(k:Keep H.n H H'):OwnS n0 H' e v l:=by
 rcases h with h | ⟨b,cap,ex,h1,h2,h3⟩
 ·exact .inl h
 ·exact .inr ⟨b,cap,ex,h1,h2,h3.keep k⟩
theorem OwnS.keepG{n0 n1 e e' z:Nat}{H H':Heap}{v:SV}{l:List α}(h:OwnS n0 H e v l)(k:KeepG n1 e' z H H')(hne:e≠e'):OwnS n0 H' e v l:=by
 rcases h with h | ⟨b,cap,ex,h1,h2,h3⟩
 ·exact .inl h
 ·exact .inr ⟨b,cap,ex,h1,h2,h3.keepG k hne⟩
theorem Fresh.own{n0:Nat}{H:Heap}{e:Nat}{v:SV}{l:List α}(h:Fresh n0 H e v l):OwnS n0 H e v l:=by
 rcases h with h | ⟨b,h1,h2,h3⟩
 ·exact .inl h
 ·exact .inr ⟨b,l.length,true,h1,h2,h3⟩
theorem Gr.own{n0:Nat}{H:Heap}{e:Nat}{v:SV}{l:List α}(h:Gr n0 H e v l):OwnS n0 H e v l:=by
 rcases h with h | ⟨b,h1,h2,_,h3⟩
 ·exact .inl h
 ·exact .inr ⟨b,l.length,false,h1,h2,h3⟩
theorem Gr.push{n0:Nat}{H:Heap}{e:Nat}{v:SV}{l:List α}(h:Gr n0 H e v l){a:α}{u:SV}(hu:Sl H u [a]){z:Nat}(hz:Cell.z α=z)(bytes lo:Nat)(hlo:lo≤n0)(hn:n0≤H.n)(hb:(l.length+1)*(bytes+1)≤2^40):
  ∃H2 w,ev1 (.append e z bytes) [v.iv,u.iv] lo H=some (SV.iv w,H2)∧KeepG n0 e z H H2∧Gr n0 H2 e w (l++[a]):=by
 rcases h with⟨rfl,rfl⟩ | ⟨b,rfl,h2,h3,h4⟩
 ·obtain⟨H2,e1,e2,e3,e4⟩:=wG (e:=e) hu hz bytes lo (by simp) (by simpa using hb);exact⟨H2,.sl H.n 0 1 1 false,e1,KeepG.of e3,.inr ⟨H.n,rfl,hn,by simp,e4⟩⟩
 ·obtain⟨H2,e1,e2,e3,e4⟩:=nY (n:=l.length) h4 rfl hu hz bytes lo (by simp) (by simpa using hb) (by omega);refine⟨H2,.sl H.n 0 (l.length+1) (l.length+1) false,e1,⟨by omega,fun x h5 h6=>e3 x ?_ h5⟩,.inr ⟨H.n,by simp,hn,by simp,by rw[List.length_append];exact e4⟩⟩;rintro rfl;rcases h6 with h6 | h6
  ·omega
  ·exact h6 _ (by rw[h4.full,hz])
theorem oN{H:Heap}{e z:Nat}(hz:Cell.z α=z)(a:α):Own (H.new (.cells false e z (Cell.cs a))) H.n e 1 [a]:=by
 have:=Own.mk' (H:=H.new (.cells false e z (Cell.cs a))) (b:=H.n) (e:=e) (l:=[a]) (by rw[ac];omega) hz (by rw[aj,if_pos rfl]) (BW a).symm
 exact this
theorem Gr.pushNew{n0:Nat}{H:Heap}{e:Nat}{v:SV}{l:List α}(h:Gr n0 H e v l)(a:α){z:Nat}(hz:Cell.z α=z)(bytes lo:Nat)(hlo:lo≤n0)(hn:n0≤H.n)(hb:(l.length+1)*(bytes+1)≤2^40):
  ∃H2 w,ev1 (.append e z bytes) [v.iv,.slice H.n 0 1 1 true] lo (H.new (.cells false e z (Cell.cs a)))=some (SV.iv w,H2)∧KeepG n0 e z H H2∧Gr n0 H2 e w (l++[a]):=by
 obtain⟨H2,w,e1,k1,g1⟩:=(h.keep (.new _ (.cells false e z (Cell.cs a)))).push (a:=a) ((oN hz a).sl true) hz bytes lo hlo (by rw[ac];omega) hb;exact⟨H2,w,e1,(KeepG.of (.new _ _)).trans k1,g1⟩
end
theorem xe{α:Type}(f:Nat→List α)(n:Nat):(List.range (n+1)).flatMap f=(List.range n).flatMap f++f n:=by rw[List.range_succ,List.flatMap_append];simp
end Go.Iso
section
namespace Go.Iso
theorem It:d8 []=.tuple []:=rfl
theorem Is{v:IV}:d8 [v]=v:=rfl
theorem Ir{v w:IV}{l:List IV}:d8 (v::w::l)=.tuple (v::w::l):=rfl
def BAS:=And.intro @Rt (And.intro @S5 (And.intro @Rw (And.intro @gS (And.intro @NX (And.intro @PE (And.intro @Rx (And.intro @CC (And.intro @Ei (And.intro @NA (And.intro @NB (And.intro @S6 (And.intro @Yk (And.intro @Kr (And.intro @Ks (And.intro @SW (And.intro @SX (And.intro @SU (And.intro @SY (And.intro @Rq (And.intro @SB (And.intro @P9 (And.intro @M6 (And.intro @eq_self.{1} (And.intro @Nat.left_eq_add (And.intro @Nat.add_eq_left (And.intro @Nat.add_left_cancel_iff (And.intro @Nat.add_assoc (And.intro @Hx (And.intro @FP (And.intro @FO (And.intro @LY (And.intro @LX (And.intro @Qx (And.intro @Qy (And.intro @Si (And.intro @List.getD_cons_zero.{0} (And.intro @List.getD_cons_succ.{0} (And.intro @Ms (And.intro @Mt (And.intro @Qa (And.intro @Rl (And.intro @Rk (And.intro @Rm (And.intro @NQ (And.intro @NR (And.intro @P2 (And.intro @NY (And.intro @if_true.{1} (And.intro @if_false.{1} (And.intro @Option.map_some.{0,0} (And.intro @Option.map_none.{0,0} (And.intro @Option.bind_some.{0,0} (And.intro @Option.bind_none.{0,0} (And.intro @List.nil_append.{0} (And.intro @List.append_nil.{0} (And.intro @List.cons_append.{0} (And.intro @List.length_cons.{0} (And.intro @List.length_nil.{0} (And.intro @Nat.zero_add (And.intro @Qq (And.intro @Qr (And.intro @J4 (And.intro @Mm (And.intro @beq_self_eq_true.{0} (And.intro @Bool.false_eq_true (And.intro @Bool.not_true (And.intro @Bool.not_false (And.intro @Option.getD_some.{0} (And.intro @Option.getD_none.{0} (And.intro @Ec (And.intro @Eb (And.intro @Cs (And.intro @D8 (And.intro @D9 (And.intro @xh (And.intro @Au (And.intro @tw (And.intro @Ea (And.intro @xi (And.intro @Hm (And.intro @At (And.intro @wD (And.intro @Av (And.intro @tz (And.intro @aj (And.intro @ac (And.intro @aa (And.intro @af (And.intro @List.drop_succ_cons.{0} (And.intro @List.drop_zero.{0} (And.intro @List.take_succ_cons.{0} (And.intro @List.take_zero.{0} (And.intro @Nat.add_zero (And.intro @Nat.le_refl (And.intro @Option.some.injEq.{0} (And.intro @and_true (And.intro @true_and (And.intro @and_false (And.intro @false_and (And.intro @BEq.rfl.{0} (And.intro @vE (And.intro @rQ (And.intro @JG (And.intro @JH (And.intro @Bs (And.intro @DA (And.intro @wY (And.intro @JI (And.intro @Bt (And.intro @M9 (And.intro @Dz (And.intro @zI (And.intro @DB (And.intro @wZ (And.intro @List.all_cons.{0} (And.intro @List.all_nil.{0} (And.intro @Bool.and_self (And.intro @Bool.and_true (And.intro @Bool.true_and (And.intro @Nat.le_add_right (And.intro @Nat.add_sub_cancel (And.intro @bne_self_eq_false.{0} (And.intro @Bool.false_bne (And.intro @Bool.bne_false (And.intro @Bool.or_true (And.intro @Bool.true_or (And.intro @Int.toNat_natCast (And.intro @Option.isSome_some.{0} (And.intro @Rv (And.intro @Qn (And.intro @Qm (And.intro @CB (And.intro @HO (And.intro @Jt (And.intro @Js (And.intro @Mq (And.intro @Mo (And.intro @Mp (And.intro @M4 (And.intro @MZ (And.intro @ne_eq.{1} (And.intro @not_false_eq_true (And.intro @Xe (And.intro @Xd (And.intro @cLe (And.intro @Xc (And.intro @cLt (And.intro @Xb (And.intro @iLe (And.intro @WM (And.intro @iLt (And.intro @WL (And.intro @iGe (And.intro @WO (And.intro @iGt (And.intro @WN (And.intro @WQ (And.intro @Sz (And.intro @WP (And.intro @Sy (And.intro @Uz (And.intro @Zu (And.intro @decide_true (And.intro @decide_false (And.intro @Jv (And.intro @Ju (And.intro @MX (And.intro @CG (And.intro @oZ (And.intro @yt (And.intro @iN (And.intro @qW (And.intro @fj (And.intro @jg (And.intro @Nat.zero_mul (And.intro @Bool.true_eq_false (And.intro @Bool.false_or (And.intro @Bool.or_false (And.intro @Bool.false_and (And.intro @Bool.and_false (And.intro @not_true_eq_false (And.intro @Nat.sub_zero (And.intro @List.getElem?_cons_zero.{0} (And.intro @List.getElem?_cons_succ.{0} (And.intro @be.eq_1 (And.intro @be.eq_2 (And.intro @IA.eval.eq_1 (And.intro @IA.eval.eq_2 (And.intro @IA.eval.eq_3 (And.intro @Fr.put.eq_1 (And.intro @Fr.put.eq_2 (And.intro @bT.eq_1 (And.intro @bT.eq_2 (And.intro @bq.eq_1 (And.intro @bq.eq_2 (And.intro @au.eq_1 (And.intro @au.eq_2 (And.intro @gq.eq_1 (And.intro @gq.eq_2 (And.intro @ak.eq_1 (And.intro @ak.eq_2 (And.intro @List.set.eq_1.{0} (And.intro @List.set.eq_2.{0} (And.intro @List.set.eq_3.{0} (And.intro @List.drop.eq_1.{0} (And.intro @List.drop.eq_2.{0} (And.intro @List.drop.eq_3.{0} (And.intro @List.take.eq_1.{0} (And.intro @List.take.eq_2.{0} (And.intro @List.take.eq_3.{0} (And.intro @List.append.eq_1.{0} (And.intro @List.append.eq_2.{0} (And.intro @ar.eq_1 (And.intro @ar.eq_2 (And.intro @ar.eq_3 (And.intro @ar.eq_4 (And.intro @cU.eq_1 (And.intro @cU.eq_2 (And.intro @aR.eq_1 (And.intro @aR.eq_2 (And.intro @It (And.intro @Is (And.intro @Ir (And.intro @GB (And.intro @xE (And.intro @Gy (And.intro @Gx (And.intro @Gw (And.intro @Gv (And.intro @GA (And.intro @GD (And.intro @Du (And.intro @GC (And.intro @GE (@UC)))))))))))))))))))))))))))))))))))))))))))))))))))))))))))))))))))))))))))))))))))))))))))))))))))))))))))))))))))))))))))))))))))))))))))))))))))))))))))))))))))))))))))))))))))))))))))))))))))))))))))))))))))))))))))))))))))))))))))
def ah:=And.intro @DF (And.intro @Bw (And.intro @DG (And.intro @GM (And.intro @By (And.intro @zK (And.intro @rR (And.intro @zL (And.intro @zJ (And.intro @Bv (@qw))))))))))
end Go.Iso
end
namespace Go.Iso
theorem SZ{b o n b' o' n':Nat}(h:b < b'):ii b o n b' o' n'=true:=by
 have:b≠b':=by omega
 simp[ii,this]
theorem S2{b o n b' o' n':Nat}(h:b' < b):ii b o n b' o' n'=true:=by
 have:b≠b':=by omega
 simp[ii,this]
def UN:Fp→Bool
 | .none | .rd _ _ _=>true
 | _=>false
def ng:bR→Bool
 | []=>true
 | p::fc=>UN p.2&&ng fc
theorem GL:ng []=true:=rfl
theorem DC{i:Nat}{fc:bR}:ng ((i,.none)::fc)=ng fc:=rfl
theorem JO{i b o n:Nat}{fc:bR}:ng ((i,.rd b o n)::fc)=ng fc:=rfl
theorem JN{i b o n:Nat}{fc:bR}:ng ((i,.wr b o n)::fc)=false:=rfl
theorem xI{b o n mask:Nat}:∀{fc:bR},ng fc=true→(fc.all fun p=>mask.testBit p.1||bg p.2 (.rd b o n))=true
 | [],_=>rfl
 | (i,f)::fc,h=>by
   simp only[ng,Bool.and_eq_true] at h;rw[List.all_cons,xI h.2,Bool.and_true]
   cases f with
   | none=>simp[bg]
   | rd=>simp[bg]
   | _=>cases h.1
section
variable {fc:bR}{dst:Option Nat}{args:List IA}{g:Option (Nat×Bool)}{amb:Bool}{idx mask:Nat}{xs:List IV}
theorem Bz:aR (some fc) ⟨dst,.call,args,g,amb,idx,mask⟩ xs=some (some ((idx,.none)::fc)):=aL rfl
theorem zN{e z:Nat}{zs:List IV}:aR (some fc) ⟨dst,.alloc e z zs,args,g,amb,idx,mask⟩ xs=some (some ((idx,.none)::fc)):=aL rfl
theorem zM{zs:List IV}{os:List (Nat×Nat)}:aR (some fc) ⟨dst,.build zs os,args,g,amb,idx,mask⟩ xs=some (some ((idx,.none)::fc)):=aL rfl
theorem vK{e z n:Nat}{zs:List IV}{os:List (Nat×Nat)}:aR (some fc) ⟨dst,.buildSl e z n zs os,args,g,amb,idx,mask⟩ xs=some (some ((idx,.none)::fc)):=aL rfl
theorem Bx{n:Option Nat}{b a:Nat}:aR (some fc) ⟨dst,.load n,args,g,amb,idx,mask⟩ [.ptr b a]=if ng fc=true then some (some ((idx,.rd b a (n.getD 1))::fc)) else(lh fc ⟨dst,.load n,args,g,amb,idx,mask⟩ [.ptr b a]).map some:=by
 split
 ·rename_i h;simp only[aR,lh,dW];rw[if_pos (xI h)];rfl
 ·rfl
end
def FR:=And.intro @Bz (And.intro @zN (And.intro @zM (And.intro @vK @Bx)))
def FW:=And.intro @GL (And.intro @DC (And.intro @JO (And.intro @JN (And.intro @SZ @S2))))
end Go.Iso
section
namespace Go.Iso
theorem J1{a b:Prop}(h:a)(k:b):a∧b:=⟨h,k⟩
def LK:=J1 @BAS (J1 @dW.eq_def (J1 @lh.eq_def (J1 @Pq.eq_def (J1 @nX.eq_def (J1 @ev1.eq_def (J1 @dQ.eq_def (J1 @P4.eq_def (J1 @hU.eq_def (J1 @G8.eq_def @bD.eq_def)))))))))
def ai:=J1 LK @Heap.write.eq_def
end Go.Iso
end
namespace Go.Iso
theorem vn:∀(c:List IV) (o:Nat) (x:IV),o < c.length→ar c o [x]=c.set o x
 | [],_,_,h=>by simp at h
 | a::c,0,x,_=>by
   show x::ar c 0 []=_
   cases c<;>rfl
 | a::c,o+1,x,h=>by
   show a::ar c o [x]=_
   rw[vn c o x (by simpa using h)];rfl
section
variable {α:Type}[Cell α]
theorem gY(l:List α)(i:Nat)(h:i < l.length):aB l=aB (l.take i)++(Cell.cs l[i]++aB (l.drop (i+1))):=by
 rw[←cW,←bY,←List.drop_eq_getElem_cons h,List.take_append_drop]
theorem G3(l:List α)(i f:Nat)(h:i < l.length)(hf:f < Cell.z α)(x:IV)(a:α)(hc:Cell.cs a=(Cell.cs l[i]).set f x):(aB l).set (i*Cell.z α+f) x=aB (l.set i a):=by
 have hl:(aB (l.take i)).length=i*Cell.z α:=by rw[ao,List.length_take,Nat.min_eq_left (by omega)]
 have e2:=gY (l.set i a) i (by rw[List.length_set];exact h);rw[gY l i h,List.set_append_right _ _ (by omega),hl,Nat.add_sub_cancel_left,List.set_append_left _ _ (by rw[Cell.len];exact hf),←hc,e2,List.getElem_set_self,List.take_set,List.drop_set];rw[if_pos (by omega),List.set_eq_of_length_le (by rw[List.length_take];omega)]
theorem Own.cell{H:Heap}{b e cap:Nat}{l:List α}(h:Own H b e cap l){z:Nat}(hz:Cell.z α=z)(i f:Nat)(hi:i < l.length)(hf:f < z)(x:IV)(hx:IV.one x=true)(a:α)(hc:Cell.cs a=(Cell.cs l[i]).set f x)(lo:Nat)(hlo:lo≤b):
  ∃o,H.write lo b (i*z+f) [x]=some (H.put b o)∧Own (H.put b o) b e cap (l.set i a):=by
 subst hz;obtain⟨h1,h2,r,h3,h4⟩:=h;have hfl:=ao l;have hb:i*Cell.z α+Cell.z α≤l.length*Cell.z α:=by rw[←Nat.succ_mul];exact Nat.mul_le_mul_right _ hi
 refine⟨.cells false e (Cell.z α) (ar (aB l++r) (i*Cell.z α+f) [x]),?_,?_⟩
 ·unfold Heap.write;rw[h3];simp only;rw[if_pos ⟨hlo,by rw[List.length_append];simp only[List.length_singleton];omega,by simp[hx]⟩]
 ·refine⟨by simp[h1],h2,r,?_,by simp[h4]⟩
  rw[aa,if_pos rfl,vn _ _ _ (by rw[List.length_append];omega),List.set_append_left _ _ (by omega),G3 l i f hi hf x a hc]
theorem Own.lt{H:Heap}{b e cap:Nat}{l:List α}(h:Own H b e cap l):b < H.n:=h.2.1
end
section
variable {α:Type}[Cell α]
theorem Gr.sameO{n0:Nat}{H H':Heap}{e:Nat}{v:SV}{l:List α}(h:Gr n0 H e v l)(hn:H.n≤H'.n)(hg:l≠[]→H'.get v.blk=H.get v.blk):Gr n0 H' e v l:=by
 rcases h with h | ⟨b,rfl,h2,h3,h4⟩
 ·exact .inl h
 ·exact .inr ⟨b,rfl,h2,h3,h4.same hn (hg h3)⟩
theorem Gr.blkLt{n0:Nat}{H:Heap}{e:Nat}{v:SV}{l:List α}(h:Gr n0 H e v l)(hl:l≠[]):v.blk < H.n∧n0≤v.blk:=by
 rcases h with⟨_,rfl⟩ | ⟨b,rfl,h2,h3,h4⟩
 ·exact absurd rfl hl
 ·exact⟨h4.2.1,h2⟩
theorem Gr.pushNewO{n0:Nat}{H:Heap}{e:Nat}{v:SV}{l:List α}(h:Gr n0 H e v l)(a:α){z:Nat}(hz:Cell.z α=z)(bytes lo:Nat)(hlo:lo≤n0)(hn:n0≤H.n)(hb:(l.length+1)*(bytes+1)≤2^40):
  ∃H2 w,ev1 (.append e z bytes) [v.iv,.slice H.n 0 1 1 true] lo (H.new (.cells false e z (Cell.cs a)))=some (SV.iv w,H2)∧H.n≤H2.n∧(∀y,y < H.n→(l≠[]→y≠v.blk)→H2.get y=H.get y)∧Gr n0 H2 e w (l++[a])∧H.n≤w.blk:=by
 have hu:Sl (H.new (.cells false e z (Cell.cs a))) (.sl H.n 0 1 1 true) [a]:=(oN hz a).sl true;have kN:Keep H.n H (H.new (.cells false e z (Cell.cs a))):=.new _ _;have hnN:=ac H (.cells false e z (Cell.cs a));rcases h with⟨rfl,rfl⟩ | ⟨b,rfl,h2,h3,h4⟩
 ·obtain⟨H2,e1,e2,e3,e4⟩:=wG (e:=e) hu hz bytes lo (by simp) (by simpa using hb);exact⟨H2,.sl (H.new (.cells false e z (Cell.cs a))).n 0 1 1 false,e1,by omega,fun y hy _=>(e3.2 y (by omega) (by omega)).trans (kN.2 y hy hy),.inr ⟨_,rfl,by omega,by simp,e4⟩,by show _≤(H.new _).n;omega⟩
 ·obtain⟨H2,e1,e2,e3,e4⟩:=nY (n:=l.length) (h4.keep kN) rfl hu hz bytes lo (by simp) (by simpa using hb) (by omega);refine⟨H2,.sl (H.new (.cells false e z (Cell.cs a))).n 0 (l.length+1) (l.length+1) false,e1,by omega,fun y hy hne=>?_,.inr ⟨(H.new (.cells false e z (Cell.cs a))).n,by simp,by omega,by simp,by rw[List.length_append];exact e4⟩,by show _≤(H.new _).n;omega⟩;have hyb:y≠b:=hne h3;rw[e3 y hyb (by omega)];exact kN.2 y hy hy
end
def E3(z:Nat)(H:Heap)(v:SV):Prop:=∀b o n c ex,v=.sl b o n c ex→(ex||rX H b z)=true
def SV.cut(z:Nat)(v:SV)(a n:Nat):SV:=match v with
 | .nil=>.nil
 | .sl b o _ c ex=>.sl b (o+a*z) n (c - a) ex
def SV.clip(z:Nat)(v:SV)(n:Nat):SV:=match v with
 | .nil=>.nil
 | .sl b o _ _ _=>.sl b (o+0*z) (n - 0) (n - 0) true
theorem Aw{k n:Nat}(h:k≤n):bk n (.int .i64 (k:Int))=some k:=by
 show(if 0≤(k:Int)∧(k:Int)≤(n:Int) then some (k:Int).toNat else none)=_
 rw[if_pos (by omega)];simp
section
variable {α:Type}[Cell α]
theorem Sl.cutS{H:Heap}{v:SV}{l:List α}(h:Sl H v l){z:Nat}(hz:Cell.z α=z){a n:Nat}(hj:a+n≤l.length):Sl H (v.cut z a n) ((l.drop a).take n):=by
 cases v with
 | nil=>have h:l=[]:=h;subst h;simp[SV.cut,Sl]
 | sl b o m c ex=>
   have hn:=h.1
   have:=h.2.1
   exact h.part hz (a:=a) (m:=n) (c':=c - a) (ex':=ex) (by omega) (by omega)
theorem Sl.slcHi{H:Heap}{v:SV}{l:List α}(h:Sl H v l){z a:Nat}{H':Heap}(hs:E3 z H' v)(ha:a≤l.length)(lo:Nat):ev1 (.slc z false true false) [v.iv,.int .i64 (a:Int)] lo H'=some ((v.cut z 0 a).iv,H'):=by
 cases v with
 | nil=>
   have h:l=[]:=h;subst h
   have:a=0:=by simpa using ha
   subst this;rfl
 | sl b o m c ex=>
   have hn:=h.1;have h2:=h.2.1;have e:=hs _ _ _ _ _ rfl;simp only[ev1,SV.cut,SV.iv,e,if_true,aI,Aw (show a≤c by omega),Option.map_some,Nat.sub_zero]
theorem Sl.slcLo{H:Heap}{v:SV}{l:List α}(h:Sl H v l){z a:Nat}{H':Heap}(hs:E3 z H' v)(ha:a≤l.length)(lo:Nat):ev1 (.slc z true false false) [v.iv,.int .i64 (a:Int)] lo H'=some ((v.cut z a (l.length - a)).iv,H'):=by
 cases v with
 | nil=>
   have h:l=[]:=h;subst h
   have:a=0:=by simpa using ha
   subst this;rfl
 | sl b o m c ex=>
   have hn:=h.1;have h2:=h.2.1;have e:=hs _ _ _ _ _ rfl;simp only[ev1,SV.cut,SV.iv,e,if_true,aI,hn,Aw ha,Option.map_some]
theorem Sl.clipS{H:Heap}{v:SV}{l:List α}(h:Sl H v l){z:Nat}(hz:Cell.z α=z):Sl H (v.clip z l.length) l:=by
 cases v with
 | nil=>exact h
 | sl b o m c ex=>
   have hn:=h.1
   have:=h.2.1
   have e:=h.part hz (a:=0) (m:=l.length) (c':=l.length) (ex':=true) (by omega) (by omega);rw[List.drop_zero,List.take_length] at e;exact e
theorem Sl.slcClip{H:Heap}{v:SV}{l:List α}(h:Sl H v l){z:Nat}{H':Heap}(hs:E3 z H' v)(lo:Nat):ev1 (.slc z false true true) [v.iv,.int .i64 (l.length:Int),.int .i64 (l.length:Int)] lo H'=some ((v.clip z l.length).iv,H'):=by
 cases v with
 | nil=>have h:l=[]:=h;subst h;rfl
 | sl b o m c ex=>
   have hn:=h.1;have h2:=h.2.1;have e:=hs _ _ _ _ _ rfl;simp only[ev1,SV.clip,SV.iv,e,if_true,aI,Aw (show l.length≤c by omega),Aw (Nat.le_refl l.length),Option.map_some,Option.bind_some]
theorem Fl{H:Heap}{b e cap:Nat}{l:List α}(h:Own H b e cap l){z:Nat}(hz:Cell.z α=z):rX H b z=true:=by
 subst hz;obtain⟨h1,h2,r,h3,h4⟩:=h;unfold rX;rw[h3];simp
theorem Gr.slO{n0:Nat}{H:Heap}{e:Nat}{v:SV}{l:List α}(h:Gr n0 H e v l){z:Nat}(hz:Cell.z α=z):E3 z H v:=by
 intro b o n c ex hv;rcases h with⟨h1,_⟩ | ⟨b',h1,_,_,h4⟩
 ·rw[h1] at hv;cases hv
 ·rw[h1] at hv;injection hv with e1 e2 e3 e4 e5;subst e1;rw[Fl h4 hz,Bool.or_true]
theorem Own.slO{H:Heap}{b e cap o n:Nat}{ex:Bool}{l:List α}(h:Own H b e cap l){z:Nat}(hz:Cell.z α=z):E3 z H (.sl b o n cap ex):=by
 intro b' o n c ex hv;injection hv with e1 e2 e3 e4 e5;subst e1;rw[Fl h hz,Bool.or_true]
end
theorem Di{z:Nat}{H:Heap}{b o n c:Nat}:E3 z H (.sl b o n c true):=by
 intro b' o n c ex hv;injection hv with e1 e2 e3 e4 e5;subst e5;rfl
open Classical
section
variable {P:Program}{g0 lo:Nat}{μ:Mu}{H H':Heap}{w:World}{ρ:Operand→Value}{xs:List IV}{v:IV}
variable {dst:Option Tmp}{type:TypeId}{pos:String}{after:Array Edge}{guard:Option (Tmp×Bool)}
theorem ru:∀{es:List (IV×IV×Nat)} {l:List MapEntry} {e:MapEntry},EsR μ es l→e∈l→∃k v,(k,v,e.born)∈es∧VR μ k e.key∧VR μ v e.val
 | [],_,_,h,he=>by cases h;cases he
 | (k,v,s)::es,_,x,hr,h=>by
   obtain⟨e,l',rfl,h1,h2,h3,h'⟩:=hr
   cases h with
   | head=>exact⟨k,v,by rw[h3];exact List.mem_cons_self ..,h1,h2⟩
   | tail _ h=>obtain⟨k',v',a,b,c⟩:=ru h' h;exact⟨k',v',List.mem_cons_of_mem _ a,b,c⟩
theorem zq(h:Rel P g0 μ H.get H.n w){x:Operand}{r b since last clock:Nat}{seen:List Nat}{es:List (IV×IV×Nat)}
  (hg:H.get r=some (.iter (some b) since seen last)) (hm:az H b=some (es,clock)) (hlo:lo≤r)
  (hseen:∀e∈es,e.2.2 < last) (hold:∀e∈es,e.2.2 < since) (hne:∃e∈es,e.2.2∉seen) (hx:VRs μ [.ptr r 0] [ρ x]):
  ∃k v s,(k,v,s)∈es∧s∉seen∧Gives P g0 lo μ H w (execOp ρ ⟨dst,.next x false,type,pos,after,guard⟩) (.tuple [.bool true,k,v]) (H.put r (.iter (some b) since (seen++[s]) clock)):=by
 obtain⟨y,hy,hv⟩:=oY hx;injection hy with hy _;subst hy;obtain⟨a,hval,hl⟩:=hv
 have hown:∀o,H.get r=some o→o≠.dead→∃c p ez z,μ r=.at c p ez z∧ObjR P μ o p ez z w.heap[c]?∧a=⟨c,p+0,none⟩:=by
  intro o ho hd;unfold LocR at hl
  cases hb:μ r with
  | no=>rw[hb] at hl;exact hl.elim
  | dead=>have:=h.ded r hb;rw[ho] at this;injection this with this;exact absurd this hd
  | «at» c p ez z=>
    rw[hb] at hl;obtain⟨ob,hob,hor⟩:=h.obj r c p ez z hb;rw[ho] at hob;injection hob with hob;subst hob;exact⟨c,p,ez,z,rfl,hor,hl⟩
 obtain⟨c,p,ez,z,hb,⟨rfl,m',hheap,hvm⟩,ha⟩:=hown _ hg (by simp);subst ha;obtain⟨rm,ez2,z2,es',hvm',hbm,hheapm,hes⟩:=kC h hm hvm;injection hvm' with hvm';subst hvm';have hall:=wN (f:=fun s=>decide (last≤s)) hes;have hnil:es≠[]:=by obtain⟨e,he,_⟩:=hne;exact List.ne_nil_of_mem he
 have hc1:(!seen.toArray.isEmpty&&!es'.isEmpty&&es'.all fun e=>decide (e.born≥last))=false:=by
  have:(es'.all fun e=>decide (e.born≥last))=false:=by
   rw[←Array.all_toList,←hall,Bool.eq_false_iff];intro hh
   cases es with
   | nil=>exact hnil rfl
   | cons e es=>
     simp only[List.all_cons,Bool.and_eq_true,decide_eq_true_eq] at hh
     have:=hseen e (List.mem_cons_self ..)
     omega
  rw[this,Bool.and_false]
 have g1:(getObj c).run P w=.ok (.mapIter (some rm) since seen.toArray last) w:=by simp[getObj,Sem.run,hheap]
 have hleft:(es'.filter fun e=>!seen.toArray.contains e.born).toList=es'.toList.filter fun e=>!seen.contains e.born:=by
  rw[Array.toList_filter];simp
 have hfl:=wM (f:=fun s=>!seen.contains s) hes
 have f1:((es'.filter fun e=>!seen.toArray.contains e.born).filter fun e=>decide (e.born < since))=es'.filter fun e=>!seen.toArray.contains e.born:=by
  rw[Array.filter_eq_self];intro e he;obtain⟨k,v,hmem,_,_⟩:=ru hes (Array.mem_toList_iff.2 (Array.mem_filter.1 he).1);simpa using hold _ hmem
 have f2:((es'.filter fun e=>!seen.toArray.contains e.born).filter fun e=>decide (e.born≥since))=#[]:=by
  rw[Array.filter_eq_empty_iff];intro e he;obtain⟨k,v,hmem,_,_⟩:=ru hes (Array.mem_toList_iff.2 (Array.mem_filter.1 he).1)
  have:=hold _ hmem
  simp only at this;simp;omega
 have hpos:(es'.filter fun e=>!seen.toArray.contains e.born)≠#[]:=by
  intro e0;rw[e0] at hleft;obtain⟨e,he,hs⟩:=hne;rw[←hleft] at hfl;have hl0:=EsR.length hfl;simp only[List.length_nil] at hl0
  have:e∈es.filter fun e=>!seen.contains e.2.2:=List.mem_filter.2 ⟨he,by simpa using hs⟩
  rw[List.length_eq_zero_iff.1 hl0] at this;cases this
 generalize hL:(es'.filter fun e=>!seen.toArray.contains e.born)=L at *;have hcs:c < w.heap.size:=(Array.getElem?_eq_some_iff.1 hheap).1
 have fin:∀(i:Nat) (w1:World),w1.heap=w.heap→w1.os=w.os→w1.tape=w.tape→w1.output=w.output→w.drawn≤w1.drawn→i < L.size→∃e0 k0 v0,L[i]? =some e0∧(k0,v0,e0.born)∈es∧e0.born∉seen∧
   (∃μ',Rel P g0 μ' (H.put r (.iter (some b) since (seen++[e0.born]) clock)).get (H.put r (.iter (some b) since (seen++[e0.born]) clock)).n {w1 with heap:=w1.heap.setIfInBounds c (.mapIter (some rm) since (seen.toArray.push e0.born) clock)}∧
    Post lo μ H.get H.n w μ' (H.put r (.iter (some b) since (seen++[e0.born]) clock)).get (H.put r (.iter (some b) since (seen++[e0.born]) clock)).n {w1 with heap:=w1.heap.setIfInBounds c (.mapIter (some rm) since (seen.toArray.push e0.born) clock)}∧
    VR μ' (.tuple [.bool true,k0,v0]) (.tuple #[.bool true,e0.key,e0.val])):=by
  intro i w1 q1 q2 q3 q4 q5 hi;obtain⟨e0,he0⟩:∃e0,L[i]? =some e0:=⟨L[i],by simp[hi]⟩;have hmem:e0∈L:=Array.mem_of_getElem? he0;rw[←hL] at hmem;obtain⟨hm1,hm2⟩:=Array.mem_filter.1 hmem;obtain⟨k0,v0,hin,hk0,hv0⟩:=ru hes (Array.mem_toList_iff.2 hm1)
  obtain⟨hr,hp⟩:=h.update (lo:=lo) (w':={w1 with heap:=w1.heap.setIfInBounds c (.mapIter (some rm) since (seen.toArray.push e0.born) clock)}) (o:=.iter (some b) since (seen++[e0.born]) clock) hb hlo ⟨_,hg,rfl⟩ (by simp[q1]) (fun c' hc'=>by simp only[q1];rw[Array.getElem?_setIfInBounds_ne (Ne.symm hc')]) (by
   simp only[q1];rw[Array.getElem?_setIfInBounds_self_of_lt hcs];exact⟨rfl,some rm,by simp,hvm⟩) q2 q3 q4 q5
  exact⟨e0,k0,v0,he0,hin,by simpa using hm2,μ,hr,hp,⟨_,rfl,_,_,rfl,rfl,_,_,rfl,hk0,_,_,rfl,hv0,rfl⟩⟩
 have hemp:L.isEmpty=false:=by simpa [Array.isEmpty_iff] using hpos
 have hsz:0 < L.size:=Array.size_pos_iff.2 hpos;by_cases hfc:L.size≤1
 ·obtain⟨e0,k0,v0,he0,hin,hns,μ',h1,h2,h3⟩:=fin 0 w rfl rfl rfl rfl (Nat.le_refl _) hsz;refine⟨k0,v0,e0.born,hin,hns,.value (.tuple #[.bool true,e0.key,e0.val]),.tuple #[.bool true,e0.key,e0.val],_,μ',?_,.inl rfl,h1,h2,h3⟩;simp only[execOp,Instr.next,hval,Sem.run_bind,g1,Result.andThen_ok,bh hheapm,hc1,Bool.false_eq_true,if_false,hL,f1,f2,hemp];simp[choose,Sem.run,Question.forced,setObj,hheap,hfc,he0]
 ·have hfo:(Question.mapNext L.size).forced=false:=by simp[Question.forced];omega
  have hlt:(Question.mapNext L.size).cut (w.tape w.drawn (.mapNext L.size)) < L.size:=Nat.mod_lt _ hsz;obtain⟨e0,k0,v0,he0,hin,hns,μ',h1,h2,h3⟩:=fin _ {w with drawn:=w.drawn+1} rfl rfl rfl rfl (Nat.le_succ _) hlt;refine⟨k0,v0,e0.born,hin,hns,.value (.tuple #[.bool true,e0.key,e0.val]),.tuple #[.bool true,e0.key,e0.val],_,μ',?_,.inl rfl,h1,h2,h3⟩;simp only[execOp,Instr.next,hval,Sem.run_bind,g1,Result.andThen_ok,bh hheapm,hc1,Bool.false_eq_true,if_false,hL,f1,f2,hemp];have hd:w.drew.heap=w.heap:=rfl;simp[choose,Sem.run,hfo,setObj,hd,hheap,he0];exact⟨rfl,rfl⟩
end
open Classical
def xQ:Nat→Nat→Heap→Heap
 | 0,_,H=>H
 | k+1,b,H=>xQ k (b+1) (H.put b .dead)
theorem Fd:∀(k b:Nat) (H:Heap),(xQ k b H).n=H.n
 | 0,_,_=>rfl
 | k+1,b,H=>by rw[xQ,Fd k,af]
theorem xP:∀(k b:Nat) (H:Heap) (x:Nat),(xQ k b H).get x=if b≤x∧x < b+k then some .dead else H.get x
 | 0,b,H,x=>by rw[if_neg (by omega)];rfl
 | k+1,b,H,x=>by
   rw[xQ,xP k,aa];by_cases h1:b+1≤x∧x < b+1+k
   ·rw[if_pos h1,if_pos (by omega)]
   ·rw[if_neg h1];by_cases h2:b=x
    ·rw[if_pos h2,if_pos (by omega)]
    ·rw[if_neg h2,if_neg (by omega)]
def bz(lo:Nat)(H:Heap):Heap:=xQ (H.n - lo) lo H
theorem jC(lo:Nat)(H:Heap):(bz lo H).n=H.n:=Fd _ _ _
theorem i5(lo:Nat)(H:Heap)(x:Nat)(hx:x < H.n):(bz lo H).get x=if lo≤x then some .dead else H.get x:=by
 rw[bz,xP];by_cases h:lo≤x
 ·rw[if_pos h,if_pos (by omega)]
 ·rw[if_neg h,if_neg (by omega)]
theorem pm{lo lo':Nat}(H:Heap)(h:lo≤lo'):Keep lo H (bz lo' H):=
 ⟨by rw[jC];exact Nat.le_refl _,fun b h1 h2=>by rw[i5 _ _ _ h2,if_neg (by omega)]⟩
theorem CallSim.lower{P:Program}{g0:Nat}{f:FuncId}{args:List IV}{lo lo':Nat}{H H':Heap}{v:IV}(hl:lo'≤lo)(h:CallSim P g0 f args lo H v H'):CallSim P g0 f args lo' H v H':=by
 intro μ w args' hr ha;exact(h μ w args' hr ha).mono fun e w' ⟨v',μ',h1,h2,h3,h4⟩=>⟨v',μ',h1,h2,h3.lower hl,h4⟩
def xR(sz:Nat)(v:IV):Prop:=∃cs,v=.agg cs∧cs.length=sz∧cs.all IV.one=true
def yy(P:Program)(g0:Nat)(f:FuncId)(sz:Nat)(args:List IV)(H:Heap)(p:Nat×IV):Prop:=
 p.1≤H.n∧xR sz p.2∧CallSim P g0 f args p.1 H p.2 (bz p.1 H)
def Er(P:Program)(g0:Nat)(f:FuncId)(sz:Nat)(args:List IV)(H:Heap)(p:Nat×IV):Prop:=
 yy P g0 f sz args H p∧∀q,yy P g0 f sz args H q→q.1≤p.1
noncomputable def jJ(P:Program)(g0:Nat)(f:FuncId)(sz:Nat):List IV→Nat→Heap→Option (IV×Heap):=fun args lo H=>
 if h:∃p,Er P g0 f sz args H p then
  if lo≤(Classical.choose h).1 then some ((Classical.choose h).2,bz (Classical.choose h).1 H) else none
 else none
theorem Hu{P:Program}{g0:Nat}{f:FuncId}{sz:Nat}{args:List IV}{H:Heap}{q:Nat×IV}(h:yy P g0 f sz args H q):∃p,Er P g0 f sz args H p:=by
 suffices ∀k (q:Nat×IV),yy P g0 f sz args H q→H.n - q.1≤k→∃p,Er P g0 f sz args H p from this _ q h (Nat.le_refl _)
 intro k
 induction k with
 | zero=>intro q hq hk;exact⟨q,hq,fun r hr=>by have:=hr.1;omega⟩
 | succ k ih=>
   intro q hq hk;by_cases hm:∃r,yy P g0 f sz args H r∧q.1 < r.1
   ·obtain⟨r,hr,hlt⟩:=hm;exact ih r hr (by have:=hr.1;omega)
   ·exact⟨q,hq,fun r hr=>by
     rcases Nat.lt_or_ge q.1 r.1 with h | h
     ·exact absurd ⟨r,hr,h⟩ hm
     ·exact h⟩
theorem Cw{P:Program}{g0:Nat}{f:FuncId}{sz lo l0:Nat}{args:List IV}{H:Heap}{v0:IV}(hl:lo≤l0)(hn:l0≤H.n)(hg:xR sz v0)(h:CallSim P g0 f args l0 H v0 (bz l0 H)):
  ∃l v,jJ P g0 f sz args lo H=some (v,bz l H)∧l0≤l∧l≤H.n∧xR sz v:=by
 have hex:=Hu (show yy P g0 f sz args H (l0,v0) from⟨hn,hg,h⟩);have hm:=Classical.choose_spec hex;have h1:=hm.2 (l0,v0) ⟨hn,hg,h⟩;have h1:l0≤(Classical.choose hex).1:=h1;refine⟨(Classical.choose hex).1,(Classical.choose hex).2,?_,h1,hm.1.1,hm.1.2.1⟩;unfold jJ;rw[dif_pos hex,if_pos (by omega)]
theorem AA{P:Program}{g0:Nat}{f:FuncId}{sz:Nat}{args:List IV}{lo:Nat}{H:Heap}{v:IV}{H':Heap}(h:jJ P g0 f sz args lo H=some (v,H')):
  Keep lo H H'∧∀lo',lo'≤lo→jJ P g0 f sz args lo' H=some (v,H'):=by
 unfold jJ at h⊢;split at h
 ·rename_i hex;split at h
  ·rename_i hlo;injection h with h;injection h with h1 h2;subst h1 h2;refine⟨pm H hlo,fun lo' hl=>?_⟩;rw[dif_pos hex,if_pos (by omega)]
  ·cases h
 ·cases h
theorem Eg{P:Program}{g0:Nat}{f:FuncId}{sz:Nat}{args:List IV}{lo:Nat}{H:Heap}{v:IV}{H':Heap}(h:jJ P g0 f sz args lo H=some (v,H')):CallSim P g0 f args lo H v H':=by
 unfold jJ at h;split at h
 ·rename_i hex;split at h
  ·rename_i hlo;injection h with h;injection h with h1 h2;subst h1 h2;exact(Classical.choose_spec hex).1.2.2.lower hlo
  ·cases h
 ·cases h
def NItem(P:Program)(g0 lo:Nat)(it:Item)(rd:Option Nat)(fr:Fr)(H:Heap)(Q:Out→Heap→Prop):Prop:=
 ∀(μ:Mu) (w:World) (t:Array Value) (r:Option Nat) (ds:List Deferred),Rel P g0 μ H.get H.n w→VRs μ fr.tm t.toList→RdR μ rd r→DsR μ fr.marks ds→∀(f:FuncId) (k:List Item) (cs:List Frame),
  ∃e fr' H' μ' w' t' ds',Q (.ex e fr') H'∧Rel P g0 μ' H'.get H'.n w'∧Post lo μ H.get H.n w μ' H'.get H'.n w'∧VRs μ' fr'.tm t'.toList∧DsR μ' fr'.marks ds'∧
   Arr P f r t' ds' cs w' (lone (aZ f r t ds (it::k)) cs w) k e
section
variable {P:Program}{E:Env}{g0 lo:Nat}{rd:Option Nat}{fr:Fr}{H:Heap}{Q Q':Out→Heap→Prop}
theorem NItem.mono{it:Item}(h:NItem P g0 lo it rd fr H Q)(hq:∀e fr' H',Q (.ex e fr') H'→Q' (.ex e fr') H'):NItem P g0 lo it rd fr H Q':=by
 intro μ w t r ds hr ht hrd hds f k cs;obtain⟨e,fr',H',μ1,w1,t1,ds1,a0,a1,a2,a3,a4,a5⟩:=h μ w t r ds hr ht hrd hds f k cs;exact⟨e,fr',H',μ1,w1,t1,ds1,hq _ _ _ a0,a1,a2,a3,a4,a5⟩
theorem CI{it:Item}{e:Ex}{fr':Fr}{H':Heap}(h:ItemSim P g0 lo it rd fr H e fr' H')(hq:Q (.ex e fr') H'):NItem P g0 lo it rd fr H Q:=by
 intro μ w t r ds hr ht hrd hds f k cs;obtain⟨μ1,w1,t1,ds1,a1,a2,a3,a4,a5⟩:=h μ w t r ds hr ht hrd hds f k cs;exact⟨e,fr',H',μ1,w1,t1,ds1,hq,a1,a2,a3,a4,a5⟩
theorem ik(hE:EnvOk P E){c:Code}{ic:IC}(hc:aK P c=some ic)(h:W E lo (.code ic rd fr) H Q):NItem P E.g0 lo (.code c) rd fr H Q:=by
 obtain⟨n,o,H',hrun,hq⟩:=h;obtain⟨e,fr',rfl,hs⟩:=wB (uq hE n) n (Nat.le_refl _) c ic rd fr lo H o H' hc hrun;exact CI hs hq
theorem NItem.seq{it0 it1 it2:Item}(hs:∀f r t ds k cs w,step P (lone (aZ f r t ds (it0::k)) cs w)=.next (lone (aZ f r t ds (it1::it2::k)) cs w))(hit:∀id k,exitTo id (it2::k)=exitTo id k)
  (h1:NItem P g0 lo it1 rd fr H fun o H1=>match o with
   | .ex .normal fr1=>NItem P g0 lo it2 rd fr1 H1 Q
   | o=>Q o H1):NItem P g0 lo it0 rd fr H Q:=by
 intro μ w t r ds hr ht hrd hds f k cs;obtain⟨e,fr1,H1,μ1,w1,t1,ds1,a0,a1,a2,a3,a4,a5⟩:=h1 μ w t r ds hr ht hrd hds f (it2::k) cs
 cases e with
 | normal=>
   obtain⟨e2,fr2,H2,μ2,w2,t2,ds2,b0,b1,b2,b3,b4,b5⟩:=a0 μ1 w1 t1 r ds1 a1 a3 (hrd.mono a2.le) a4 f k cs;exact⟨e2,fr2,H2,μ2,w2,t2,ds2,b0,b1,a2.trans b2,b3,b4,b5.head (Steps.head (hs f r t ds k cs w) a5)⟩
 | jmp j=>exact⟨.jmp j,fr1,H1,μ1,w1,t1,ds1,a0,a1,a2,a3,a4,(a5.skipItem hit).head (.one (hs f r t ds k cs w))⟩
theorem NItem.seqC{a b:Code}(h1:NItem P g0 lo (.code a) rd fr H fun o H1=>match o with
   | .ex .normal fr1=>NItem P g0 lo (.code b) rd fr1 H1 Q
   | o=>Q o H1):NItem P g0 lo (.code (.seq a b)) rd fr H Q:=
 NItem.seq (fun f r t ds k cs w=>Dd) (sN b) h1
theorem AC{id:Nat}{c:Code}(h:NItem P g0 lo (.code c) rd fr H fun o H'=>match o with
   | .ex (.jmp (.exit id')) fr'=>Q (.ex (if id'=id then .normal else .jmp (.exit id')) fr') H'
   | o=>Q o H'):NItem P g0 lo (.code (.block id c)) rd fr H Q:=by
 intro μ w t r ds hr ht hrd hds f k cs;obtain⟨e1,fr1,H1,μ1,w1,t1,ds1,a0,a1,a2,a3,a4,a5⟩:=h μ w t r ds hr ht hrd hds f (.inBlock id::k) cs;have st:step P (lone (aZ f r t ds (.code (.block id c)::k)) cs w)=.next (lone (aZ f r t ds (.code c::.inBlock id::k)) cs w):=A2
 cases e1 with
 | normal=>exact⟨.normal,fr1,H1,μ1,w1,t1,ds1,a0,a1,a2,a3,a4,Steps.head st (Steps.trans a5 (.one vm))⟩
 | jmp j=>
   obtain⟨pre,b1,b2⟩:=a5
   cases j with
   | ret=>exact⟨.jmp .ret,fr1,H1,μ1,w1,t1,ds1,a0,a1,a2,a3,a4,pre++[.inBlock id],Steps.head st (by simpa using b1),fun id' e=>by cases e⟩
   | exit id'=>
     refine⟨_,fr1,H1,μ1,w1,t1,ds1,a0,a1,a2,a3,a4,?_⟩
     have hx:=b2 id' rfl;rw[nC] at hx;by_cases he:id'=id
     ·subst he;simp only[if_true] at hx⊢;exact Steps.head st (b1.trans (.one (EY hx)))
     ·rw[if_neg (Ne.symm he)] at hx;rw[if_neg he];refine⟨pre++[.inBlock id],Steps.head st (by simpa using b1),fun id'' e=>?_⟩;injection e with e;subst e;simpa using hx
theorem NItem.inLoop{c:Code}(Inv:Nat→Fr→Heap→Prop)(hb:∀n fr H,Inv n fr H→NItem P g0 lo (.code c) rd fr H fun o H'=>match o with
   | .ex .normal fr'=>∃m,m < n∧Inv m fr' H'
   | o=>Q o H'):∀n fr H,Inv n fr H→NItem P g0 lo (.inLoop c) rd fr H Q:=by
 intro n
 induction n using Nat.strongRecOn with
 | _ n ih=>
   intro fr H hI;refine NItem.seq (fun f r t ds k cs w=>rE) (iA c) ((hb n fr H hI).mono fun e fr' H' hq=>?_)
   cases e with
   | normal=>obtain⟨m,hm,hI'⟩:=hq;exact ih m hm fr' H' hI'
   | jmp j=>exact hq
theorem NItem.loopC{c:Code}(Inv:Nat→Fr→Heap→Prop)(n:Nat)(h0:Inv n fr H)(hb:∀n fr H,Inv n fr H→NItem P g0 lo (.code c) rd fr H fun o H'=>match o with
   | .ex .normal fr'=>∃m,m < n∧Inv m fr' H'
   | o=>Q o H'):NItem P g0 lo (.code (.loop c)) rd fr H Q:=by
 refine NItem.seq (fun f r t ds k cs w=>zn) (iA c) ((hb n fr H h0).mono fun e fr' H' hq=>?_)
 cases e with
 | normal=>obtain⟨m,hm,hI'⟩:=hq;exact NItem.inLoop Inv hb m fr' H' hI'
 | jmp j=>exact hq
def NOp(P:Program)(g0:Nat)(o:Oper)(lo:Nat)(xs:List IV)(H:Heap)(R:IV→Heap→Prop):Prop:=
 ∀(μ:Mu) (w:World) (t:Array Value),Rel P g0 μ H.get H.n w→VRs μ xs (o.op.operands.toList.map (bW t))→
  ∀(f:FuncId) (rd:Option Nat) (ds:List Deferred) (k:List Item) (cs:List Frame) (ops:Array Oper) (i:Nat) (rest:List Nat),
  ∃(v:IV) (H':Heap) (v':Value) (w':World) (μ':Mu),R v H'∧Rel P g0 μ' H'.get H'.n w'∧Post lo μ H.get H.n w μ' H'.get H'.n w'∧VR μ' v v'∧
   (ops[i]? =some o→Region.wanted o (yielded ops t)=true→Steps P (lone (aZ f rd t ds (.inRegion ops (i::rest)::k)) cs w) (lone (aZ f rd (mG t o.dst v') ds (.inRegion ops rest::k)) cs w'))
theorem NItem.region(hE:EnvOk P E){id:Nat}{ops:Array Oper}{pre post:List IOp}{io:IOp}(hc:ce P ops false=some [(.seq,pre++io::post)])(hg:io.guard=none){R:IV→Heap→Prop}
  (hpre:W E lo (.ops none pre rd fr) H fun o H1=>∃fr1 xs,o=.ex .normal fr1∧be E.g0 fr1.tm io.args=some xs∧
   (∀o,bG P o.op=some io.kd→NOp P E.g0 o lo xs H1 R)∧
   ∀v H2,R v H2→W E lo (.ops none post rd (fr1.put io.dst v)) H2 fun o H'=>∃fr',o=.ex .normal fr'∧Q (.ex .normal fr') H'):
  NItem P E.g0 lo (.code (.region id ops false)) rd fr H Q:=by
 simp only[ce] at hc
 cases h1:ops.toList.mapM (lm P ops) with
 | none=>rw[h1] at hc;cases hc
 | some l=>
   rw[h1] at hc;simp only[Option.bind_eq_bind,Option.bind_some,Bool.false_eq_true,if_false] at hc
   have hc:l=pre++io::post:=by
    have:=Option.some.inj hc
    simpa using this
   subst hc;obtain⟨hl,hget⟩:=nj h1;obtain⟨n,o,H1,hrun,fr1,xs,rfl,hxs,hop,hpost⟩:=hpre;obtain⟨fr1',S1,e1,htr1⟩:=oP (N:=n) pre n (Nat.le_refl _) _ _ _ _ _ hrun;injection e1 with _ e1;subst e1
   have hos:∀(j:Nat) (io':IOp),(pre++io::post)[j]? =some io'→∃o,ops[j]? =some o∧OpOk P ops o io':=fun j io' hj=>by
    obtain⟨o,q1,q2⟩:=hget j io' hj;obtain⟨e3,e4,e5,e6⟩:=kF q2;exact⟨o,by simpa using q1,e3,e4,e5,e6⟩
   have hlen:ops.size=pre.length+(post.length+1):=by
    rw[←Array.length_toList,←hl];simp
   intro μ w t r ds hr ht hrd hds f k cs
   have j7:List.range ops.size=List.range' 0 pre.length++(pre.length::List.range' (pre.length+1) post.length):=by
    rw[List.range_eq_range',hlen,←List.range'_append_1,Nat.zero_add,List.range'_succ]
   obtain⟨μ1,t1,w1,a1,a2,a3,a4⟩:=ub (a:=0) (ops:=ops) (uq hE n) (fun j io' hj=>by
    have hlt:j < pre.length:=(List.getElem?_eq_some_iff.1 hj).1;obtain⟨o,q1,q2⟩:=hos j io' (by rw[List.getElem?_append_left hlt];exact hj);exact⟨o,by rw[Nat.zero_add];exact q1,q2⟩) htr1 hr ht f r ds k cs (pre.length::List.range' (pre.length+1) post.length)
   obtain⟨o,ho,hok⟩:=hos pre.length io (by simp)
   have hwant:Region.wanted o (yielded ops t1)=true:=by
    rw[lx hok.guard (by simpa using a3.length) (fun d w' _=>gC a3 d),hg];rfl
   have hxs':=cX a1 hok.args hxs (fun i _=>gC a3 i);obtain⟨v,H2,v',w2,μ2,b0,b1,b2,b3,b4⟩:=hop o hok.kd μ1 w1 t1 a1 hxs' f r ds k cs ops pre.length (List.range' (pre.length+1) post.length);have b4:=b4 ho hwant
   have b5:VRs μ2 (fr1.put io.dst v).tm (mG t1 o.dst v').toList:=by
    rw[hok.dst]
    cases o.dst with
    | none=>exact VRs.mono b2.le _ _ a3
    | some d=>simp only[Fr.put,mG,Array.toList_setIfInBounds];exact(VRs.mono b2.le _ _ a3).set d b3
   obtain⟨n3,o3,H3,hrun3,fr3,rfl,hq⟩:=hpost v H2 b0;obtain⟨fr3',S3,e3,htr3⟩:=oP (N:=n3) post n3 (Nat.le_refl _) _ _ _ _ _ hrun3;injection e3 with _ e3;subst e3
   obtain⟨μ3,t3,w3,c1,c2,c3,c4⟩:=ub (a:=pre.length+1) (ops:=ops) (uq hE n3) (fun j io' hj=>by
    obtain⟨o,q1,q2⟩:=hos (pre.length+1+j) io' (by rw[List.getElem?_append_right (by omega),show pre.length+1+j - pre.length=j+1 by omega];simpa using hj);exact⟨o,q1,q2⟩) htr3 b1 b5 f r ds k cs []
   rw[List.append_nil] at c4;refine⟨.normal,fr3,H3,μ3,w3,t3,ds,hq,c1,(a2.trans b2).trans c2,c3,?_,?_⟩
   ·have hm:fr3.marks=fr.marks:=by
     rw[htr3.marks]
     have:(fr1.put io.dst v).marks=fr1.marks:=by cases io.dst<;>rfl
     rw[this,htr1.marks]
    rw[hm];exact hds.mono ((a2.trans b2).trans c2).le
   ·refine Steps.head xr ?_;rw[j7];exact a4.trans (b4.trans (c4.trans (.one kq)))
theorem NOp.next{o:Oper}(hk:bG P o.op=some .nextM){r b since last clock:Nat}{seen:List Nat}{es:List (IV×IV×Nat)}
  (hg:H.get r=some (.iter (some b) since seen last)) (hm:az H b=some (es,clock)) (hlo:lo≤r)
  (hseen:∀e∈es,e.2.2 < last) (hold:∀e∈es,e.2.2 < since) (hne:∃e∈es,e.2.2∉seen):
  NOp P g0 o lo [.ptr r 0] H fun v H'=>∃k x s,(k,x,s)∈es∧s∉seen∧v=.tuple [.bool true,k,x]∧H'=H.put r (.iter (some b) since (seen++[s]) clock):=by
 intro μ w t hr hx f rd ds k cs ops i rest
 obtain⟨y,hop⟩:∃y,o.op=.next y false:=by
  cases ho:o.op<;>rw[ho] at hk<;>simp only[bG,BQ,aH,Option.map_eq_some_iff,Option.bind_eq_some_iff] at hk
  all_goals (repeat' split at hk)
  all_goals (try simp only[Option.bind_eq_some_iff,Option.map_eq_some_iff,reduceCtorEq,and_false,exists_false] at hk)
  all_goals first
   | (cases hk;done)
   | exact⟨_,rfl⟩
   | grind
 obtain⟨dst,op,type,pos,after,guard⟩:=o;simp only at hop;subst hop;have hx:VRs μ [.ptr r 0] [bW t y]:=by simpa [Op.operands] using hx
 obtain⟨k0,v0,s0,h1,h2,nx,v',w',μ',hrun,hnx,hr',hp,hv⟩:=zq (dst:=dst) (type:=type) (pos:=pos) (after:=after) (guard:=guard) (ρ:=bW t) hr hg hm hlo hseen hold hne hx;exact⟨_,_,v',w',μ',⟨k0,v0,s0,h1,h2,rfl,rfl⟩,hr',hp,hv,fun ho hw=>.one (A1 ho hw (vV hk) hrun hnx)⟩
def FE(P:Program)(g0:Nat)(f:FuncId)(args:List IV)(lo:Nat)(H:Heap)(R:IV→Heap→Prop):Prop:=
 ∀(μ:Mu) (w:World) (args':Array Value),Rel P g0 μ H.get H.n w→VRs μ args args'.toList→
  Calls P f args' w fun e w'=>∃(v:IV) (H':Heap) (v':Value) (μ':Mu),R v H'∧e=.returned v'∧Rel P g0 μ' H'.get H'.n w'∧Post lo μ H.get H.n w μ' H'.get H'.n w'∧VR μ' v v'
theorem NOp.call{o:Oper}(hk:bG P o.op=some .call){g:FuncId}{first cap args:List IV}{fn:Func}{body:Code}(hf:P.funcs[g]? =some fn)(hb:fn.body=some body)(hn:(fn.name=="runtime.NumGoroutine")=false){R:IV→Heap→Prop}
  (h:FE P g0 g (first++args++cap) lo H R):NOp P g0 o lo (.fn g first cap::args) H R:=by
 obtain⟨fo,ars,ts,ho⟩:=Fe hk;intro μ w t hr hx f rd ds k cs ops i rest;have hops:o.op.operands.toList.map (bW t)=bW t fo::ars.toList.map (bW t):=by rw[ho];simp[Op.operands,Call.operands]
 rw[hops] at hx;obtain⟨y,yl,hy,hvf,hva⟩:=hx;simp only[List.cons.injEq] at hy;obtain⟨rfl,rfl⟩:=hy;obtain⟨l',r',hfe,hl,hrr⟩:=hvf;have hva:VRs μ args (ars.map (bW t)).toList:=by simpa using hva
 have hvs:VRs μ (first++args++cap) ((l'++ars.map (bW t))++r').toList:=by
  rw[Array.toList_append,Array.toList_append];exact(hl.append hva).append hrr
 obtain⟨e,w',fr,⟨v,H',v',μ',hR,rfl,hr',hp,hv⟩,hsteps,hfn,hleave⟩:=h μ w _ hr hvs (aZ f rd t ds (.inRegion ops (i::rest)::k)::cs);refine⟨v,H',v',w',μ',hR,hr',hp,hv,fun hoi hw=>?_⟩;rw[←lX hoi]
 have hrun:(execOp (bW t) o).run P w=.ok (.enter g ((l'++ars.map (bW t))++r')) w:=by
  have hn':¬fn.name="runtime.NumGoroutine":=by simpa using hn
  simp only[execOp,ho,resolve,hfe];simp[Deferred.ofValue,invoke,callFunc,hf,hn',hb]
 refine Steps.head (step_lone_go ?_) (Steps.trans hsteps (.one (step_leave_returned hleave)));rw[mU hoi hw (fun c e=>by rw[ho] at e;cases e),nv];simp only[stepG.apply,Sem.runT_eq,hrun,if_true,GStep.bare_after];split
 ·rename_i heq;simp[aZ] at heq
 ·rfl
end
open Go.Sort Go.Proofs Go.Shelf
section
variable {P:Program}{g0 lo:Nat}{μ:Mu}{H:Heap}{w:World}
theorem Gq{n n':Nat}{g g':Gt}{μ':Mu}{w':World}(hp:Post n μ g n w μ' g' n' w'):∃q os,w'=grow (w.drewN q) os:=by
 have hh:w'.heap=w.heap++w'.heap.extract w.heap.size w'.heap.size:=by
  apply Array.ext_getElem?;intro i;by_cases hi:i < w.heap.size
  ·rw[Array.getElem?_append_left hi];exact hp.frame i hi fun b p ez z h1 h2=>by omega
  ·rw[Array.getElem?_append_right (by omega),Array.getElem?_extract];have hs:=hp.size;by_cases h2:i < w'.heap.size
   ·rw[if_pos (by omega),show w.heap.size+(i - w.heap.size)=i by omega]
   ·rw[if_neg (by omega),Array.getElem?_eq_none (by omega)]
 refine⟨w'.drawn - w.drawn,w'.heap.extract w.heap.size w'.heap.size,?_⟩
 have h1:=hp.os;have h2:=hp.tape;have h3:=hp.output;have h4:=hp.drawn;obtain⟨h,t,d,o,u⟩:=w;obtain⟨h',t',d',o',u'⟩:=w';simp only at h1 h2 h3 h4 hh⊢;subst h1 h2 h3
 show World.mk h' t' d' o' u'=World.mk (h++h'.extract h.size h'.size) t' (d+(d' - d)) o' u'
 rw[←hh,show d+(d' - d)=d' by omega]
theorem BT(os:Array Obj){c:Nat}(hc:c < w.heap.size):(grow w os).heap[c]? =w.heap[c]?:=Array.getElem?_append_left hc
theorem Rel.grown{g:Gt}{n:Nat}(h:Rel P g0 μ g n w)(os:Array Obj):Rel P g0 μ g n (grow w os):=
 ⟨h.lt,h.inj,fun b c p ez z hb=>by rw[BT os (h.clt hb)];exact h.obj b c p ez z hb,h.glob,h.ded⟩
theorem Post.grown{g:Gt}{n:Nat}(h:Rel P g0 μ g n w)(os:Array Obj):Post lo μ g n w μ g n (grow w os) where
 le:=μ.le_refl
 hn:=Nat.le_refl _
 old:=fun _ _ h=>h
 low:=fun _ _ _=>⟨rfl,rfl⟩
 own:=fun _ _ h=>h
 new:=fun b c p ez z hb e=>absurd (h.lt b (by rw[e];exact fun x=>by cases x)) (by omega)
 full:=fun b h1 h2=>by omega
 size:=by show _≤(w.heap++os).size;rw[Array.size_append];omega
 frame:=fun c hc _=>BT os hc
 os:=rfl
 tape:=rfl
 output:=rfl
 drawn:=Nat.le_refl _
def TD:IV→Value
 | .int k n=>.int k n
 | _=>undef
def Ff:IV→Bool
 | .int _ _=>true
 | _=>false
theorem rh:∀{L:List IV} {vs:List Value},L.all Ff=true→(VRs μ L vs↔vs=L.map TD)
 | [],vs,_=>by constructor<;>exact fun h=>h
 | x::L,vs,h=>by
   simp only[List.all_cons,Bool.and_eq_true] at h;have ih:=fun vs=>rh (L:=L) (vs:=vs) h.2
   obtain⟨k,n,rfl⟩:∃k n,x=.int k n:=by
    cases x with
    | int k n=>exact⟨k,n,rfl⟩
    | _=>exact absurd h.1 (by simp[Ff])
   constructor
   ·rintro⟨y,ys,rfl,hy,hys⟩
    have hy:y=.int k n:=hy;rw[hy,(ih ys).1 hys];rfl
   ·rintro rfl;exact⟨_,_,rfl,rfl,(ih _).2 rfl⟩
theorem wX(F:Array Value)(cs:Array Value)(h:F.size≤cs.size):(putCells id 0 F cs).toList.take F.size=F.toList:=by
 apply List.ext_getElem?;intro i;rw[List.getElem?_take];by_cases hi:i < F.size
 ·rw[if_pos hi,Array.getElem?_toList,Array.getElem?_toList];unfold putCells;rw[Array.getElem?_mapIdx,Array.getElem?_eq_getElem (by omega:i < cs.size)];simp only[Option.map_some];rw[if_pos (by omega),Nat.sub_zero,getElem!_pos F i hi,Array.getElem?_eq_getElem hi];rfl
 ·rw[if_neg hi,Array.getElem?_toList,Array.getElem?_eq_none (by omega)]
theorem MW(h:Rel P g0 μ H.get H.n w){b c e ez z:Nat}{cs cs2:List IV}(hb:μ b=.at c 0 ez z)(hlo:lo≤b)(hg:H.get b=some (.cells false e ez cs)){F:Array Value}(hF:VRs μ cs2 F.toList)(hl:cs2.length=cs.length)(m:Nat):
  Rel P g0 μ (H.put b (.cells false e ez cs2)).get (H.put b (.cells false e ez cs2)).n (putRow id (Sort.ahead w m) c 0 F)∧Post lo μ H.get H.n w μ (H.put b (.cells false e ez cs2)).get (H.put b (.cells false e ez cs2)).n (putRow id (Sort.ahead w m) c 0 F):=by
 obtain⟨o,ho,hor⟩:=h.obj b c 0 ez z hb;rw[hg] at ho;injection ho with ho;subst ho;obtain⟨_,_,cs',hc,hz,hle,hv⟩:=hor;have hsz:F.size=cs2.length:=by rw[←Array.length_toList,hF.length]
 refine h.update hb hlo ⟨_,hg,rfl⟩ (by show(w.heap.modify c _).size=_;rw[Array.size_modify]) (fun c' hc'=>by show(w.heap.modify c _)[c']? =_;rw[Array.getElem?_modify,if_neg (Ne.symm hc')]) ?_ rfl rfl rfl (Nat.le_add_right _ _);refine⟨rfl,rfl,putCells id 0 F cs',?_,?_,by omega,?_⟩
 ·show(w.heap.modify c _)[c]? =_
  rw[Array.getElem?_modify,if_pos rfl,hc];rfl
 ·unfold putCells;rw[Array.size_mapIdx];exact hz
 ·rw[←hsz,wX F cs' (by omega)];exact hF
section
variable {α:Type}[Inhabited α]
theorem vx:∀(l:List Value),(List.range l.length).map (fun t=>l[t]!)=l:=by
 intro l;apply List.ext_getElem (by simp);intro i h1 h2;simp[List.getElem?_eq_getElem h2]
theorem zV(enc:α→List Value)(k:Nat)(hk:∀x,(enc x).length=k)(hk0:0 < k):∀(l:List α),(flatK enc k l.toArray).toList=l.flatMap enc:=by
 have key:∀(l:List α),(List.range (l.length*k)).map (fun t=>(enc l[t / k]!)[t%k]!)=l.flatMap enc:=by
  intro l
  induction l with
  | nil=>simp
  | cons a l ih=>
    rw[List.length_cons,Nat.succ_mul,Nat.add_comm,List.range_add,List.map_append,List.flatMap_cons,←ih];congr 1
    ·conv=>rhs;rw[←vx (enc a),hk]
     apply List.map_congr_left;intro t ht;have ht:=List.mem_range.1 ht;rw[Nat.div_eq_of_lt ht,Nat.mod_eq_of_lt ht];rfl
    ·rw[List.map_map];apply List.map_congr_left;intro t _
     show(enc (a::l)[(k+t) / k]!)[(k+t)%k]! =_
     rw[Nat.add_div_left _ hk0,Nat.add_mod_left];rfl
 intro l;unfold flatK;rw[Array.toList_map,Array.toList_range,←key l];simp
end
section
variable {α:Type}[Inhabited α][Cell α]
def pK(x:α):List Value:=(Cell.cs x).map TD
omit [Inhabited α] in
theorem B4(x:α):(pK x).length=Cell.z α:=by unfold pK;rw[List.length_map,Cell.len]
omit [Inhabited α] in
theorem Ha(l:List α):l.flatMap pK=(aB l).map TD:=by
 unfold aB pK;rw[List.map_flatMap]
def CE(cf:α→α→Int)(b e ez:Nat)(l:List α)(H:Heap)(v:IV)(H':Heap):Prop:=
 v=.tuple []∧∃l':List α,l'.Perm l∧l'.Pairwise (fun x y=>ltOf cf y x=false)∧H'.n=H.n∧(∀x,x≠b→H'.get x=H.get x)∧H'.get b=some (.cells false e ez (aB l'))
theorem vo{ρ:Ren}(L:SlLaysF0.n6 P ρ)(hint:∀x:α,(Cell.cs x).all Ff=true)(aE:∀w,(isAgg (ρ.t 24)).run P w=.ok true w)(zE:∀w,(Go.sizeOf (ρ.t 24)).run P w=.ok (Cell.z α) w)
  (cf:α→α→Int) (hO:SWO (ltOf cf)) {g b e ez lb:Nat} {ex:Bool} {l:List α} (hlo:lo≤b) (hg:H.get b=some (.cells false e ez (aB l))) (hsz:l.length < 4611686018427387904)
  (eg:∀args w,(callFunc g args).run P w=.ok (.enter g args) w) (hcmp:∀(x y:α) (H':Heap),∃H'',CallSim P g0 g [.agg (Cell.cs x),.agg (Cell.cs y)] H'.n H' (.int .i64 (cf x y)) H''):
  FE P g0 (ρ.f 6) [.slice b 0 l.length lb ex,.fn g [] []] lo H (CE cf b e ez l H):=by
 intro μ w args' hr ha;obtain⟨v1,vs1,e1,hv1,v2,vs2,rfl,hv2,rfl⟩:=ha;obtain⟨a,cap,rfl,hcap,hsl⟩:=hv1;obtain⟨l1,r1,rfl,hl1,hr1⟩:=hv2;have hl1:l1.toList=[]:=hl1;have hr1:r1.toList=[]:=hr1;have hl1:l1=#[]:=Array.toList_eq_nil_iff.1 hl1;have hr1:r1=#[]:=Array.toList_eq_nil_iff.1 hr1;subst hl1 hr1
 have hargs:args'=#[.slice (some a) l.length cap,.func (.func g) #[] #[]]:=by
  apply Array.ext';rw[e1]
 subst hargs
 have hat:∃c ez' z,μ b=.at c 0 ez' z∧ez'=ez∧(cap=0∨a=⟨c,0,none⟩):=by
  unfold SlR at hsl
  cases hb:μ b with
  | no=>rw[hb] at hsl;exact hsl.elim
  | dead=>have:=hr.ded b hb;rw[hg] at this;injection this with this;cases this
  | «at» c p ez' z=>
    rw[hb] at hsl;obtain⟨o,ho,hor⟩:=hr.obj b c p ez' z hb;rw[hg] at ho;injection ho with ho;subst ho;obtain⟨rfl,rfl,_⟩:=hor;exact⟨c,_,z,rfl,rfl,by simpa using hsl.1⟩
 obtain⟨c,ez',z,hb,rfl,hcap0⟩:=hat;by_cases hnil:l=[]
 ·subst hnil
  exact(AnyF.slices_SortFunc_none L (some a) cap _ w).mono fun e' w' ⟨h1,h2⟩=>by
   subst h1 h2;exact⟨.tuple [],H,.tuple #[],μ,⟨rfl,[],.refl _,.nil,rfl,fun _ _=>rfl,hg⟩,rfl,hr,Post.refl hr,⟨#[],rfl,rfl⟩⟩
 have hpos:0 < l.length:=List.length_pos_iff.2 hnil
 have ha:a=⟨c,0,none⟩:=by
  rcases hcap0 with h | h
  ·have h1:=hcap.1;have h2:=hcap.2.1;omega
  ·exact h
 subst ha
 have hall:∀l:List α,(aB l).all Ff=true:=fun l=>by
  unfold aB;rw[List.all_flatMap,List.all_eq_true];exact fun x _=>hint x
 have hF:∀d:Array α,(flatK pK (Cell.z α) d).toList=(aB d.toList).map TD:=fun d=>by
  rw[←Ha,←zV pK (Cell.z α) B4 Cell.pos]
 have hVF:∀d:Array α,VRs μ (aB d.toList) (flatK pK (Cell.z α) d).toList:=fun d=>(rh (hall _)).2 (hF d);obtain⟨o,ho,hor⟩:=hr.obj b c 0 ez' z hb;rw[hg] at ho;injection ho with ho;subst ho;obtain⟨_,_,cs',hc,hz,hle,hv⟩:=hor
 have hcs:cs'.toList.take (aB l).length=(flatK pK (Cell.z α) l.toArray).toList:=by
  rw[hF];exact(rh (hall _)).1 hv
 have hblk:c < w.heap.size:=(Array.getElem?_eq_some_iff.1 hc).1
 have hH:HoldsK pK (Cell.z α) w c 0 l.toArray:=by
  intro j hj;have hj':j < (aB l).length:=by rw[ao];simpa using hj
  have hj2:j < cs'.size:=by omega
  refine⟨?_,?_⟩
  ·unfold World.cell?;simp only[hc,Option.isSome_none,Bool.false_eq_true,if_false,Nat.zero_add];have h1:(cs'.toList.take (aB l).length)[j]? =cs'[j]?:=by rw[List.getElem?_take,if_pos hj',Array.getElem?_toList]
   rw[←h1,hcs,Array.getElem?_toList,Array.getElem?_eq_getElem hj,getElem!_pos _ j hj];rfl
  ·unfold World.frozen?;simp only[hc];simp
 have hW:∀(d:Array α) (m:Nat) (os:Array Obj),d.size=l.length→Rel P g0 μ (H.put b (.cells false e ez' (aB d.toList))).get (H.put b (.cells false e ez' (aB d.toList))).n (sortWorldK pK (Cell.z α) w c 0 m d os)∧
   Post lo μ H.get H.n w μ (H.put b (.cells false e ez' (aB d.toList))).get (H.put b (.cells false e ez' (aB d.toList))).n (sortWorldK pK (Cell.z α) w c 0 m d os):=by
  intro d m os hd;obtain⟨r1,p1⟩:=MW (lo:=lo) hr hb hlo hg (hVF d) (by rw[ao,ao,Array.length_toList,hd]) m;exact⟨r1.grown os,p1.trans (Post.grown r1 os)⟩
 have hcl:CmpLays P g #[] pK (Cell.z α) cf c 0 l.toArray.size w:=by
  intro m os dk hdk x y;obtain⟨r1,_⟩:=hW dk m os (by simpa using hdk);obtain⟨H'',hs⟩:=hcmp x y (H.put b (.cells false e ez' (aB dk.toList)));have hx:∀x:α,VR μ (.agg (Cell.cs x)) (.agg (pK x).toArray):=fun x=>⟨_,rfl,(rh (hint x)).2 rfl⟩;refine(hs μ _ _ r1 ⟨_,_,rfl,hx x,_,_,rfl,hx y,rfl⟩).mono fun e' w' ⟨v',μ',h1,_,h3,h4⟩=>?_;have h4:v'=.int .i64 (cf x y):=h4;subst h1 h4;exact⟨rfl,Gq h3⟩
 have hone:∀x:α,∀v∈pK x,v.oneCell'=true:=by
  intro x v hv;obtain⟨y,hy,rfl⟩:=List.mem_map.1 hv
  have:=List.all_eq_true.1 (hint x) y hy
  cases y<;>first | (cases this;done) | rfl
 have hcall:=AnyQ.slices_SortFunc L (Cell.z α) aE zE pK B4 hone cf hO g #[] c 0 cap l.toArray w eg hcl hH hblk (by simpa using hsz);rw[List.size_toArray] at hcall;refine hcall.mono fun e' w' ⟨h1,d',m,os,hp,hs,hw⟩=>?_;subst h1 hw;have hd:d'.size=l.length:=by simpa using hp.1
 obtain⟨r1,p1⟩:=hW d' m os hd;refine⟨.tuple [],H.put b (.cells false e ez' (aB d'.toList)),.tuple #[],μ,⟨rfl,d'.toList,?_,?_,rfl,fun x hx=>by rw[aa,if_neg (Ne.symm hx)],by rw[aa,if_pos rfl]⟩,rfl,r1,p1,⟨#[],rfl,rfl⟩⟩
 ·have:=hp.2.2
  have e1:d'.extract 0 l.length=d':=by rw[←hd];exact Array.extract_size
  have e2:l.toArray.extract 0 l.length=l.toArray:=by rw[←List.size_toArray];exact Array.extract_size
  rw[e1,e2] at this;simpa using this
 ·rw[List.pairwise_iff_getElem];intro i j hi hj hij
  have:=hs i j (Nat.zero_le _) hij (by rw[←hd,←Array.length_toList];exact hj)
  rw[getElem!_pos d' i (by simpa using hi),getElem!_pos d' j (by simpa using hj)] at this;simpa using this
end
end
open Classical
def sQ(mb:Nat):IV→IV
 | .slice _ _ n _ _=>.slice mb 0 n n false
 | v=>v
def Sk:IV→Bool
 | .int _ _=>true
 | .bool _=>true
 | .nilSlice=>true
 | .slice _ _ _ _ _=>true
 | _=>false
theorem Cd{μ μ':Mu}{mb:Nat}(hm:μ' mb=.dead):∀{v:IV} {v':Value},Sk v=true→VR μ v v'→VR μ' (sQ mb v) v'
 | .int _ _,_,_,h=>h
 | .bool _,_,_,h=>h
 | .nilSlice,_,_,h=>h
 | .slice b o n lb ex,_,_,h=>by
   obtain⟨a,cap,e,⟨h1,h2,h3,h4⟩,_⟩:=h;exact⟨a,cap,e,⟨Nat.le_refl _,by omega,h3,fun h=>by cases h⟩,by unfold SlR;rw[hm];trivial⟩
theorem qR{μ μ':Mu}{mb:Nat}(hm:μ' mb=.dead):∀{cs:List IV} {l:List Value},cs.all Sk=true→VRs μ cs l→VRs μ' (cs.map (sQ mb)) l
 | [],_,_,h=>h
 | c::cs,_,hk,h=>by
   simp only[List.all_cons,Bool.and_eq_true] at hk;obtain⟨y,ys,e,h1,h2⟩:=h;exact⟨y,ys,e,Cd hm hk.1 h1,qR hm hk.2 h2⟩
section
variable {P:Program}{g0 lo:Nat}
theorem Hn{f:FuncId}{fn:IFn}(hc:al P f=some fn){mb:Nat}{H:Heap}{ds:List IV}(hg0:g0≤lo)(hmb:lo≤mb)(hmbn:mb < H.n)
  (hbody:∀pf c,P.funcs[f]? =some pf→pf.body=some c→aK P c=some fn.body→NItem P g0 lo (.code c) none ⟨[.ptr mb 0]++bT (fn.ntmps - 1),[]⟩ H fun o H'=>∃e fr',o=.ex e fr'∧(∀id,e≠.jmp (.exit id))∧fr'.marks=[]∧
   ∃cs,au H' fr'.tm fn.results=some [.agg cs]∧cs.all Sk=true∧cs.map (sQ mb)=ds):
  CallSim P g0 f [.ptr mb 0] lo H (.agg ds) (bz lo H):=by
 unfold al at hc
 cases hf:P.funcs[f]? with
 | none=>rw[hf] at hc;cases hc
 | some pf=>
   rw[hf] at hc;simp only at hc;split at hc
   ·cases hc
   ·cases hb:pf.body with
    | none=>rw[hb] at hc;cases hc
    | some c=>
      rw[hb] at hc;simp only at hc
      cases hres:pf.results.toList.mapM (sV P) with
      | none=>rw[hres] at hc;cases hc
      | some irs=>
        cases hcc:aK P c with
        | none=>rw[hres,hcc] at hc;cases hc
        | some ic=>
          rw[hres,hcc] at hc;injection hc with hc;subst hc;have hs:=hbody pf c hf hb hcc;intro μ w args' hr ha cs
          have ht:VRs μ ([.ptr mb 0]++bT (pf.ntmps - 1)) (args'++Array.replicate (pf.ntmps - args'.size) undef).toList:=by
           have hl:1=args'.size:=by have:=ha.length;simpa using this
           rw[hl,Array.toList_append,Array.toList_replicate];exact ha.append (lH _)
          have hmne:μ mb≠.no:=by
           obtain⟨y,ys,_,⟨a,_,hl⟩,_⟩:=ha;exact hl.ne
          obtain⟨e,fr1,H1,μ1,w1,t1,ds1,⟨e',fr',heq,he,hmk,vs,hv,hok,hds⟩,a1,a2,a3,a4,a5⟩:=hs μ w _ none [] hr ht rfl rfl f [] cs;injection heq with q1 q2;subst q1 q2;rw[hmk] at a4;have a4:ds1=[]:=a4;subst a4
          have henter:Frame.enter P f args' .normal=aZ f none (args'++Array.replicate (pf.ntmps - args'.size) undef) [] [.code c]:=by
           simp[Frame.enter,aZ,hf,hb]
          have hlv:∃todo,Steps P (lone (Frame.enter P f args' .normal) cs w) (lone (HH f t1 [] todo) cs w1):=by
           rw[henter]
           cases e with
           | normal=>exact⟨[],Steps.trans a5 (.one (qi (.inl rfl)))⟩
           | jmp j=>
             cases j with
             | exit id=>exact absurd rfl (he id)
             | ret=>
               obtain⟨pre,b1,_⟩:=a5;exact⟨_,Steps.trans b1 (.one (qi (.inr ⟨_,rfl⟩)))⟩
          obtain⟨todo,hst⟩:=hlv;obtain⟨v',hrun,hvr⟩:=pj a1 a3 hres hv;have hvr:VR μ1 (.agg vs) v':=hvr
          let m2:Mu:=fun b=>if b < H.n∧lo≤b∧μ b≠.no then .dead else μ b
          have hno:∀b,μ b=.no→m2 b=.no:=fun b h=>by show(if _ then _ else _)=_;rw[if_neg (fun hh=>hh.2.2 h),h]
          have hlow:∀b,b < lo→m2 b=μ b:=fun b h=>by show(if _ then _ else _)=_;rw[if_neg (by omega)]
          have hdead:∀b,b < H.n→lo≤b→μ b≠.no→m2 b=.dead:=fun b h1 h2 h3=>by show(if _ then _ else _)=_;rw[if_pos ⟨h1,h2,h3⟩]
          have hle:μ.le m2:=fun b hb=>by
           by_cases h:b < H.n∧lo≤b
           ·exact .inr (hdead b h.1 h.2 hb)
           ·left;show(if _ then _ else _)=_;rw[if_neg (fun hh=>h ⟨hh.1,hh.2.1⟩)]
          have hat:∀b c p ez z,m2 b=.at c p ez z→b < lo∧b < H.n∧μ b=.at c p ez z:=by
           intro b c p ez z hb;have hne:μ b≠.no:=fun h=>by rw[hno b h] at hb;cases hb
           have hlt:=hr.lt b hne
           have hb2:b < lo:=by
            rcases Nat.lt_or_ge b lo with h | h
            ·exact h
            ·rw[hdead b hlt h hne] at hb;cases hb
           exact⟨hb2,hlt,by rw[←hlow b hb2];exact hb⟩
          have hkg:∀b,b < lo→b < H.n→(bz lo H).get b=H.get b:=fun b h1 h2=>by rw[i5 _ _ _ h2,if_neg (by omega)]
          have hlt2:∀b,m2 b≠.no→b < H.n:=fun b hb=>hr.lt b fun h=>hb (hno b h)
          have hrel:Rel P g0 m2 (bz lo H).get (bz lo H).n w1:=by
           refine⟨fun b hb=>by rw[jC];exact hlt2 b hb,?_,?_,?_,?_⟩
           ·intro b b' c p ez z p' ez' z' hb hb' ho;obtain⟨h1,h2,h3⟩:=hat _ _ _ _ _ hb;obtain⟨h4,h5,h6⟩:=hat _ _ _ _ _ hb';exact hr.inj b b' c p ez z p' ez' z' h3 h6 (bC (hkg b h1 h2) ho)
           ·intro b c p ez z hb;obtain⟨h1,h2,h3⟩:=hat _ _ _ _ _ hb;obtain⟨o,ho,hor⟩:=hr.obj b c p ez z h3;refine⟨o,by rw[hkg b h1 h2];exact ho,?_⟩
            rw[a2.frame c (hr.clt h3) fun b2 p2 ez2 z2 k1 k2 k3 k4=>by
             have:=hr.inj b2 b c p2 ez2 z2 p ez z k4 h3 k3
             omega]
            exact hor.mono hle
           ·intro i hi;rw[hlow i (by omega)];exact hr.glob i hi
           ·intro b hb;have hbn:=hlt2 b (by rw[hb];exact fun x=>by cases x);rw[i5 _ _ _ hbn];by_cases h:lo≤b
            ·rw[if_pos h]
            ·rw[if_neg h];rw[hlow b (by omega)] at hb;exact hr.ded b hb
          have hpost:Post lo μ H.get H.n w m2 (bz lo H).get (bz lo H).n w1:=by
           refine⟨hle,by rw[jC];exact Nat.le_refl _,fun b _ h=>hno b h,fun b h1 h2=>⟨hlow b h1,hkg b h1 h2⟩,?_,?_,?_,a2.size,a2.frame,a2.os,a2.tape,a2.output,a2.drawn⟩
           ·intro b hb ho;by_cases h:lo≤b
            ·obtain⟨o,h1,h2⟩:=ho;rw[i5 _ _ _ hb,if_pos h] at h1;injection h1 with h1;subst h1;cases h2
            ·exact bC (hkg b (by omega) hb) ho
           ·intro b c p ez z hb e
            have:=hlt2 b (by rw[e];exact fun x=>by cases x)
            omega
           ·intro b h1 h2;rw[jC] at h2;omega
          refine⟨.returned v',w1,HH f t1 [] todo,⟨v',m2,rfl,hrel,hpost,?_⟩,hst,rfl,rfl,rfl,rfl,pf,hf,hrun⟩
          obtain⟨l',e',hl'⟩:=hvr;exact⟨l',e',by rw[←hds];exact qR (hdead mb hmbn hmb hmne) hok hl'⟩
theorem fi{c:Code}{x y:IC}(h:aK P c=some (.seq x y)):∃a b,c=.seq a b∧aK P a=some x∧aK P b=some y:=by
 cases c<;>simp only[aK,Option.map_eq_some_iff,Option.bind_eq_bind,Option.bind_eq_some_iff,Option.pure_def,Option.some.injEq,reduceCtorEq,and_false,exists_false] at h
 case seq a b=>
  obtain⟨x',hx,y',hy,he⟩:=h;injection he with h1 h2;subst h1 h2;exact⟨a,b,rfl,hx,hy⟩
theorem sg{c:Code}{l:List (Sg×List IOp)}(h:aK P c=some (.ops l)):∃id ops draw,c=.region id ops draw∧ce P ops draw=some l:=by
 cases c<;>simp only[aK,Option.map_eq_some_iff,Option.bind_eq_bind,Option.bind_eq_some_iff,Option.pure_def,Option.some.injEq,reduceCtorEq,and_false,exists_false] at h
 case region id ops draw=>
  obtain⟨x,hx,he⟩:=h;injection he with h1;subst h1;exact⟨id,ops,draw,rfl,hx⟩
theorem Cm{c:Code}{x:IC}{n:Nat}(h:aK P c=some (.block n x)):∃a,c=.block n a∧aK P a=some x:=by
 cases c<;>simp only[aK,Option.map_eq_some_iff,Option.bind_eq_bind,Option.bind_eq_some_iff,Option.pure_def,Option.some.injEq,reduceCtorEq,and_false,exists_false] at h
 case block id a=>
  obtain⟨x',hx,he⟩:=h;injection he with h1 h2;subst h1 h2;exact⟨a,rfl,hx⟩
theorem D5{c:Code}{x:IC}(h:aK P c=some (.loop x)):∃a,c=.loop a∧aK P a=some x:=by
 cases c<;>simp only[aK,Option.map_eq_some_iff,Option.bind_eq_bind,Option.bind_eq_some_iff,Option.pure_def,Option.some.injEq,reduceCtorEq,and_false,exists_false] at h
 case loop a=>
  obtain⟨x',hx,he⟩:=h;injection he with h1;subst h1;exact⟨a,rfl,hx⟩
def mf:Code→List Bool
 | .region _ _ d=>[d]
 | .seq a b=>mf a++mf b
 | .cond _ a b=>mf a++mf b
 | .block _ c=>mf c
 | .scope c=>mf c
 | .loop c=>mf c
 | _=>[]
end
end Go.Iso
