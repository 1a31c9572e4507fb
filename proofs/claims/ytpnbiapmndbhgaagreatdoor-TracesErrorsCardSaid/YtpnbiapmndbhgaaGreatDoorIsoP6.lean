/-
  rules of runs.
-/
import Derived.Test.YtpnbiapmndbhgaaGreatDoorIsoP5
set_option linter.unusedSimpArgs false
set_option linter.unusedVariables false
namespace Go.Iso
def yM(k:Sg):Option ci:=match k with | .seq=>none | .free=>some []
theorem PP(E:Env):∀(n:Nat) (t:Task) (lo:Nat) (H:Heap) (r:Out×Heap),run E n t lo H=some r→run E (n+1) t lo H=some r:=by
 intro n
 induction n with
 | zero=>intro t lo H r h;simp[run] at h
 | succ n ih=>
   intro t lo H r h
   cases t with
   | code c rd fr=>
     cases c with
     | skip=>exact h
     | exit id=>exact h
     | ret=>exact h
     | ops l=>simp only[run] at h⊢;exact ih _ _ _ _ h
     | scope c=>simp only[run] at h⊢;exact ih _ _ _ _ h
     | seq a b=>
       rw[run] at h⊢
       try simp only at h⊢
       cases h1:run E n (.code a rd fr) lo H with
       | none=>rw[h1] at h;cases h
       | some p=>
         rw[h1] at h;rw[ih _ _ _ _ h1];obtain⟨o,H1⟩:=p
         cases o with
         | val v=>exact h
         | ex e fr1=>cases e with
           | normal=>exact ih _ _ _ _ h
           | jmp j=>exact h
     | cond c a b=>
       rw[run] at h⊢
       try simp only at h⊢
       cases hc:c.eval E.g0 fr.tm with
       | none=>rw[hc] at h;cases h
       | some v=>
         rw[hc] at h
         cases v<;>first | cases h;done | skip
         rename_i b
         cases b<;>exact ih _ _ _ _ h
     | block id c=>
       rw[run] at h⊢
       try simp only at h⊢
       cases h1:run E n (.code c rd fr) lo H with
       | none=>rw[h1] at h;cases h
       | some p=>
         rw[h1] at h;rw[ih _ _ _ _ h1];exact h
     | loop c=>
       rw[run] at h⊢
       try simp only at h⊢
       cases h1:run E n (.code c rd fr) lo H with
       | none=>rw[h1] at h;cases h
       | some p=>
         rw[h1] at h;rw[ih _ _ _ _ h1];obtain⟨o,H1⟩:=p
         cases o with
         | val v=>exact h
         | ex e fr1=>cases e with
           | normal=>exact ih _ _ _ _ h
           | jmp j=>exact h
     | rfn f ps asg body=>
       rw[run] at h⊢
       try simp only at h⊢
       cases hc:f.eval E.g0 fr.tm with
       | none=>rw[hc] at h;cases h
       | some g=>
         cases he:gY rd H with
         | none=>rw[hc,he] at h;cases h
         | some e=>
           obtain⟨df,marks,H1⟩:=e;rw[hc,he] at h
           try simp only at h⊢
           cases h1:run E n (.apply g [.yield H1.n]) lo (H1.new (.loop .ready none fr.tm ps asg body df)) with
           | none=>rw[h1] at h;cases h
           | some p=>
             rw[h1] at h;rw[ih _ _ _ _ h1];exact h
   | segs l rd fr=>
     cases l with
     | nil=>exact h
     | cons x l=>
       obtain⟨k,os⟩:=x
       have key:∀m,run E (m+1) (.segs ((k,os)::l) rd fr) lo H=vQ (run E m) l rd lo (run E m (.ops (yM k) os rd fr) lo H):=fun m=>by
        rw[←vS,tw];have e:Nf E m=run E m:=by funext t lo H;exact vS E m t lo H
        rw[e];rfl
       rw[key] at h⊢;generalize hT:Task.ops (yM k) os rd fr=T at h⊢
       cases h1:run E n T lo H with
       | none=>rw[h1] at h;cases h
       | some p=>
         rw[h1] at h;rw[ih _ _ _ _ h1];obtain⟨o,H1⟩:=p
         cases o with
         | val v=>cases h
         | ex e fr1=>cases e with
           | normal=>exact ih _ _ _ _ h
           | jmp j=>cases h
   | ops free l rd fr=>
     cases l with
     | nil=>exact h
     | cons o l=>
       obtain⟨dst,kd,args,guard,amb,idx,mask⟩:=o;rw[run.eq_def] at h⊢
       try simp only at h⊢
       split at h
       ·rename_i hw;rw[if_pos hw]
        cases hx:bj E.g0 fr.tm args with
        | none=>rw[hx] at h;cases h
        | some xs=>
          rw[hx] at h
          try simp only at h⊢
          cases hf:aV free ⟨dst,kd,args,guard,amb,idx,mask⟩ xs with
          | none=>rw[hf] at h;cases h
          | some free'=>
            rw[hf] at h
            try simp only at h⊢
            cases kd with
            | call=>
              try simp only at h⊢
              cases xs with
              | nil=>cases h
              | cons f xs=>
                try simp only at h⊢
                cases h1:run E n (.apply f xs) (dv free ⟨dst,.call,args,guard,amb,idx,mask⟩ lo H) H with
                | none=>rw[h1] at h;cases h
                | some p=>
                  rw[h1] at h;rw[ih _ _ _ _ h1];obtain⟨o,H1⟩:=p
                  cases o with
                  | val v=>exact ih _ _ _ _ h
                  | ex e fr=>cases h
            | _=>
              try simp only at h⊢
              split at h
              ·rename_i heq
               first | exact ih _ _ _ _ h | (rw[heq];exact ih _ _ _ _ h)
              ·cases h
       ·rename_i hw;rw[if_neg hw];exact ih _ _ _ _ h
   | apply f args=>
     cases f with
     | fn f first cap=>rw[run] at h⊢;exact ih _ _ _ _ h
     | yield l=>
       rw[run] at h⊢
       try simp only at h⊢
       cases hg:H.get l with
       | none=>rw[hg] at h;cases h
       | some ob=>
         rw[hg] at h
         cases ob with
         | loop st pend tm ps asg body df=>
           try simp only at h⊢
           split at h
           ·rename_i hl;rw[if_pos hl]
            cases h1:run E n (.code asg (some l) ⟨eG tm ps args,[]⟩) lo H with
            | none=>rw[h1] at h;cases h
            | some p=>
              rw[h1] at h;rw[ih _ _ _ _ h1];obtain⟨o,H1⟩:=p
              cases o with
              | val v=>cases h
              | ex e fr=>cases e with
                | jmp j=>cases h
                | normal=>
                  try simp only at h⊢
                  cases hb:iJ l H1 with
                  | none=>rw[hb] at h;cases h
                  | some H2=>
                    rw[hb] at h
                    try simp only at h⊢
                    cases h2:run E n (.code body (some l) fr) lo H2 with
                    | none=>rw[h2] at h;cases h
                    | some p=>
                      rw[h2] at h;rw[ih _ _ _ _ h2];exact h
           ·cases h
         | _=>cases h
     | _=>cases h
   | call f args=>
     rw[run] at h⊢
     try simp only at h⊢
     cases hs:E.sums f with
     | some s=>rw[hs] at h;exact h
     | none=>
       rw[hs] at h
       try simp only at h⊢
       cases hf:E.fns f with
       | none=>rw[hf] at h;cases h
       | some fn=>
         rw[hf] at h
         try simp only at h⊢
         cases h1:run E n (.code fn.body none ⟨args++ce (fn.ntmps - args.length),[]⟩) lo H with
         | none=>rw[h1] at h;cases h
         | some p=>
           rw[h1] at h;rw[ih _ _ _ _ h1];exact h
theorem mU(E:Env){n m:Nat}(hnm:n≤m){t:Task}{lo:Nat}{H:Heap}{r:Out×Heap}(h:run E n t lo H=some r):run E m t lo H=some r:=by
 induction hnm with
 | refl=>exact h
 | step _ ih=>exact PP E _ _ _ _ _ ih
theorem bY(E:Env)(n:Nat)(t:Task)(lo:Nat)(H:Heap):run E (n+1) t lo H=dq E (run E n) t lo H:=by
 rw[←vS,tw];have e:Nf E n=run E n:=by funext t lo H;exact vS E n t lo H
 rw[e]
def W(E:Env)(lo:Nat)(t:Task)(H:Heap)(Q:Out→Heap→Prop):Prop:=∃n o H',run E n t lo H=some (o,H')∧Q o H'
section
variable {E:Env}{lo:Nat}{rd:Option Nat}{fr:Fr}{H:Heap}{Q:Out→Heap→Prop}
theorem W.mono{t:Task}{Q':Out→Heap→Prop}(h:W E lo t H Q)(hq:∀o H',Q o H'→Q' o H'):W E lo t H Q':=by
 obtain⟨n,o,H',h1,h2⟩:=h;exact⟨n,o,H',h1,hq _ _ h2⟩
def mM(E:Env)(lo:Nat)(rd:Option Nat)(b:IC)(Q:Out→Heap→Prop):Out→Heap→Prop:=fun o H=>
 match o with
 | .ex .normal fr=>W E lo (.code b rd fr) H Q
 | o=>Q o H
def vj(id:Nat)(Q:Out→Heap→Prop):Out→Heap→Prop:=fun o H=>
 match o with
 | .ex (.jmp (.exit id')) fr=>if id'=id then Q (.ex .normal fr) H else Q (.ex (.jmp (.exit id')) fr) H
 | o=>Q o H
def apl(E:Env)(lo:Nat)(rd:Option Nat)(l:List (Sg×List IOp))(Q:Out→Heap→Prop):Out→Heap→Prop:=fun o H=>
 match o with
 | .ex .normal fr=>W E lo (.segs l rd fr) H Q
 | _=>False
def amz(K:IV→Heap→Prop):Out→Heap→Prop:=fun o H=>
 match o with
 | .val v=>K v H
 | _=>False
def opC(E:Env)(lo:Nat)(free:Option ci)(l:List IOp)(rd:Option Nat)(fr:Fr)(dst:Option Nat)(Q:Out→Heap→Prop):IV→Heap→Prop:=fun v H=>
 W E lo (.ops free l rd (fr.put dst v)) H Q
def li(lo:Nat)(res:List (Nat×Option (Option Nat)))(Q:Out→Heap→Prop):Out→Heap→Prop:=fun o H=>
 match o with
 | .ex e fr=>
   match e with
   | .jmp (.exit _)=>False
   | _=>
     match bF lo fr.marks H with
     | none=>False
     | some H2=>match ax H2 fr.tm res with
       | none=>False
       | some vs=>Q (.val (eV vs)) H2
 | _=>False
def kG{α:Type}(r:Option α)(K:α→Prop):Prop:=match r with | none=>False | some x=>K x
def ON(v:IV)(w:Bool):Bool:=match v with | .bool b=>b==w | _=>false
theorem ac3{b w:Bool}:ON (.bool b) w=(b==w):=rfl
theorem ac2{w:Bool}:ON IV.undef w=false:=rfl
theorem MO{tm:List IV}:bK tm none=true:=rfl
theorem MN{tm:List IV}{t:Nat}{w:Bool}:bK tm (some (t,w))=ON (tm.getD t IV.undef) w:=rfl
theorem ap8:(true==false)=false:=rfl
theorem ap9:(false==true)=false:=rfl
theorem ap7:(true==true)=true:=rfl
theorem aqa:(false==false)=true:=rfl
theorem am6{α:Type}{x:α}{K:α→Prop}:kG (some x) K=K x:=rfl
theorem am7{α:Type}{K:α→Prop}:kG none K=False:=rfl
theorem ada{b:IC}:mM E lo rd b Q (.ex .normal fr) H=W E lo (.code b rd fr) H Q:=rfl
theorem adb{b:IC}{j:Jmp}:mM E lo rd b Q (.ex (.jmp j) fr) H=Q (.ex (.jmp j) fr) H:=rfl
theorem anS{id:Nat}:vj id Q (.ex .normal fr) H=Q (.ex .normal fr) H:=rfl
theorem anR{id:Nat}:vj id Q (.ex (.jmp .ret) fr) H=Q (.ex (.jmp .ret) fr) H:=rfl
theorem anT{id id':Nat}:vj id Q (.ex (.jmp (.exit id')) fr) H=if id'=id then Q (.ex .normal fr) H else Q (.ex (.jmp (.exit id')) fr) H:=rfl
theorem amJ{l:List (Sg×List IOp)}:apl E lo rd l Q (.ex .normal fr) H=W E lo (.segs l rd fr) H Q:=rfl
theorem amy{K:IV→Heap→Prop}{v:IV}:amz K (.val v) H=K v H:=rfl
theorem anZ:W E lo (.code .skip rd fr) H Q=Q (.ex .normal fr) H:=by
 refine propext ⟨?_,fun h=>⟨1,_,_,rfl,h⟩⟩;rintro⟨n,o,H',h,hq⟩
 cases n with
 | zero=>cases h
 | succ n=>simp only[run] at h;injection h with h;injection h with h1 h2;subst h1 h2;exact hq
theorem aqe:W E lo (.code .ret rd fr) H Q=Q (.ex (.jmp .ret) fr) H:=by
 refine propext ⟨?_,fun h=>⟨1,_,_,rfl,h⟩⟩;rintro⟨n,o,H',h,hq⟩
 cases n with
 | zero=>cases h
 | succ n=>simp only[run] at h;injection h with h;injection h with h1 h2;subst h1 h2;exact hq
theorem an2{id:Nat}:W E lo (.code (.exit id) rd fr) H Q=Q (.ex (.jmp (.exit id)) fr) H:=by
 refine propext ⟨?_,fun h=>⟨1,_,_,rfl,h⟩⟩;rintro⟨n,o,H',h,hq⟩
 cases n with
 | zero=>cases h
 | succ n=>simp only[run] at h;injection h with h;injection h with h1 h2;subst h1 h2;exact hq
theorem af1{l:List (Sg×List IOp)}:W E lo (.code (.ops l) rd fr) H Q=W E lo (.segs l rd fr) H Q:=by
 refine propext ⟨?_,?_⟩
 ·rintro⟨n,o,H',h,hq⟩
  cases n with
  | zero=>cases h
  | succ n=>exact⟨n,o,H',h,hq⟩
 ·rintro⟨n,o,H',h,hq⟩;exact⟨n+1,o,H',h,hq⟩
theorem RN{c b:IC}{t:Task}(ht:∀n,run E (n+1) t lo H=mZ (fun fr' H'=>run E n (.code b rd fr') lo H') (run E n (.code c rd fr) lo H)):
  W E lo t H Q=W E lo (.code c rd fr) H (mM E lo rd b Q):=by
 refine propext ⟨?_,?_⟩
 ·rintro⟨n,o,H',h,hq⟩
  cases n with
  | zero=>cases h
  | succ n=>
    rw[ht] at h
    cases h1:run E n (.code c rd fr) lo H with
    | none=>rw[h1] at h;cases h
    | some p=>
      rw[h1] at h;obtain⟨o1,H1⟩:=p;refine⟨n,o1,H1,h1,?_⟩
      cases o1 with
      | val v=>injection h with h;injection h with h2 h3;subst h2 h3;exact hq
      | ex e fr1=>cases e with
        | normal=>exact⟨n,o,H',h,hq⟩
        | jmp j=>injection h with h;injection h with h2 h3;subst h2 h3;exact hq
 ·rintro⟨n,o,H',h,hq⟩
  cases o with
  | val v=>exact⟨n+1,.val v,H',by rw[ht,h];rfl,hq⟩
  | ex e fr1=>cases e with
    | normal=>
      obtain⟨m,o2,H2,h2,hq2⟩:=hq;refine⟨Max.max n m+1,o2,H2,?_,hq2⟩;rw[ht,mU E (B5 n m) h];exact mU E (B6 n m) h2
    | jmp j=>exact⟨n+1,.ex (.jmp j) fr1,H',by rw[ht,h];rfl,hq⟩
theorem iz{a b:IC}:W E lo (.code (.seq a b) rd fr) H Q=W E lo (.code a rd fr) H (mM E lo rd b Q):=RN fun n=>by rw[bY];rfl
theorem iL{c:IC}:W E lo (.code (.loop c) rd fr) H Q=W E lo (.code c rd fr) H (mM E lo rd (.loop c) Q):=RN fun n=>by rw[bY];rfl
theorem aey{id:Nat}{c:IC}:W E lo (.code (.block id c) rd fr) H Q=W E lo (.code c rd fr) H (vj id Q):=by
 refine propext ⟨?_,?_⟩
 ·rintro⟨n,o,H',h,hq⟩
  cases n with
  | zero=>cases h
  | succ n=>
    rw[bY] at h;simp only[dq,jj] at h
    cases h1:run E n (.code c rd fr) lo H with
    | none=>rw[h1] at h;cases h
    | some p=>
      rw[h1] at h;obtain⟨o1,H1⟩:=p;refine⟨n,o1,H1,h1,?_⟩
      cases o1 with
      | val v=>injection h with h;injection h with h2 h3;subst h2 h3;exact hq
      | ex e fr1=>cases e with
        | normal=>injection h with h;injection h with h2 h3;subst h2 h3;exact hq
        | jmp j=>cases j with
          | ret=>injection h with h;injection h with h2 h3;subst h2 h3;exact hq
          | exit id'=>
            injection h with h;injection h with h2 h3;subst h2 h3;simp only[vj];by_cases he:id'=id
            ·rw[if_pos he] at hq;rw[if_pos he];exact hq
            ·rw[if_neg he] at hq;rw[if_neg he];exact hq
 ·rintro⟨n,o,H',h,hq⟩
  cases o with
  | val v=>exact⟨n+1,.val v,H',by rw[bY];simp only[dq,jj,h,tU],hq⟩
  | ex e fr1=>cases e with
    | normal=>exact⟨n+1,.ex .normal fr1,H',by rw[bY];simp only[dq,jj,h,tU],hq⟩
    | jmp j=>cases j with
      | ret=>exact⟨n+1,.ex (.jmp .ret) fr1,H',by rw[bY];simp only[dq,jj,h,tU],hq⟩
      | exit id'=>
        refine⟨n+1,.ex (if id'=id then .normal else .jmp (.exit id')) fr1,H',by rw[bY];simp only[dq,jj,h,tU],?_⟩
        simp only[vj] at hq;by_cases he:id'=id
        ·rw[if_pos he] at hq;rw[if_pos he];exact hq
        ·rw[if_neg he] at hq;rw[if_neg he];exact hq
def IL(E:Env)(lo:Nat)(rd:Option Nat)(fr:Fr)(a b:IC)(H:Heap)(Q:Out→Heap→Prop):IV→Prop:=fun v=>
 match v with
 | .bool x=>if x=true then W E lo (.code a rd fr) H Q else W E lo (.code b rd fr) H Q
 | _=>False
theorem IK{a b:IC}{x:Bool}:IL E lo rd fr a b H Q (.bool x)=if x=true then W E lo (.code a rd fr) H Q else W E lo (.code b rd fr) H Q:=rfl
theorem aen{a b:IC}:IL E lo rd fr a b H Q (.bool true)=W E lo (.code a rd fr) H Q:=rfl
theorem aeo{a b:IC}:IL E lo rd fr a b H Q (.bool false)=W E lo (.code b rd fr) H Q:=rfl
theorem an3{c:IA}{a b:IC}:W E lo (.code (.cond c a b) rd fr) H Q=kG (c.eval E.g0 fr.tm) (IL E lo rd fr a b H Q):=by
 have key:∀n,run E (n+1) (.code (.cond c a b) rd fr) lo H=Rs (run E n) a b rd fr lo H (c.eval E.g0 fr.tm):=fun n=>by rw[bY];rfl
 cases hc:c.eval E.g0 fr.tm with
 | none=>
   refine propext ⟨?_,fun h=>h.elim⟩;rintro⟨n,o,H',h,hq⟩
   cases n with
   | zero=>cases h
   | succ n=>rw[key,hc] at h;cases h
 | some v=>
   simp only[kG]
   cases v<;>first
    | (refine propext ⟨?_,fun h=>h.elim⟩
       rintro⟨n,o,H',h,hq⟩
       cases n with
       | zero=>cases h
       | succ n=>rw[key,hc] at h;cases h
       done)
    | skip
   rename_i x
   cases x with
   | true=>
     rw[IK,if_pos rfl];refine propext ⟨?_,?_⟩
     ·rintro⟨n,o,H',h,hq⟩
      cases n with
      | zero=>cases h
      | succ n=>rw[key,hc] at h;exact⟨n,o,H',h,hq⟩
     ·rintro⟨n,o,H',h,hq⟩;exact⟨n+1,o,H',by rw[key,hc];exact h,hq⟩
   | false=>
     rw[IK,if_neg (by simp)];refine propext ⟨?_,?_⟩
     ·rintro⟨n,o,H',h,hq⟩
      cases n with
      | zero=>cases h
      | succ n=>rw[key,hc] at h;exact⟨n,o,H',h,hq⟩
     ·rintro⟨n,o,H',h,hq⟩;exact⟨n+1,o,H',by rw[key,hc];exact h,hq⟩
theorem Hm:W E lo (.segs [] rd fr) H Q=Q (.ex .normal fr) H:=by
 refine propext ⟨?_,fun h=>⟨1,_,_,rfl,h⟩⟩;rintro⟨n,o,H',h,hq⟩
 cases n with
 | zero=>cases h
 | succ n=>rw[run] at h;injection h with h;injection h with h1 h2;subst h1 h2;exact hq
theorem Ou{free:Option ci}:W E lo (.ops free [] rd fr) H Q=Q (.ex .normal fr) H:=by
 refine propext ⟨?_,fun h=>⟨1,_,_,rfl,h⟩⟩;rintro⟨n,o,H',h,hq⟩
 cases n with
 | zero=>cases h
 | succ n=>rw[run] at h;injection h with h;injection h with h1 h2;subst h1 h2;exact hq
theorem ad8:yM .seq=none:=rfl
theorem ad9:yM .free=some []:=rfl
theorem Fk{k:Sg}{os:List IOp}{l:List (Sg×List IOp)}:W E lo (.segs ((k,os)::l) rd fr) H Q=W E lo (.ops (yM k) os rd fr) H (apl E lo rd l Q):=by
 have key:∀n,run E (n+1) (.segs ((k,os)::l) rd fr) lo H=vQ (run E n) l rd lo (run E n (.ops (yM k) os rd fr) lo H):=fun n=>by rw[bY];rfl
 refine propext ⟨?_,?_⟩
 ·rintro⟨n,o,H',h,hq⟩
  cases n with
  | zero=>cases h
  | succ n=>
    rw[key] at h
    cases h1:run E n (.ops (yM k) os rd fr) lo H with
    | none=>rw[h1] at h;cases h
    | some p=>
      rw[h1] at h;obtain⟨o1,H1⟩:=p;refine⟨n,o1,H1,h1,?_⟩
      cases o1 with
      | val v=>cases h
      | ex e fr1=>cases e with
        | normal=>exact⟨n,o,H',h,hq⟩
        | jmp j=>cases h
 ·rintro⟨n,o,H',h,hq⟩
  cases o with
  | val v=>exact hq.elim
  | ex e fr1=>cases e with
    | normal=>
      obtain⟨m,o2,H2,h2,hq2⟩:=hq;refine⟨Max.max n m+1,o2,H2,?_,hq2⟩;rw[key,mU E (B5 n m) h];exact mU E (B6 n m) h2
    | jmp j=>exact hq.elim
def afP(K:IV→Heap→Prop):IV×Heap→Prop:=fun p=>K p.1 p.2
theorem adH{K:IV→Heap→Prop}{v:IV}:afP K (v,H)=K v H:=rfl
def opW(E:Env)(kd:Kd)(xs:List IV)(lw:Nat)(H:Heap)(K:IV→Heap→Prop):Prop:=
 match kd with
 | .call=>match xs with
   | f::xs=>W E lw (.apply f xs) H (amz K)
   | []=>False
 | kd=>kG (ev1 kd xs lw H) (afP K)
theorem Qe{f:IV}{xs:List IV}{lw:Nat}{K:IV→Heap→Prop}:opW E .call (f::xs) lw H K=W E lw (.apply f xs) H (amz K):=rfl
def O2(Q:Out→Heap→Prop)(H:Heap):List IV→Prop:=fun vs=>Q (.val (eV vs)) H
theorem ac4{vs:List IV}:O2 Q H vs=Q (.val (eV vs)) H:=rfl
def goC(E:Env)(lo:Nat)(kd:Kd)(xs:List IV)(lw:Nat)(H:Heap)(l:List IOp)(rd:Option Nat)(fr:Fr)(dst:Option Nat)(Q:Out→Heap→Prop):Option ci→Prop:=fun free'=>
 opW E kd xs lw H (opC E lo free' l rd fr dst Q)
def anX(E:Env)(lo:Nat)(free:Option ci)(o:IOp)(l:List IOp)(rd:Option Nat)(fr:Fr)(H:Heap)(Q:Out→Heap→Prop):List IV→Prop:=fun xs=>
 kG (aV free o xs) (goC E lo o.kd xs (dv free o lo H) H l rd fr o.dst Q)
def axU(b:Bool)(p q:Prop):Prop:=match b with | true=>p | false=>q
def apk(E:Env)(lo:Nat)(kd:Kd)(l:List IOp)(rd:Option Nat)(fr:Fr)(dst:Option Nat)(H:Heap)(Q:Out→Heap→Prop):List IV→Prop:=fun xs=>opW E kd xs lo H (opC E lo none l rd fr dst Q)
theorem af2{free:Option ci}{dst:Option Nat}{kd:Kd}{args:List IA}{g:Option (Nat×Bool)}{amb:Bool}{idx mask:Nat}{l:List IOp}:
  W E lo (.ops free (⟨dst,kd,args,g,amb,idx,mask⟩::l) rd fr) H Q=
    if bK fr.tm g=true then kG (bj E.g0 fr.tm args) fun xs=>kG (aV free ⟨dst,kd,args,g,amb,idx,mask⟩ xs) fun free'=>opW E kd xs (dv free ⟨dst,kd,args,g,amb,idx,mask⟩ lo H) H (opC E lo free' l rd fr dst Q)
    else W E lo (.ops free l rd (fr.put dst IV.undef)) H Q:=by
 have key0:∀n,run E (n+1) (.ops free (⟨dst,kd,args,g,amb,idx,mask⟩::l) rd fr) lo H=D9 E.g0 (run E n) free (⟨dst,kd,args,g,amb,idx,mask⟩::l) rd fr lo H:=fun n=>by rw[bY];rfl
 by_cases hw:bK fr.tm g=true
 ·rw[if_pos hw]
  cases hx:bj E.g0 fr.tm args with
  | none=>
    refine propext ⟨?_,fun h=>h.elim⟩;rintro⟨n,o,H',h,hq⟩
    cases n with
    | zero=>cases h
    | succ n=>rw[key0] at h;simp only[D9,hw,hx,tH] at h;cases h
  | some xs=>
    cases hf:aV free ⟨dst,kd,args,g,amb,idx,mask⟩ xs with
    | none=>
      simp only[kG,hf];refine propext ⟨?_,fun h=>h.elim⟩;rintro⟨n,o,H',h,hq⟩
      cases n with
      | zero=>cases h
      | succ n=>rw[key0] at h;simp only[D9,hw,hx,tH,hf] at h;cases h
    | some free'=>
      simp only[kG,hf];generalize hlw:dv free ⟨dst,kd,args,g,amb,idx,mask⟩ lo H=lw
      have key:∀n,run E (n+1) (.ops free (⟨dst,kd,args,g,amb,idx,mask⟩::l) rd fr) lo H=yi (run E n) ⟨dst,kd,args,g,amb,idx,mask⟩ l rd fr lo H free' xs lw kd.isCall:=fun n=>by
       rw[key0];simp only[D9,hw,hx,tH,hf,hlw]
      cases kd with
      | call=>
        cases xs with
        | nil=>
          refine propext ⟨?_,fun h=>h.elim⟩;rintro⟨n,o,H',h,hq⟩
          cases n with
          | zero=>cases h
          | succ n=>rw[key] at h;simp only[yi,Kd.isCall,AZ,yk] at h;cases h
        | cons f xs=>
          rw[Qe];refine propext ⟨?_,?_⟩
          ·rintro⟨n,o,H',h,hq⟩
           cases n with
           | zero=>cases h
           | succ n=>
             rw[key] at h;simp only[yi,Kd.isCall,AZ] at h
             cases h1:run E n (.apply f xs) lw H with
             | none=>rw[h1] at h;cases h
             | some p=>
               rw[h1] at h;obtain⟨o1,H1⟩:=p;refine⟨n,o1,H1,h1,?_⟩
               cases o1 with
               | val v=>exact⟨n,o,H',h,hq⟩
               | ex e fr1=>cases h
          ·rintro⟨n,o,H',h,hq⟩
           cases o with
           | ex e fr1=>exact hq.elim
           | val v=>
             obtain⟨m,o2,H2,h2,hq2⟩:=hq;refine⟨Max.max n m+1,o2,H2,?_,hq2⟩;rw[key];simp only[yi,Kd.isCall,AZ];rw[mU E (B5 n m) h];exact mU E (B6 n m) h2
      | _=>
        simp only[opW];refine propext ⟨?_,?_⟩
        ·rintro⟨n,o,H',h,hq⟩
         cases n with
         | zero=>cases h
         | succ n=>
           rw[key] at h;simp only[yi,Kd.isCall,se] at h;generalize ev1 _ xs lw H=r at h⊢
           cases r with
           | none=>cases h
           | some p=>exact⟨n,o,H',h,hq⟩
        ·intro h;have key':=key;simp only[yi,Kd.isCall,se] at key';generalize ev1 _ xs lw H=r at h key'
         cases r with
         | none=>exact h.elim
         | some p=>
           obtain⟨n,o,H',h,hq⟩:=h;refine⟨n+1,o,H',?_,hq⟩;rw[key'];exact h
 ·rw[if_neg hw];have hw':bK fr.tm g=false:=by simpa using hw
  have key:∀n,run E (n+1) (.ops free (⟨dst,kd,args,g,amb,idx,mask⟩::l) rd fr) lo H=run E n (.ops free l rd (fr.put dst IV.undef)) lo H:=fun n=>by rw[key0];simp only[D9,hw']
  refine propext ⟨?_,?_⟩
  ·rintro⟨n,o,H',h,hq⟩
   cases n with
   | zero=>cases h
   | succ n=>rw[key] at h;exact⟨n,o,H',h,hq⟩
  ·rintro⟨n,o,H',h,hq⟩;exact⟨n+1,o,H',by rw[key];exact h,hq⟩
def GQ(E:Env)(lo:Nat)(free:Option ci)(o:IOp)(l:List IOp)(rd:Option Nat)(fr:Fr)(H:Heap)(Q:Out→Heap→Prop):Bool→Prop:=fun b=>
 match b with
 | true=>kG (bj E.g0 fr.tm o.args) (anX E lo free o l rd fr H Q)
 | false=>W E lo (.ops free l rd (fr.put o.dst IV.undef)) H Q
theorem Q1{free:Option ci}{o:IOp}{l:List IOp}:GQ E lo free o l rd fr H Q true=kG (bj E.g0 fr.tm o.args) (anX E lo free o l rd fr H Q):=rfl
theorem Q2{free:Option ci}{o:IOp}{l:List IOp}:GQ E lo free o l rd fr H Q false=W E lo (.ops free l rd (fr.put o.dst IV.undef)) H Q:=rfl
theorem avU{free:Option ci}{dst:Option Nat}{kd:Kd}{args:List IA}{g:Option (Nat×Bool)}{amb:Bool}{idx mask:Nat}{l:List IOp}:
  W E lo (.ops free (⟨dst,kd,args,g,amb,idx,mask⟩::l) rd fr) H Q=GQ E lo free ⟨dst,kd,args,g,amb,idx,mask⟩ l rd fr H Q (bK fr.tm g):=by
 rw[af2]
 cases bK fr.tm g<;>rfl
theorem aqf{dst:Option Nat}{kd:Kd}{args:List IA}{amb:Bool}{idx mask:Nat}{l:List IOp}:
  W E lo (.ops none (⟨dst,kd,args,none,amb,idx,mask⟩::l) rd fr) H Q=kG (bj E.g0 fr.tm args) (apk E lo kd l rd fr dst H Q):=by
 rw[af2];simp only[bK,if_true]
 cases bj E.g0 fr.tm args<;>rfl
theorem apy{free:Option ci}{l:List IOp}{dst:Option Nat}{v:IV}:opC E lo free l rd fr dst Q v H=W E lo (.ops free l rd (fr.put dst v)) H Q:=rfl
theorem apP{kd:Kd}{xs:List IV}{lw:Nat}{l:List IOp}{dst:Option Nat}{free':Option ci}:goC E lo kd xs lw H l rd fr dst Q free'=opW E kd xs lw H (opC E lo free' l rd fr dst Q):=rfl
theorem anW{free:Option ci}{o:IOp}{l:List IOp}{xs:List IV}:anX E lo free o l rd fr H Q xs=kG (aV free o xs) (goC E lo o.kd xs (dv free o lo H) H l rd fr o.dst Q):=rfl
theorem amI{kd:Kd}{l:List IOp}{dst:Option Nat}{xs:List IV}:apk E lo kd l rd fr dst H Q xs=opW E kd xs lo H (opC E lo none l rd fr dst Q):=rfl
def yD(res:List (Nat×Option (Option Nat)))(tm:List IV)(Q:Out→Heap→Prop):Heap→Prop:=fun H2=>kG (ax H2 tm res) (O2 Q H2)
theorem QA{res:List (Nat×Option (Option Nat))}{tm:List IV}:yD res tm Q H=kG (ax H tm res) (O2 Q H):=rfl
theorem amZ{res:List (Nat×Option (Option Nat))}:li lo res Q (.ex (.jmp .ret) fr) H=kG (bF lo fr.marks H) (yD res fr.tm Q):=by
 simp only[li]
 cases bF lo fr.marks H with
 | none=>rfl
 | some H2=>simp only[kG,yD];cases ax H2 fr.tm res<;>rfl
theorem am0{res:List (Nat×Option (Option Nat))}:li lo res Q (.ex .normal fr) H=kG (bF lo fr.marks H) (yD res fr.tm Q):=by
 simp only[li]
 cases bF lo fr.marks H with
 | none=>rfl
 | some H2=>simp only[kG,yD];cases ax H2 fr.tm res<;>rfl
theorem aez{f:FuncId}{first cap args:List IV}:W E lo (.apply (.fn f first cap) args) H Q=W E lo (.call f (first++args++cap)) H Q:=by
 refine propext ⟨?_,?_⟩
 ·rintro⟨n,o,H',h,hq⟩
  cases n with
  | zero=>cases h
  | succ n=>rw[run] at h;exact⟨n,o,H',h,hq⟩
 ·rintro⟨n,o,H',h,hq⟩;exact⟨n+1,o,H',by rw[run];exact h,hq⟩
theorem ao{f:FuncId}{args:List IV}{nt:Nat}{res:List (Nat×Option (Option Nat))}{body:IC}(hs:E.sums f=none)(hf:E.fns f=some ⟨nt,res,body⟩):
  W E lo (.call f args) H Q=W E lo (.code body none ⟨args++ce (nt - args.length),[]⟩) H (li lo res Q):=by
 have key:∀n,run E (n+1) (.call f args) lo H=amY ⟨nt,res,body⟩ lo (run E n (.code body none ⟨args++ce (nt - args.length),[]⟩) lo H):=fun n=>by
  rw[bY];simp only[dq,zh,hs,fnK,hf]
 refine propext ⟨?_,?_⟩
 ·rintro⟨n,o,H',h,hq⟩
  cases n with
  | zero=>cases h
  | succ n=>
    rw[key] at h
    cases h1:run E n (.code body none ⟨args++ce (nt - args.length),[]⟩) lo H with
    | none=>rw[h1] at h;cases h
    | some p=>
      rw[h1] at h;obtain⟨o1,H1⟩:=p;refine⟨n,o1,H1,h1,?_⟩
      cases o1 with
      | val v=>cases h
      | ex e fr1=>
        have fin:lV ⟨nt,res,body⟩ lo fr1 H1=some (o,H')→
          (match bF lo fr1.marks H1 with | none=>False | some H2=>match ax H2 fr1.tm res with | none=>False | some vs=>Q (.val (eV vs)) H2):=by
         intro h;simp only[lV] at h
         cases hu:bF lo fr1.marks H1 with
         | none=>rw[hu] at h;cases h
         | some H2=>
           rw[hu] at h
           try simp only at h⊢
           cases hr:ax H2 fr1.tm res with
           | none=>rw[hr] at h;cases h
           | some vs=>
             rw[hr] at h;injection h with h;injection h with h2 h3;subst h2 h3;exact hq
        cases e with
        | normal=>exact fin h
        | jmp j=>cases j with
          | ret=>exact fin h
          | exit id=>cases h
 ·rintro⟨n,o,H',h,hq⟩
  cases o with
  | val v=>exact hq.elim
  | ex e fr1=>
    have fin:(match bF lo fr1.marks H' with | none=>False | some H2=>match ax H2 fr1.tm res with | none=>False | some vs=>Q (.val (eV vs)) H2)→
      ∃o2 H2,lV ⟨nt,res,body⟩ lo fr1 H'=some (o2,H2)∧Q o2 H2:=by
     intro hq;simp only[lV]
     cases hu:bF lo fr1.marks H' with
     | none=>rw[hu] at hq;exact hq.elim
     | some H2=>
       rw[hu] at hq;simp only at hq⊢
       cases hr:ax H2 fr1.tm res with
       | none=>rw[hr] at hq;exact hq.elim
       | some vs=>rw[hr] at hq;exact⟨_,_,rfl,hq⟩
    cases e with
    | normal=>
      obtain⟨o2,H2,h2,hq2⟩:=fin hq;exact⟨n+1,o2,H2,by rw[key,h];exact h2,hq2⟩
    | jmp j=>cases j with
      | exit id=>exact hq.elim
      | ret=>
        obtain⟨o2,H2,h2,hq2⟩:=fin hq;exact⟨n+1,o2,H2,by rw[key,h];exact h2,hq2⟩
theorem af0{f:FuncId}{args:List IV}{s:List IV→Nat→Heap→Option (IV×Heap)}{v:IV}{H':Heap}(hs:E.sums f=some s)(hv:s args lo H=some (v,H'))(h:Q (.val v) H'):W E lo (.call f args) H Q:=
 ⟨1,.val v,H',by rw[bY];simp only[dq,zh,hs,hv,cx],h⟩
end
def D.okLo(lo:Nat):D→Prop
 | .same=>True
 | .put b _=>lo≤b
 | .new _=>True
 | .kill b _=>lo≤b
def Keep(lo:Nat)(H H':Heap):Prop:=H.n≤H'.n∧∀b,b < lo→b < H.n→H'.get b=H.get b
theorem Keep.refl(lo:Nat)(H:Heap):Keep lo H H:=⟨au _,fun _ _ _=>rfl⟩
theorem Keep.trans{lo:Nat}{a b c:Heap}(h:Keep lo a b)(k:Keep lo b c):Keep lo a c:=
 ⟨dr h.1 k.1,fun x h1 h2=>(k.2 x h1 (du h2 h.1)).trans (h.2 x h1 h2)⟩
theorem Keep.put{lo b:Nat}(H:Heap)(o:IObj)(h:lo≤b):Keep lo H (H.put b o):=⟨au _,fun x h1 h2=>by rw[ae,if_neg (by omega)]⟩
theorem Keep.new{lo:Nat}(H:Heap)(o:IObj):Keep lo H (H.new o):=⟨by rw[ac];omega,fun x h1 h2=>by rw[al,if_neg (by omega)]⟩
theorem Keep.lower{lo lo':Nat}{H H':Heap}(hl:lo'≤lo)(h:Keep lo H H'):Keep lo' H H':=⟨h.1,fun b h1 h2=>h.2 b (by omega) h2⟩
theorem D.keep{lo:Nat}{d:D}(h:d.okLo lo)(H:Heap):Keep lo H (d.app H):=by
 cases d with
 | same=>exact .refl _ _
 | put b o=>exact .put H o h
 | new o=>exact .new H o
 | kill b o=>exact(Keep.put H .dead h).trans (.new _ o)
theorem og{H:Heap}{lo b o:Nat}{vs:List IV}{d:D}(h:eU H lo b o vs=some d):d.okLo lo∧∀lo',lo'≤lo→eU H lo' b o vs=some d:=by
 unfold eU at h;split at h
 ·split at h
  ·rename_i e ez cs hg hc;injection h with h;subst h;refine⟨hc.1,fun lo' hl=>?_⟩;unfold eU;rw[hg];simp only;rw[if_pos ⟨by omega,hc.2⟩]
  ·cases h
 ·cases h
theorem zj{e size bytes n lo:Nat}{s:IV}{xs:List IV}{H:Heap}{v:IV}{d:D}(h:mv e size bytes s xs n lo H=some (v,d)):d.okLo lo∧∀lo',lo'≤lo→mv e size bytes s xs n lo' H=some (v,d):=by
 unfold mv at h⊢;split at h
 ·cases h
 ·rename_i hall;simp only[hall]
  cases s with
  | nilSlice=>
    simp only at h⊢;split at h
    ·rename_i h0;injection h with h;injection h with h1 h2;subst h1 h2;exact⟨trivial,fun _ _=>by simp[h0]⟩
    ·rename_i h0;split at h
     ·rename_i h1;injection h with h;injection h with h2 h3;subst h2 h3;exact⟨trivial,fun _ _=>by simp[h0,h1]⟩
     ·cases h
  | slice b o len lb ex=>
    simp only at h⊢;split at h
    ·rename_i h0;injection h with h;injection h with h1 h2;subst h1 h2;exact⟨trivial,fun _ _=>by simp[h0]⟩
    ·rename_i h0;split at h
     ·rename_i h1
      cases hw:eU H lo b (o+len*size) xs with
      | none=>rw[hw] at h;cases h
      | some d'=>
        rw[hw] at h;injection h with h;injection h with h2 h3;subst h2 h3;obtain⟨a,b⟩:=og hw;exact⟨a,fun lo' hl=>by simp[h0,h1,b lo' hl]⟩
     ·rename_i h1;split at h
      ·rename_i h2;split at h
       ·rename_i h3
        cases hs:eZ H size len (.slice b o len lb ex) with
        | none=>rw[hs] at h;cases h
        | some old=>
          rw[hs] at h;injection h with h;injection h with h4 h5;subst h4 h5;exact⟨trivial,fun lo' hl=>by simp[h0,h1,h2,h3,hs]⟩
       ·rename_i h3
        cases hg:H.get b with
        | none=>rw[hg] at h;cases h
        | some ob=>
          rw[hg] at h
          cases ob with
          | cells ro e' ez cs=>
            cases ro with
            | true=>cases h
            | false=>
              simp only at h;split at h
              ·rename_i hc;injection h with h;injection h with h4 h5;subst h4 h5;refine⟨hc.2.2.2.2.1,fun lo' hl=>?_⟩;have hc':e'=e∧ez=size∧0 < size∧o=0∧lo'≤b∧len*size≤cs.length:=⟨hc.1,hc.2.1,hc.2.2.1,hc.2.2.2.1,by omega,hc.2.2.2.2.2⟩;simp only[h0,h1,h2,h3,if_false,if_true,fY];rw[if_pos hc'];rfl
              ·cases h
          | _=>cases h
      ·cases h
  | _=>cases h
theorem aee{kd:Kd}{xs:List IV}{lo:Nat}{H:Heap}{v:IV}{d:D}(h:jU kd xs lo H=some (v,d)):d.okLo lo∧∀lo',lo'≤lo→jU kd xs lo' H=some (v,d):=by
 have keep:∀(r:Nat→Option (IV×Heap)),(∀a b,r a=r b)→bE (r lo)=some (v,d)→d.okLo lo∧∀lo',lo'≤lo→bE (r lo')=some (v,d):=by
  intro r hr h;refine⟨?_,fun lo' _=>by rw[hr lo' lo];exact h⟩
  cases h1:r lo with
  | none=>rw[h1] at h;cases h
  | some p=>rw[h1] at h;injection h with h;injection h with _ h;subst h;trivial
 cases kd with
 | store n=>
   simp only[jU] at h⊢;unfold vW at h⊢;rcases xs with _ | ⟨p,_ | ⟨x,_ | ⟨q,r⟩⟩⟩
   ·cases h
   ·cases p<;>cases h
   ·cases p<;>first | (cases h;done) | skip
    simp only at h⊢;split at h
    ·rename_i hl
     cases hw:eU H lo _ _ x.cells with
     | none=>rw[hw] at h;cases h
     | some d'=>
       rw[hw] at h;injection h with h;injection h with h2 h3;subst h2 h3;obtain⟨a,b⟩:=og hw;exact⟨a,fun lo' hl'=>by rw[if_pos hl,b lo' hl'];rfl⟩
    ·cases h
   ·cases p<;>cases h
 | append e size bytes=>
   simp only[jU] at h⊢;unfold sy at h⊢;rcases xs with _ | ⟨s,_ | ⟨x,_ | ⟨q,r⟩⟩⟩
   ·cases h
   ·cases h
   ·simp only at h⊢
    cases hl:jb x with
    | none=>rw[hl] at h;cases h
    | some n=>
      rw[hl] at h;simp only[br] at h⊢
      cases hs:eZ H size n x with
      | none=>rw[hs] at h;cases h
      | some l=>
        rw[hs] at h;exact zj h
   ·cases h
 | appendZ e size bytes zs=>
   simp only[jU] at h⊢;unfold pb at h⊢;rcases xs with _ | ⟨x,_ | ⟨y,_ | ⟨q,r⟩⟩⟩
   ·cases h
   ·cases h
   ·cases y<;>first | (cases h;done) | skip
    simp only at h⊢;split at h
    ·rename_i hc;obtain⟨a,b⟩:=zj h;exact⟨a,fun lo' hl=>by rw[if_pos hc];exact b lo' hl⟩
    ·cases h
   ·cases y<;>cases h
 | copy size=>
   simp only[jU] at h⊢;unfold CN at h⊢;rcases xs with _ | ⟨dd,_ | ⟨s,_ | ⟨q,r⟩⟩⟩
   ·cases h
   ·cases h
   ·simp only at h⊢
    cases hd:jM dd with
    | none=>rw[hd] at h;cases h
    | some n=>
      cases hl:jb s with
      | none=>rw[hd,hl] at h;cases h
      | some m=>
        rw[hd,hl] at h;simp only at h⊢;split at h
        ·rename_i h0;injection h with h;injection h with h2 h3;subst h2 h3;exact⟨trivial,fun lo' _=>by rw[if_pos h0]⟩
        ·rename_i h0
         cases hs:eZ H size (Min.min m n) s with
         | none=>rw[hs] at h;cases h
         | some l=>
           rw[hs] at h;simp only[br] at h⊢
           cases dd<;>first | (cases h;done) | skip
           rename_i b o n' c ex;simp only at h⊢
           cases hw:eU H lo b o l with
           | none=>rw[hw] at h;cases h
           | some d'=>
             rw[hw] at h;injection h with h;injection h with h2 h3;subst h2 h3;obtain⟨x,y⟩:=og hw;exact⟨x,fun lo' hl'=>by rw[if_neg h0,y lo' hl'];rfl⟩
   ·cases h
 | clear zs=>
   simp only[jU] at h⊢;unfold vZ at h⊢;rcases xs with _ | ⟨x,_ | ⟨q,r⟩⟩
   ·cases h
   ·simp only at h⊢
    cases x<;>first | (cases h;done) | skip
    ·rename_i b o n c ex;simp only at h⊢;split at h
     ·rename_i h0;injection h with h;injection h with h2 h3;subst h2 h3;exact⟨trivial,fun lo' _=>by rw[if_pos h0]⟩
     ·rename_i h0
      cases hw:eU H lo b o (iP n zs) with
      | none=>rw[hw] at h;cases h
      | some d'=>
        rw[hw] at h;injection h with h;injection h with h2 h3;subst h2 h3;obtain⟨x,y⟩:=og hw;exact⟨x,fun lo' hl'=>by rw[if_neg h0,y lo' hl'];rfl⟩
    ·injection h with h;injection h with h2 h3;subst h2 h3;exact⟨trivial,fun _ _=>rfl⟩
   ·cases h
 | alloc e ez zs=>
   simp only[jU] at h⊢;unfold v7 at h⊢
   cases xs with
   | nil=>injection h with h;injection h with h2 h3;subst h2 h3;exact⟨trivial,fun _ _=>rfl⟩
   | cons=>cases h
 | box e ez=>
   simp only[jU] at h⊢;unfold IG at h⊢;rcases xs with _ | ⟨x,_ | ⟨q,r⟩⟩
   ·cases h
   ·injection h with h;injection h with h2 h3;subst h2 h3;exact⟨trivial,fun _ _=>rfl⟩
   ·cases h
 | buildSl e ez n zs offs=>
   simp only[jU] at h⊢;unfold pa at h⊢;simp only at h⊢
   cases hf:bO offs xs zs with
   | none=>rw[hf] at h;cases h
   | some cs=>rw[hf] at h;injection h with h;injection h with h2 h3;subst h2 h3;exact⟨trivial,fun _ _=>rfl⟩
 | rangeM=>
   simp only[jU] at h⊢;unfold ss at h⊢;split at h
   ·injection h with h;injection h with h2 h3;subst h2 h3;exact⟨trivial,fun _ _=>rfl⟩
   ·rename_i b
    cases hm:aF H b with
    | none=>rw[hm] at h;cases h
    | some p=>rw[hm] at h;injection h with h;injection h with h2 h3;subst h2 h3;exact⟨trivial,fun _ _=>rfl⟩
   ·cases h
 | nextM=>
   simp only[jU] at h⊢;unfold vX at h⊢;split at h
   ·rename_i r;split at h
    ·rename_i hl
     cases hm:stepM H r with
     | none=>rw[hm] at h;cases h
     | some p=>
       obtain⟨v1,o⟩:=p;rw[hm] at h;injection h with h;injection h with h2 h3;subst h2 h3;refine⟨?_,fun lo' hl'=>by simp only;rw[if_pos (by omega:lo'≤r)];rfl⟩
       cases o with
       | none=>trivial
       | some o=>exact hl
    ·cases h
   ·cases h
 | mkmap=>
   simp only[jU] at h⊢;unfold vY at h⊢;rcases xs with _ | ⟨x,_ | ⟨q,r⟩⟩
   ·injection h with h;injection h with h2 h3;subst h2 h3;exact⟨trivial,fun _ _=>rfl⟩
   ·cases x<;>first | (cases h;done) | (injection h with h;injection h with h2 h3;subst h2 h3;exact⟨trivial,fun _ _=>rfl⟩)
   ·cases x<;>cases h
 | mksl e ez bytes zs=>
   simp only[jU] at h⊢;unfold CM at h⊢;rcases xs with _ | ⟨x,_ | ⟨y,_ | ⟨q,r⟩⟩⟩
   ·cases h
   ·cases x<;>cases h
   ·cases x<;>first | (cases h;done) | skip
    cases y<;>first | (cases h;done) | skip
    simp only at h⊢;split at h
    ·rename_i hc;injection h with h;injection h with h2 h3;subst h2 h3;exact⟨trivial,fun _ _=>by rw[if_pos hc]⟩
    ·cases h
   ·cases x<;>first | (cases h;done) | (cases y<;>cases h)
 | mapUpd ky=>
   simp only[jU] at h⊢;unfold sw at h⊢;rcases xs with _ | ⟨m,_ | ⟨k,_ | ⟨v',_ | ⟨q,r⟩⟩⟩⟩
   ·cases h
   ·cases m<;>cases h
   ·cases m<;>cases h
   ·cases m<;>first | (cases h;done) | skip
    rename_i b;simp only at h⊢
    cases hm:aF H b with
    | none=>rw[hm] at h;cases h
    | some p=>
      obtain⟨es,clock⟩:=p;rw[hm] at h;simp only at h⊢;split at h
      ·rename_i hc;have hc':∀lo',lo'≤lo→lo'≤b∧cp ky k=true:=fun lo' hl=>⟨by omega,hc.2⟩
       cases hf:aK ky k es 0 with
       | none=>rw[hf] at h;cases h
       | some r=>rw[hf] at h;cases r with
         | none=>injection h with h;injection h with h2 h3;subst h2 h3;exact⟨hc.1,fun lo' hl=>by rw[if_pos (hc' lo' hl)]⟩
         | some x=>obtain⟨i,v⟩:=x;injection h with h;injection h with h2 h3;subst h2 h3;exact⟨hc.1,fun lo' hl=>by rw[if_pos (hc' lo' hl)]⟩
      ·cases h
   ·cases m<;>cases h
 | delete ky=>
   simp only[jU] at h⊢;unfold sx at h⊢;rcases xs with _ | ⟨m,_ | ⟨k,_ | ⟨q,r⟩⟩⟩
   ·cases h
   ·cases m<;>cases h
   ·cases m<;>first | (cases h;done) | skip
    rename_i b;simp only at h⊢
    cases hm:aF H b with
    | none=>rw[hm] at h;cases h
    | some p=>
      obtain⟨es,clock⟩:=p;rw[hm] at h;simp only at h⊢;split at h
      ·rename_i hc;have hc':∀lo',lo'≤lo→lo'≤b∧cp ky k=true:=fun lo' hl=>⟨by omega,hc.2⟩
       cases hf:aK ky k es 0 with
       | none=>rw[hf] at h;cases h
       | some r=>rw[hf] at h;cases r with
         | none=>injection h with h;injection h with h2 h3;subst h2 h3;exact⟨trivial,fun lo' hl=>by rw[if_pos (hc' lo' hl)]⟩
         | some x=>obtain⟨i,v⟩:=x;injection h with h;injection h with h2 h3;subst h2 h3;exact⟨hc.1,fun lo' hl=>by rw[if_pos (hc' lo' hl)]⟩
      ·cases h
   ·cases m<;>cases h
 | mapEntry t ky zero=>
   simp only[jU] at h⊢;unfold mj at h⊢;rcases xs with _ | ⟨m,_ | ⟨k,_ | ⟨q,r⟩⟩⟩
   ·cases h
   ·cases m<;>cases h
   ·cases m<;>first | (cases h;done) | skip
    rename_i b;simp only at h⊢
    cases hm:aF H b with
    | none=>rw[hm] at h;cases h
    | some p=>
      obtain⟨es,clock⟩:=p;rw[hm] at h;simp only at h⊢;split at h
      ·rename_i hc;have hc':∀lo',lo'≤lo→lo'≤b∧cp ky k=true:=fun lo' hl=>⟨by omega,hc.2⟩
       cases hf:aK ky k es 0 with
       | none=>rw[hf] at h;cases h
       | some r=>rw[hf] at h;cases r with
         | none=>injection h with h;injection h with h2 h3;subst h2 h3;exact⟨hc.1,fun lo' hl=>by rw[if_pos (hc' lo' hl)]⟩
         | some x=>
           obtain⟨i,v⟩:=x;simp only at h⊢
           cases he:es[i]? with
           | none=>rw[he] at h;cases h
           | some e=>rw[he] at h;injection h with h;injection h with h2 h3;subst h2 h3;exact⟨hc.1,fun lo' hl=>by rw[if_pos (hc' lo' hl)];rfl⟩
      ·cases h
   ·cases m<;>cases h
 | entryStore=>
   simp only[jU] at h⊢;unfold js at h⊢;rcases xs with _ | ⟨m,_ | ⟨k,_ | ⟨v',_ | ⟨q,r⟩⟩⟩⟩
   ·cases h
   ·cases m<;>cases h
   ·cases m<;>first | (cases h;done) | (cases k<;>cases h)
   ·cases m<;>first | (cases h;done) | skip
    cases k<;>first | (cases h;done) | skip
    rename_i b kk s;simp only at h⊢
    cases hm:aF H b with
    | none=>rw[hm] at h;cases h
    | some p=>
      obtain⟨es,clock⟩:=p;rw[hm] at h;simp only at h⊢;split at h
      ·rename_i hc
       cases hs:gM v' s es with
       | none=>rw[hs] at h;cases h
       | some es'=>rw[hs] at h;injection h with h;injection h with h2 h3;subst h2 h3;exact⟨hc,fun lo' hl=>by rw[if_pos (by omega:lo'≤b)];rfl⟩
      ·cases h
   ·cases m<;>first | (cases h;done) | (cases k<;>cases h)
 | move=>exact keep (fun lo=>yX xs lo H) (fun _ _=>rfl) h
 | pick=>exact keep (fun lo=>yW xs lo H) (fun _ _=>rfl) h
 | build a b=>exact keep (fun lo=>sq a b xs lo H) (fun _ _=>rfl) h
 | load a=>exact keep (fun lo=>yZ a xs lo H) (fun _ _=>rfl) h
 | nilCheck=>exact keep (fun lo=>jL xs lo H) (fun _ _=>rfl) h
 | bin a=>exact keep (fun lo=>AR a xs lo H) (fun _ _=>rfl) h
 | eqBool a=>exact keep (fun lo=>nL a xs lo H) (fun _ _=>rfl) h
 | eqFlat a b=>exact keep (fun lo=>nJ a b xs lo H) (fun _ _=>rfl) h
 | eqNil a b=>exact keep (fun lo=>sm a b xs lo H) (fun _ _=>rfl) h
 | un a=>exact keep (fun lo=>Ri a xs lo H) (fun _ _=>rfl) h
 | conv a=>exact keep (fun lo=>za a xs lo H) (fun _ _=>rfl) h
 | iface a=>exact keep (fun lo=>si a xs lo H) (fun _ _=>rfl) h
 | mkfn a b=>exact keep (fun lo=>tQ a b xs lo H) (fun _ _=>rfl) h
 | slc a b c e=>exact keep (fun lo=>EQ a b c e xs lo H) (fun _ _=>rfl) h
 | slcStr a b=>exact keep (fun lo=>nz a b xs lo H) (fun _ _=>rfl) h
 | slcArr a b c e f g=>exact keep (fun lo=>nC a b c e f g xs lo H) (fun _ _=>rfl) h
 | fieldAddr a=>exact keep (fun lo=>i4 a xs lo H) (fun _ _=>rfl) h
 | field a b=>exact keep (fun lo=>sk a b xs lo H) (fun _ _=>rfl) h
 | idxSl a=>exact keep (fun lo=>sj a xs lo H) (fun _ _=>rfl) h
 | idxArrAddr a b=>exact keep (fun lo=>hX a b xs lo H) (fun _ _=>rfl) h
 | idxArr a b c=>exact keep (fun lo=>nI a b c xs lo H) (fun _ _=>rfl) h
 | idxStr=>exact keep (fun lo=>nH xs lo H) (fun _ _=>rfl) h
 | lookup a b c e=>exact keep (fun lo=>nD a b c e xs lo H) (fun _ _=>rfl) h
 | lenSl=>exact keep (fun lo=>sh xs lo H) (fun _ _=>rfl) h
 | lenStr=>exact keep (fun lo=>nE xs lo H) (fun _ _=>rfl) h
 | lenArr a=>exact keep (fun lo=>nG a xs lo H) (fun _ _=>rfl) h
 | entryM=>exact keep (fun lo=>nM xs lo H) (fun _ _=>rfl) h
 | lenMap=>exact keep (fun lo=>nF xs lo H) (fun _ _=>rfl) h
 | cap=>exact keep (fun lo=>ET xs lo H) (fun _ _=>rfl) h
 | min=>exact keep (fun lo=>ER xs lo H) (fun _ _=>rfl) h
 | max=>exact keep (fun lo=>ES xs lo H) (fun _ _=>rfl) h
 | strOf=>exact keep (fun lo=>sg xs lo H) (fun _ _=>rfl) h
 | extract a=>exact keep (fun lo=>lB a xs lo H) (fun _ _=>rfl) h
 | call=>cases h
theorem anF{kd:Kd}{xs:List IV}{lo:Nat}{H:Heap}{v:IV}{H':Heap}(h:ev1 kd xs lo H=some (v,H')):Keep lo H H'∧∀lo',lo'≤lo→ev1 kd xs lo' H=some (v,H'):=by
 rw[←CE] at h
 cases hd:jU kd xs lo H with
 | none=>rw[hd] at h;cases h
 | some p=>
   obtain⟨v1,d⟩:=p;rw[hd] at h;injection h with h;injection h with h1 h2;subst h1 h2;obtain⟨a,b⟩:=aee hd;exact⟨D.keep a H,fun lo' hl=>by rw[←CE,b lo' hl];rfl⟩
theorem zU{lo:Nat}:∀{rs:List Nat} {H H':Heap},bF lo rs H=some H'→Keep lo H H'∧∀lo',lo'≤lo→bF lo' rs H=some H'
 | [],H,H',h=>by injection h with h;subst h;exact⟨.refl _ _,fun _ _=>rfl⟩
 | r::rs,H,H',h=>by
   simp only[bF] at h⊢
   cases hg:H.get r with
   | none=>rw[hg] at h;cases h
   | some o=>
     rw[hg] at h
     cases o<;>simp only at h⊢<;>try (cases h;done)
     split at h
     ·rename_i hl;obtain⟨a,b⟩:=zU h;exact⟨(Keep.put H .taken hl).trans a,fun lo' hl'=>by rw[if_pos (by omega:lo'≤r)];exact b lo' hl'⟩
     ·cases h
def RP(E:Env):Prop:=∀f s,E.sums f=some s→∀args lo H v H',s args lo H=some (v,H')→Keep lo H H'∧∀lo',lo'≤lo→s args lo' H=some (v,H')
theorem amR{E:Env}(hE:RP E):∀(n:Nat) (t:Task) (lo:Nat) (H:Heap) (o:Out) (H':Heap),run E n t lo H=some (o,H')→Keep lo H H'∧∀lo',lo'≤lo→run E n t lo' H=some (o,H'):=by
 intro n
 induction n with
 | zero=>intro t lo H o H' h;cases h
 | succ n ih=>
   intro t lo H o H' h;rw[bY] at h
   have goal:(Keep lo H H'∧∀lo',lo'≤lo→dq E (run E n) t lo' H=some (o,H'))→Keep lo H H'∧∀lo',lo'≤lo→run E (n+1) t lo' H=some (o,H'):=
    fun x=>⟨x.1,fun lo' hl=>by rw[bY];exact x.2 lo' hl⟩
   apply goal;clear goal
   cases t with
   | code c rd fr=>
     simp only[dq] at h⊢
     cases c with
     | skip=>injection h with h;injection h with h1 h2;subst h1 h2;exact⟨.refl _ _,fun _ _=>rfl⟩
     | exit id=>injection h with h;injection h with h1 h2;subst h1 h2;exact⟨.refl _ _,fun _ _=>rfl⟩
     | ret=>injection h with h;injection h with h1 h2;subst h1 h2;exact⟨.refl _ _,fun _ _=>rfl⟩
     | ops l=>exact ih _ _ _ _ _ h
     | scope c=>exact ih _ _ _ _ _ h
     | seq a b=>
       simp only[jj] at h⊢
       cases h1:run E n (.code a rd fr) lo H with
       | none=>rw[h1] at h;cases h
       | some p=>
         obtain⟨o1,H1⟩:=p;obtain⟨k1,k2⟩:=ih _ _ _ _ _ h1;rw[h1] at h
         cases o1 with
         | val v=>injection h with h;injection h with h1 h2;subst h1 h2;exact⟨k1,fun lo' hl=>by rw[k2 lo' hl];rfl⟩
         | ex e fr1=>cases e with
           | normal=>
             obtain⟨m1,m2⟩:=ih _ _ _ _ _ h;exact⟨k1.trans m1,fun lo' hl=>by rw[k2 lo' hl];exact m2 lo' hl⟩
           | jmp j=>injection h with h;injection h with h1 h2;subst h1 h2;exact⟨k1,fun lo' hl=>by rw[k2 lo' hl];rfl⟩
     | cond c a b=>
       simp only[jj] at h⊢
       cases hc:c.eval E.g0 fr.tm with
       | none=>rw[hc] at h;cases h
       | some v=>
         rw[hc] at h
         cases v<;>first | (cases h;done) | skip
         rename_i x
         cases x<;>exact ih _ _ _ _ _ h
     | block id c=>
       simp only[jj] at h⊢
       cases h1:run E n (.code c rd fr) lo H with
       | none=>rw[h1] at h;cases h
       | some p=>
         obtain⟨o1,H1⟩:=p;obtain⟨k1,k2⟩:=ih _ _ _ _ _ h1;rw[h1] at h
         have hH:H1=H':=by
          cases o1 with
          | val v=>injection h with h;injection h with h1 h2
          | ex e fr1=>cases e with
            | normal=>injection h with h;injection h with h1 h2
            | jmp j=>cases j<;>(injection h with h;injection h with h1 h2)
         subst hH;exact⟨k1,fun lo' hl=>by rw[k2 lo' hl];exact h⟩
     | loop c=>
       simp only[jj] at h⊢
       cases h1:run E n (.code c rd fr) lo H with
       | none=>rw[h1] at h;cases h
       | some p=>
         obtain⟨o1,H1⟩:=p;obtain⟨k1,k2⟩:=ih _ _ _ _ _ h1;rw[h1] at h
         cases o1 with
         | val v=>injection h with h;injection h with h1 h2;subst h1 h2;exact⟨k1,fun lo' hl=>by rw[k2 lo' hl];rfl⟩
         | ex e fr1=>cases e with
           | normal=>
             obtain⟨m1,m2⟩:=ih _ _ _ _ _ h;exact⟨k1.trans m1,fun lo' hl=>by rw[k2 lo' hl];exact m2 lo' hl⟩
           | jmp j=>injection h with h;injection h with h1 h2;subst h1 h2;exact⟨k1,fun lo' hl=>by rw[k2 lo' hl];rfl⟩
     | rfn f ps asg body=>
       simp only[jj] at h⊢
       cases hc:f.eval E.g0 fr.tm with
       | none=>rw[hc] at h;cases h
       | some g=>
         cases he:gY rd H with
         | none=>rw[hc,he] at h;cases h
         | some e=>
           obtain⟨df,marks,H1⟩:=e;rw[hc,he] at h
           have hk:Keep lo H H1:=by
            unfold gY at he
            cases rd with
            | none=>injection he with he;injection he with _ he;injection he with _ he;subst he;exact .new _ _
            | some l=>
              simp only at he;split at he
              ·injection he with he;injection he with _ he;injection he with _ he;subst he;exact .refl _ _
              ·cases he
           simp only[amU] at h⊢
           cases h1:run E n (.apply g [.yield H1.n]) lo (H1.new (.loop .ready none fr.tm ps asg body df)) with
           | none=>rw[h1] at h;cases h
           | some p=>
             obtain⟨o1,H2⟩:=p;obtain⟨k1,k2⟩:=ih _ _ _ _ _ h1;rw[h1] at h
             cases o1 with
             | ex e fr1=>cases h
             | val v=>
               simp only[yk,BU] at h
               cases hg:H2.get H1.n with
               | none=>rw[hg] at h;cases h
               | some ob=>
                 rw[hg] at h
                 cases ob<;>first | (cases h;done) | skip
                 rename_i st pend tm ps' asg' body' df';simp only at h;split at h
                 ·cases h
                 ·rename_i hb;have hb':∀lo',lo'≤lo→¬(st=.busy∨H1.n < lo'):=fun lo' hl x=>hb (x.elim .inl fun y=>.inr (by omega))
                  have hlo:lo≤H1.n:=by
                   have:¬H1.n < lo:=fun y=>hb (.inr y)
                   omega
                  have hH:H'=H2.put H1.n (.loop .exhausted pend tm ps' asg' body' df'):=by
                   cases pend<;>(injection h with h;injection h with h1 h2;exact h2.symm)
                  refine⟨((hk.trans (.new _ _)).trans k1).trans (hH▸Keep.put _ _ hlo),fun lo' hl=>?_⟩
                  rw[k2 lo' hl];simp only[yk,BU,hg];rw[if_neg (hb' lo' hl)];exact h
   | segs l rd fr=>
     simp only[dq] at h⊢
     cases l with
     | nil=>injection h with h;injection h with h1 h2;subst h1 h2;exact⟨.refl _ _,fun _ _=>rfl⟩
     | cons x l=>
       obtain⟨k,os⟩:=x;simp only[Pv] at h⊢;generalize hT:Task.ops _ os rd fr=T at h⊢
       cases h1:run E n T lo H with
       | none=>rw[h1] at h;cases h
       | some p=>
         obtain⟨o1,H1⟩:=p;obtain⟨k1,k2⟩:=ih _ _ _ _ _ h1;rw[h1] at h
         cases o1 with
         | val v=>cases h
         | ex e fr1=>cases e with
           | normal=>
             obtain⟨m1,m2⟩:=ih _ _ _ _ _ h;exact⟨k1.trans m1,fun lo' hl=>by rw[k2 lo' hl];exact m2 lo' hl⟩
           | jmp j=>cases h
   | ops free l rd fr=>
     simp only[dq] at h⊢
     cases l with
     | nil=>injection h with h;injection h with h1 h2;subst h1 h2;exact⟨.refl _ _,fun _ _=>rfl⟩
     | cons x l=>
       simp only[D9] at h⊢
       cases hw:bK fr.tm x.guard with
       | false=>rw[hw] at h;exact ih _ _ _ _ _ h
       | true=>
         rw[hw] at h;simp only[tH] at h⊢
         cases hx:bj E.g0 fr.tm x.args with
         | none=>rw[hx] at h;cases h
         | some xs=>
           rw[hx] at h;simp only at h⊢
           cases hf:aV free x xs with
           | none=>rw[hf] at h;cases h
           | some free'=>
             rw[hf] at h;simp only at h⊢
             have low:∀lo',lo'≤lo→dv free x lo' H≤dv free x lo H:=fun lo' hl=>by
              unfold dv;cases free with
              | none=>exact hl
              | some f=>simp only;split<;>omega
             have weak:∀{H1:Heap},Keep (dv free x lo H) H H1→Keep lo H H1:=fun{H1} hk=>by
              unfold dv at hk
              cases free with
              | none=>exact hk
              | some f=>
                simp only at hk;split at hk
                ·exact hk
                ·exact⟨hk.1,fun b _ h2=>hk.2 b h2 h2⟩
             cases hc:x.kd.isCall with
             | true=>
               rw[hc] at h;simp only[yi,AZ] at h⊢
               cases xs with
               | nil=>cases h
               | cons f xs=>
                 simp only at h⊢
                 cases h1:run E n (.apply f xs) (dv free x lo H) H with
                 | none=>rw[h1] at h;cases h
                 | some p=>
                   obtain⟨o1,H1⟩:=p;obtain⟨k1,k2⟩:=ih _ _ _ _ _ h1;rw[h1] at h
                   cases o1 with
                   | ex e fr1=>cases h
                   | val v=>
                     obtain⟨m1,m2⟩:=ih _ _ _ _ _ h;exact⟨(weak k1).trans m1,fun lo' hl=>by rw[k2 _ (low lo' hl)];exact m2 lo' hl⟩
             | false=>
               rw[hc] at h;simp only[yi,se] at h⊢
               cases h1:ev1 x.kd xs (dv free x lo H) H with
               | none=>rw[h1] at h;cases h
               | some p=>
                 obtain⟨v,H1⟩:=p;obtain⟨k1,k2⟩:=anF h1;rw[h1] at h;obtain⟨m1,m2⟩:=ih _ _ _ _ _ h;exact⟨(weak k1).trans m1,fun lo' hl=>by rw[k2 _ (low lo' hl)];exact m2 lo' hl⟩
   | apply f args=>
     simp only[dq] at h⊢
     cases f with
     | fn f first cap=>exact ih _ _ _ _ _ h
     | yield l=>
       simp only[Hi,FK] at h⊢
       cases hg:H.get l with
       | none=>rw[hg] at h;cases h
       | some ob=>
         rw[hg] at h
         cases ob<;>first | (cases h;done) | skip
         rename_i st pend tm ps asg body df;simp only at h⊢;split at h
         ·rename_i hl0;have hl':∀lo',lo'≤lo→args.length=ps.length∧lo'≤l:=fun lo' hl=>⟨hl0.1,by omega⟩
          cases h1:run E n (.code asg (some l) ⟨eG tm ps args,[]⟩) lo H with
          | none=>rw[h1] at h;cases h
          | some p=>
            obtain⟨o1,H1⟩:=p;obtain⟨k1,k2⟩:=ih _ _ _ _ _ h1;rw[h1] at h
            cases o1 with
            | val v=>cases h
            | ex e fr1=>cases e with
              | jmp j=>cases h
              | normal=>
                simp only[oe] at h
                cases hb:iJ l H1 with
                | none=>rw[hb] at h;cases h
                | some H2=>
                  rw[hb] at h
                  have kb:Keep lo H1 H2:=by
                   unfold iJ at hb;split at hb
                   ·injection hb with hb;subst hb;exact .put _ _ hl0.2
                   ·cases hb
                  simp only at h
                  cases h2:run E n (.code body (some l) fr1) lo H2 with
                  | none=>rw[h2] at h;cases h
                  | some p=>
                    obtain⟨o2,H3⟩:=p;obtain⟨m1,m2⟩:=ih _ _ _ _ _ h2;rw[h2] at h
                    cases o2 with
                    | val v=>cases h
                    | ex e2 fr2=>
                      simp only[ww] at h
                      have ke:Keep lo H3 H':=by
                       unfold zN at h;split at h
                       ·cases e2<;>(injection h with h;injection h with _ h;subst h;exact .put _ _ hl0.2)
                       ·cases h
                      refine⟨((k1.trans kb).trans m1).trans ke,fun lo' hl=>?_⟩
                      rw[if_pos (hl' lo' hl),k2 lo' hl];simp only[oe,hb];rw[m2 lo' hl];exact h
         ·cases h
     | _=>cases h
   | call f args=>
     simp only[dq,zh] at h⊢
     cases hs:E.sums f with
     | some s=>
       rw[hs] at h;simp only at h⊢
       cases hv:s args lo H with
       | none=>rw[hv] at h;cases h
       | some p=>
         obtain⟨v1,H1⟩:=p;rw[hv] at h;injection h with h;injection h with h1 h2;subst h1 h2;obtain⟨a,b⟩:=hE f s hs args lo H v1 H1 hv;exact⟨a,fun lo' hl=>by rw[b lo' hl];rfl⟩
     | none=>
     rw[hs] at h;simp only at h⊢
     cases hf:E.fns f with
     | none=>rw[hf] at h;cases h
     | some fn=>
       rw[hf] at h;simp only[fnK] at h⊢
       cases h1:run E n (.code fn.body none ⟨args++ce (fn.ntmps - args.length),[]⟩) lo H with
       | none=>rw[h1] at h;cases h
       | some p=>
         obtain⟨o1,H1⟩:=p;obtain⟨k1,k2⟩:=ih _ _ _ _ _ h1;rw[h1] at h
         have lv:∀fr1,lV fn lo fr1 H1=some (o,H')→Keep lo H H'∧∀lo',lo'≤lo→lV fn lo' fr1 H1=some (o,H'):=by
          intro fr1 h;simp only[lV] at h⊢
          cases hu:bF lo fr1.marks H1 with
          | none=>rw[hu] at h;cases h
          | some H2=>
            rw[hu] at h;obtain⟨u1,u2⟩:=zU hu;simp only at h
            cases hr:ax H2 fr1.tm fn.results with
            | none=>rw[hr] at h;cases h
            | some vs=>
              rw[hr] at h;injection h with h;injection h with q1 q2;subst q1 q2;exact⟨k1.trans u1,fun lo' hl=>by rw[u2 lo' hl];simp only[hr,cx]⟩
         cases o1 with
         | val v=>cases h
         | ex e fr1=>cases e with
           | normal=>
             obtain⟨a,b⟩:=lv fr1 h;exact⟨a,fun lo' hl=>by rw[k2 lo' hl];exact b lo' hl⟩
           | jmp j=>cases j with
             | exit id=>cases h
             | ret=>
               obtain⟨a,b⟩:=lv fr1 h;exact⟨a,fun lo' hl=>by rw[k2 lo' hl];exact b lo' hl⟩
theorem W.pure{E:Env}(hE:RP E){f:FuncId}{args:List IV}{lo:Nat}{H:Heap}{Q:Out→Heap→Prop}(hlo:lo≤H.n)(h:W E H.n (.call f args) H fun o H'=>Keep H.n H H'→Q o H'):W E lo (.call f args) H Q:=by
 obtain⟨n,o,H',h1,h2⟩:=h;obtain⟨a,b⟩:=amR hE _ _ _ _ _ _ h1;exact⟨n,o,H',b lo hlo,h2 a⟩
section
variable {E:Env}{lo:Nat}{rd:Option Nat}{fr:Fr}{H:Heap}{Q:Out→Heap→Prop}
theorem aqd{f:IA}{ps:List Nat}{asg body:IC}{g:IV}{df:Nat}{marks:List Nat}{H1:Heap}(hg:f.eval E.g0 fr.tm=some g)(he:gY rd H=some (df,marks,H1))
  (h:W E lo (.apply g [.yield H1.n]) (H1.new (.loop .ready none fr.tm ps asg body df)) fun o H2=>
   ∃v st pend tm ps' asg' body' df',o=.val v∧H2.get H1.n=some (.loop st pend tm ps' asg' body' df')∧st≠.busy∧lo≤H1.n∧
    Q (.ex (match pend with | none=>.normal | some j=>.jmp j) {fr with marks:=marks++fr.marks}) (H2.put H1.n (.loop .exhausted pend tm ps' asg' body' df'))):
  W E lo (.code (.rfn f ps asg body) rd fr) H Q:=by
 obtain⟨n,o,H2,h1,v,st,pend,tm,ps',asg',body',df',rfl,h2,h3,h4,h5⟩:=h;refine⟨n+1,_,_,?_,h5⟩;rw[run];simp only[hg,he,h1,h2];rw[if_neg (by intro h;rcases h with h | h;exact h3 h;omega)]
 cases pend<;>rfl
theorem aex{l:Nat}{args:List IV}{st:_}{pend:Option Jmp}{tm:List IV}{ps:List Nat}{asg body:IC}{df:Nat}(hl:H.get l=some (.loop st pend tm ps asg body df))(ha:args.length=ps.length)(hlo:lo≤l)
  (h:W E lo (.code asg (some l) ⟨eG tm ps args,[]⟩) H fun o H1=>∃fr H2,o=.ex .normal fr∧iJ l H1=some H2∧
   W E lo (.code body (some l) fr) H2 fun o H3=>∃e fr' r,o=.ex e fr'∧zN l e H3=some r∧Q r.1 r.2):
  W E lo (.apply (.yield l) args) H Q:=by
 obtain⟨n,o,H1,h1,fr,H2,rfl,h2,m,o,H3,h3,e,fr',r,rfl,h4,h5⟩:=h;refine⟨max n m+1,r.1,r.2,?_,h5⟩;rw[run];simp only[hl];rw[if_pos ⟨ha,hlo⟩,mU E (B5 n m) h1];simp only[h2];rw[mU E (B6 n m) h3];exact h4
end
end Go.Iso
