/-
  rules of runs.
-/
import Derived.Test.YtpnbiapmndbhgaaGreatDoorIsoP5
set_option linter.unusedSimpArgs false
set_option linter.unusedVariables false
namespace Go.Iso
def wa(k:Sg):Option bR:=match k with | .seq=>none | .free=>some []
theorem Jg(E:Env):∀(n:Nat) (t:Task) (lo:Nat) (H:Heap) (r:Out×Heap),run E n t lo H=some r→run E (n+1) t lo H=some r:=by
 intro n
 induction n with
 | zero=>intro t lo H r h;simp[run] at h
 | succ n ih=>
   intro t lo H r h
   cases t with
   | code c rd fr=>
     cases c with
     | skip=>exact h
     | exit id=>exact h
     | ret=>exact h
     | ops l=>simp only[run] at h⊢;exact ih _ _ _ _ h
     | scope c=>simp only[run] at h⊢;exact ih _ _ _ _ h
     | seq a b=>
       rw[run] at h⊢
       try simp only at h⊢
       cases h1:run E n (.code a rd fr) lo H with
       | none=>rw[h1] at h;cases h
       | some p=>
         rw[h1] at h;rw[ih _ _ _ _ h1];obtain⟨o,H1⟩:=p
         cases o with
         | val v=>exact h
         | ex e fr1=>cases e with
           | normal=>exact ih _ _ _ _ h
           | jmp j=>exact h
     | cond c a b=>
       rw[run] at h⊢
       try simp only at h⊢
       cases hc:c.eval E.g0 fr.tm with
       | none=>rw[hc] at h;cases h
       | some v=>
         rw[hc] at h
         cases v<;>first | cases h;done | skip
         rename_i b
         cases b<;>exact ih _ _ _ _ h
     | block id c=>
       rw[run] at h⊢
       try simp only at h⊢
       cases h1:run E n (.code c rd fr) lo H with
       | none=>rw[h1] at h;cases h
       | some p=>
         rw[h1] at h;rw[ih _ _ _ _ h1];exact h
     | loop c=>
       rw[run] at h⊢
       try simp only at h⊢
       cases h1:run E n (.code c rd fr) lo H with
       | none=>rw[h1] at h;cases h
       | some p=>
         rw[h1] at h;rw[ih _ _ _ _ h1];obtain⟨o,H1⟩:=p
         cases o with
         | val v=>exact h
         | ex e fr1=>cases e with
           | normal=>exact ih _ _ _ _ h
           | jmp j=>exact h
     | rfn f ps asg body=>
       rw[run] at h⊢
       try simp only at h⊢
       cases hc:f.eval E.g0 fr.tm with
       | none=>rw[hc] at h;cases h
       | some g=>
         cases he:gE rd H with
         | none=>rw[hc,he] at h;cases h
         | some e=>
           obtain⟨df,marks,H1⟩:=e;rw[hc,he] at h
           try simp only at h⊢
           cases h1:run E n (.apply g [.yield H1.n]) lo (H1.new (.loop .ready none fr.tm ps asg body df)) with
           | none=>rw[h1] at h;cases h
           | some p=>
             rw[h1] at h;rw[ih _ _ _ _ h1];exact h
   | segs l rd fr=>
     cases l with
     | nil=>exact h
     | cons x l=>
       obtain⟨k,os⟩:=x
       have key:∀m,run E (m+1) (.segs ((k,os)::l) rd fr) lo H=uc (run E m) l rd lo (run E m (.ops (wa k) os rd fr) lo H):=fun m=>by
        rw[←ue,rI];have e:Gg E m=run E m:=by funext t lo H;exact ue E m t lo H
        rw[e];rfl
       rw[key] at h⊢;generalize hT:Task.ops (wa k) os rd fr=T at h⊢
       cases h1:run E n T lo H with
       | none=>rw[h1] at h;cases h
       | some p=>
         rw[h1] at h;rw[ih _ _ _ _ h1];obtain⟨o,H1⟩:=p
         cases o with
         | val v=>cases h
         | ex e fr1=>cases e with
           | normal=>exact ih _ _ _ _ h
           | jmp j=>cases h
   | ops free l rd fr=>
     cases l with
     | nil=>exact h
     | cons o l=>
       obtain⟨dst,kd,args,guard,amb,idx,mask⟩:=o;rw[run.eq_def] at h⊢
       try simp only at h⊢
       split at h
       ·rename_i hw;rw[if_pos hw]
        cases hx:be E.g0 fr.tm args with
        | none=>rw[hx] at h;cases h
        | some xs=>
          rw[hx] at h
          try simp only at h⊢
          cases hf:aR free ⟨dst,kd,args,guard,amb,idx,mask⟩ xs with
          | none=>rw[hf] at h;cases h
          | some free'=>
            rw[hf] at h
            try simp only at h⊢
            cases kd with
            | call=>
              try simp only at h⊢
              cases xs with
              | nil=>cases h
              | cons f xs=>
                try simp only at h⊢
                cases h1:run E n (.apply f xs) (cU free ⟨dst,.call,args,guard,amb,idx,mask⟩ lo H) H with
                | none=>rw[h1] at h;cases h
                | some p=>
                  rw[h1] at h;rw[ih _ _ _ _ h1];obtain⟨o,H1⟩:=p
                  cases o with
                  | val v=>exact ih _ _ _ _ h
                  | ex e fr=>cases h
            | _=>
              try simp only at h⊢
              split at h
              ·rename_i heq
               first | exact ih _ _ _ _ h | (rw[heq];exact ih _ _ _ _ h)
              ·cases h
       ·rename_i hw;rw[if_neg hw];exact ih _ _ _ _ h
   | apply f args=>
     cases f with
     | fn f first cap=>rw[run] at h⊢;exact ih _ _ _ _ h
     | yield l=>
       rw[run] at h⊢
       try simp only at h⊢
       cases hg:H.get l with
       | none=>rw[hg] at h;cases h
       | some ob=>
         rw[hg] at h
         cases ob with
         | loop st pend tm ps asg body df=>
           try simp only at h⊢
           split at h
           ·rename_i hl;rw[if_pos hl]
            cases h1:run E n (.code asg (some l) ⟨dQ tm ps args,[]⟩) lo H with
            | none=>rw[h1] at h;cases h
            | some p=>
              rw[h1] at h;rw[ih _ _ _ _ h1];obtain⟨o,H1⟩:=p
              cases o with
              | val v=>cases h
              | ex e fr=>cases e with
                | jmp j=>cases h
                | normal=>
                  try simp only at h⊢
                  cases hb:ig l H1 with
                  | none=>rw[hb] at h;cases h
                  | some H2=>
                    rw[hb] at h
                    try simp only at h⊢
                    cases h2:run E n (.code body (some l) fr) lo H2 with
                    | none=>rw[h2] at h;cases h
                    | some p=>
                      rw[h2] at h;rw[ih _ _ _ _ h2];exact h
           ·cases h
         | _=>cases h
     | _=>cases h
   | call f args=>
     rw[run] at h⊢
     try simp only at h⊢
     cases hs:E.sums f with
     | some s=>rw[hs] at h;exact h
     | none=>
       rw[hs] at h
       try simp only at h⊢
       cases hf:E.fns f with
       | none=>rw[hf] at h;cases h
       | some fn=>
         rw[hf] at h
         try simp only at h⊢
         cases h1:run E n (.code fn.body none ⟨args++bT (fn.ntmps - args.length),[]⟩) lo H with
         | none=>rw[h1] at h;cases h
         | some p=>
           rw[h1] at h;rw[ih _ _ _ _ h1];exact h
theorem m9(E:Env){n m:Nat}(hnm:n≤m){t:Task}{lo:Nat}{H:Heap}{r:Out×Heap}(h:run E n t lo H=some r):run E m t lo H=some r:=by
 induction hnm with
 | refl=>exact h
 | step _ ih=>exact Jg E _ _ _ _ _ ih
theorem bN(E:Env)(n:Nat)(t:Task)(lo:Nat)(H:Heap):run E (n+1) t lo H=cT E (run E n) t lo H:=by
 rw[←ue,rI];have e:Gg E n=run E n:=by funext t lo H;exact ue E n t lo H
 rw[e]
def W(E:Env)(lo:Nat)(t:Task)(H:Heap)(Q:Out→Heap→Prop):Prop:=∃n o H',run E n t lo H=some (o,H')∧Q o H'
section
variable {E:Env}{lo:Nat}{rd:Option Nat}{fr:Fr}{H:Heap}{Q:Out→Heap→Prop}
theorem W.mono{t:Task}{Q':Out→Heap→Prop}(h:W E lo t H Q)(hq:∀o H',Q o H'→Q' o H'):W E lo t H Q':=by
 obtain⟨n,o,H',h1,h2⟩:=h;exact⟨n,o,H',h1,hq _ _ h2⟩
def kW(E:Env)(lo:Nat)(rd:Option Nat)(b:IC)(Q:Out→Heap→Prop):Out→Heap→Prop:=fun o H=>
 match o with
 | .ex .normal fr=>W E lo (.code b rd fr) H Q
 | o=>Q o H
def pM(id:Nat)(Q:Out→Heap→Prop):Out→Heap→Prop:=fun o H=>
 match o with
 | .ex (.jmp (.exit id')) fr=>if id'=id then Q (.ex .normal fr) H else Q (.ex (.jmp (.exit id')) fr) H
 | o=>Q o H
def R4(E:Env)(lo:Nat)(rd:Option Nat)(l:List (Sg×List IOp))(Q:Out→Heap→Prop):Out→Heap→Prop:=fun o H=>
 match o with
 | .ex .normal fr=>W E lo (.segs l rd fr) H Q
 | _=>False
def P3(K:IV→Heap→Prop):Out→Heap→Prop:=fun o H=>
 match o with
 | .val v=>K v H
 | _=>False
def RQ(E:Env)(lo:Nat)(free:Option bR)(l:List IOp)(rd:Option Nat)(fr:Fr)(dst:Option Nat)(Q:Out→Heap→Prop):IV→Heap→Prop:=fun v H=>
 W E lo (.ops free l rd (fr.put dst v)) H Q
def lQ(lo:Nat)(res:List (Nat×Option (Option Nat)))(Q:Out→Heap→Prop):Out→Heap→Prop:=fun o H=>
 match o with
 | .ex e fr=>
   match e with
   | .jmp (.exit _)=>False
   | _=>
     match bq lo fr.marks H with
     | none=>False
     | some H2=>match au H2 fr.tm res with
       | none=>False
       | some vs=>Q (.val (d8 vs)) H2
 | _=>False
def kz{α:Type}(r:Option α)(K:α→Prop):Prop:=match r with | none=>False | some x=>K x
def HS(v:IV)(w:Bool):Bool:=match v with | .bool b=>b==w | _=>false
theorem LY{b w:Bool}:HS (.bool b) w=(b==w):=rfl
theorem LX{w:Bool}:HS IV.undef w=false:=rfl
theorem FP{tm:List IV}:bA tm none=true:=rfl
theorem FO{tm:List IV}{t:Nat}{w:Bool}:bA tm (some (t,w))=HS (tm.getD t IV.undef) w:=rfl
theorem SW:(true==false)=false:=rfl
theorem SX:(false==true)=false:=rfl
theorem SU:(true==true)=true:=rfl
theorem SY:(false==false)=true:=rfl
theorem Qx{α:Type}{x:α}{K:α→Prop}:kz (some x) K=K x:=rfl
theorem Qy{α:Type}{K:α→Prop}:kz none K=False:=rfl
theorem Ms{b:IC}:kW E lo rd b Q (.ex .normal fr) H=W E lo (.code b rd fr) H Q:=rfl
theorem Mt{b:IC}{j:Jmp}:kW E lo rd b Q (.ex (.jmp j) fr) H=Q (.ex (.jmp j) fr) H:=rfl
theorem Rl{id:Nat}:pM id Q (.ex .normal fr) H=Q (.ex .normal fr) H:=rfl
theorem Rk{id:Nat}:pM id Q (.ex (.jmp .ret) fr) H=Q (.ex (.jmp .ret) fr) H:=rfl
theorem Rm{id id':Nat}:pM id Q (.ex (.jmp (.exit id')) fr) H=if id'=id then Q (.ex .normal fr) H else Q (.ex (.jmp (.exit id')) fr) H:=rfl
theorem Qa{l:List (Sg×List IOp)}:R4 E lo rd l Q (.ex .normal fr) H=W E lo (.segs l rd fr) H Q:=rfl
theorem P2{K:IV→Heap→Prop}{v:IV}:P3 K (.val v) H=K v H:=rfl
theorem Rt:W E lo (.code .skip rd fr) H Q=Q (.ex .normal fr) H:=by
 refine propext ⟨?_,fun h=>⟨1,_,_,rfl,h⟩⟩;rintro⟨n,o,H',h,hq⟩
 cases n with
 | zero=>cases h
 | succ n=>simp only[run] at h;injection h with h;injection h with h1 h2;subst h1 h2;exact hq
theorem S5:W E lo (.code .ret rd fr) H Q=Q (.ex (.jmp .ret) fr) H:=by
 refine propext ⟨?_,fun h=>⟨1,_,_,rfl,h⟩⟩;rintro⟨n,o,H',h,hq⟩
 cases n with
 | zero=>cases h
 | succ n=>simp only[run] at h;injection h with h;injection h with h1 h2;subst h1 h2;exact hq
theorem Rw{id:Nat}:W E lo (.code (.exit id) rd fr) H Q=Q (.ex (.jmp (.exit id)) fr) H:=by
 refine propext ⟨?_,fun h=>⟨1,_,_,rfl,h⟩⟩;rintro⟨n,o,H',h,hq⟩
 cases n with
 | zero=>cases h
 | succ n=>simp only[run] at h;injection h with h;injection h with h1 h2;subst h1 h2;exact hq
theorem PE{l:List (Sg×List IOp)}:W E lo (.code (.ops l) rd fr) H Q=W E lo (.segs l rd fr) H Q:=by
 refine propext ⟨?_,?_⟩
 ·rintro⟨n,o,H',h,hq⟩
  cases n with
  | zero=>cases h
  | succ n=>exact⟨n,o,H',h,hq⟩
 ·rintro⟨n,o,H',h,hq⟩;exact⟨n+1,o,H',h,hq⟩
theorem Lg{c b:IC}{t:Task}(ht:∀n,run E (n+1) t lo H=nf (fun fr' H'=>run E n (.code b rd fr') lo H') (run E n (.code c rd fr) lo H)):
  W E lo t H Q=W E lo (.code c rd fr) H (kW E lo rd b Q):=by
 refine propext ⟨?_,?_⟩
 ·rintro⟨n,o,H',h,hq⟩
  cases n with
  | zero=>cases h
  | succ n=>
    rw[ht] at h
    cases h1:run E n (.code c rd fr) lo H with
    | none=>rw[h1] at h;cases h
    | some p=>
      rw[h1] at h;obtain⟨o1,H1⟩:=p;refine⟨n,o1,H1,h1,?_⟩
      cases o1 with
      | val v=>injection h with h;injection h with h2 h3;subst h2 h3;exact hq
      | ex e fr1=>cases e with
        | normal=>exact⟨n,o,H',h,hq⟩
        | jmp j=>injection h with h;injection h with h2 h3;subst h2 h3;exact hq
 ·rintro⟨n,o,H',h,hq⟩
  cases o with
  | val v=>exact⟨n+1,.val v,H',by rw[ht,h];rfl,hq⟩
  | ex e fr1=>cases e with
    | normal=>
      obtain⟨m,o2,H2,h2,hq2⟩:=hq;refine⟨Max.max n m+1,o2,H2,?_,hq2⟩;rw[ht,m9 E (Nat.le_max_left n m) h];exact m9 E (Nat.le_max_right n m) h2
    | jmp j=>exact⟨n+1,.ex (.jmp j) fr1,H',by rw[ht,h];rfl,hq⟩
theorem gS{a b:IC}:W E lo (.code (.seq a b) rd fr) H Q=W E lo (.code a rd fr) H (kW E lo rd b Q):=Lg fun n=>by rw[bN];rfl
theorem ij{c:IC}:W E lo (.code (.loop c) rd fr) H Q=W E lo (.code c rd fr) H (kW E lo rd (.loop c) Q):=Lg fun n=>by rw[bN];rfl
theorem NX{id:Nat}{c:IC}:W E lo (.code (.block id c) rd fr) H Q=W E lo (.code c rd fr) H (pM id Q):=by
 refine propext ⟨?_,?_⟩
 ·rintro⟨n,o,H',h,hq⟩
  cases n with
  | zero=>cases h
  | succ n=>
    rw[bN] at h;simp only[cT,iV] at h
    cases h1:run E n (.code c rd fr) lo H with
    | none=>rw[h1] at h;cases h
    | some p=>
      rw[h1] at h;obtain⟨o1,H1⟩:=p;refine⟨n,o1,H1,h1,?_⟩
      cases o1 with
      | val v=>injection h with h;injection h with h2 h3;subst h2 h3;exact hq
      | ex e fr1=>cases e with
        | normal=>injection h with h;injection h with h2 h3;subst h2 h3;exact hq
        | jmp j=>cases j with
          | ret=>injection h with h;injection h with h2 h3;subst h2 h3;exact hq
          | exit id'=>
            injection h with h;injection h with h2 h3;subst h2 h3;simp only[pM];by_cases he:id'=id
            ·rw[if_pos he] at hq;rw[if_pos he];exact hq
            ·rw[if_neg he] at hq;rw[if_neg he];exact hq
 ·rintro⟨n,o,H',h,hq⟩
  cases o with
  | val v=>exact⟨n+1,.val v,H',by rw[bN];simp only[cT,iV,h,sh],hq⟩
  | ex e fr1=>cases e with
    | normal=>exact⟨n+1,.ex .normal fr1,H',by rw[bN];simp only[cT,iV,h,sh],hq⟩
    | jmp j=>cases j with
      | ret=>exact⟨n+1,.ex (.jmp .ret) fr1,H',by rw[bN];simp only[cT,iV,h,sh],hq⟩
      | exit id'=>
        refine⟨n+1,.ex (if id'=id then .normal else .jmp (.exit id')) fr1,H',by rw[bN];simp only[cT,iV,h,sh],?_⟩
        simp only[pM] at hq;by_cases he:id'=id
        ·rw[if_pos he] at hq;rw[if_pos he];exact hq
        ·rw[if_neg he] at hq;rw[if_neg he];exact hq
def Fv(E:Env)(lo:Nat)(rd:Option Nat)(fr:Fr)(a b:IC)(H:Heap)(Q:Out→Heap→Prop):IV→Prop:=fun v=>
 match v with
 | .bool x=>if x=true then W E lo (.code a rd fr) H Q else W E lo (.code b rd fr) H Q
 | _=>False
theorem Fu{a b:IC}{x:Bool}:Fv E lo rd fr a b H Q (.bool x)=if x=true then W E lo (.code a rd fr) H Q else W E lo (.code b rd fr) H Q:=rfl
theorem NQ{a b:IC}:Fv E lo rd fr a b H Q (.bool true)=W E lo (.code a rd fr) H Q:=rfl
theorem NR{a b:IC}:Fv E lo rd fr a b H Q (.bool false)=W E lo (.code b rd fr) H Q:=rfl
theorem Rx{c:IA}{a b:IC}:W E lo (.code (.cond c a b) rd fr) H Q=kz (c.eval E.g0 fr.tm) (Fv E lo rd fr a b H Q):=by
 have key:∀n,run E (n+1) (.code (.cond c a b) rd fr) lo H=KQ (run E n) a b rd fr lo H (c.eval E.g0 fr.tm):=fun n=>by rw[bN];rfl
 cases hc:c.eval E.g0 fr.tm with
 | none=>
   refine propext ⟨?_,fun h=>h.elim⟩;rintro⟨n,o,H',h,hq⟩
   cases n with
   | zero=>cases h
   | succ n=>rw[key,hc] at h;cases h
 | some v=>
   simp only[kz]
   cases v<;>first
    | (refine propext ⟨?_,fun h=>h.elim⟩
       rintro⟨n,o,H',h,hq⟩
       cases n with
       | zero=>cases h
       | succ n=>rw[key,hc] at h;cases h
       done)
    | skip
   rename_i x
   cases x with
   | true=>
     rw[Fu,if_pos rfl];refine propext ⟨?_,?_⟩
     ·rintro⟨n,o,H',h,hq⟩
      cases n with
      | zero=>cases h
      | succ n=>rw[key,hc] at h;exact⟨n,o,H',h,hq⟩
     ·rintro⟨n,o,H',h,hq⟩;exact⟨n+1,o,H',by rw[key,hc];exact h,hq⟩
   | false=>
     rw[Fu,if_neg (by simp)];refine propext ⟨?_,?_⟩
     ·rintro⟨n,o,H',h,hq⟩
      cases n with
      | zero=>cases h
      | succ n=>rw[key,hc] at h;exact⟨n,o,H',h,hq⟩
     ·rintro⟨n,o,H',h,hq⟩;exact⟨n+1,o,H',by rw[key,hc];exact h,hq⟩
theorem Ei:W E lo (.segs [] rd fr) H Q=Q (.ex .normal fr) H:=by
 refine propext ⟨?_,fun h=>⟨1,_,_,rfl,h⟩⟩;rintro⟨n,o,H',h,hq⟩
 cases n with
 | zero=>cases h
 | succ n=>rw[run] at h;injection h with h;injection h with h1 h2;subst h1 h2;exact hq
theorem Hx{free:Option bR}:W E lo (.ops free [] rd fr) H Q=Q (.ex .normal fr) H:=by
 refine propext ⟨?_,fun h=>⟨1,_,_,rfl,h⟩⟩;rintro⟨n,o,H',h,hq⟩
 cases n with
 | zero=>cases h
 | succ n=>rw[run] at h;injection h with h;injection h with h1 h2;subst h1 h2;exact hq
theorem NA:wa .seq=none:=rfl
theorem NB:wa .free=some []:=rfl
theorem CC{k:Sg}{os:List IOp}{l:List (Sg×List IOp)}:W E lo (.segs ((k,os)::l) rd fr) H Q=W E lo (.ops (wa k) os rd fr) H (R4 E lo rd l Q):=by
 have key:∀n,run E (n+1) (.segs ((k,os)::l) rd fr) lo H=uc (run E n) l rd lo (run E n (.ops (wa k) os rd fr) lo H):=fun n=>by rw[bN];rfl
 refine propext ⟨?_,?_⟩
 ·rintro⟨n,o,H',h,hq⟩
  cases n with
  | zero=>cases h
  | succ n=>
    rw[key] at h
    cases h1:run E n (.ops (wa k) os rd fr) lo H with
    | none=>rw[h1] at h;cases h
    | some p=>
      rw[h1] at h;obtain⟨o1,H1⟩:=p;refine⟨n,o1,H1,h1,?_⟩
      cases o1 with
      | val v=>cases h
      | ex e fr1=>cases e with
        | normal=>exact⟨n,o,H',h,hq⟩
        | jmp j=>cases h
 ·rintro⟨n,o,H',h,hq⟩
  cases o with
  | val v=>exact hq.elim
  | ex e fr1=>cases e with
    | normal=>
      obtain⟨m,o2,H2,h2,hq2⟩:=hq;refine⟨Max.max n m+1,o2,H2,?_,hq2⟩;rw[key,m9 E (Nat.le_max_left n m) h];exact m9 E (Nat.le_max_right n m) h2
    | jmp j=>exact hq.elim
def Po(K:IV→Heap→Prop):IV×Heap→Prop:=fun p=>K p.1 p.2
theorem M6{K:IV→Heap→Prop}{v:IV}:Po K (v,H)=K v H:=rfl
def Pq(E:Env)(kd:Kd)(xs:List IV)(lw:Nat)(H:Heap)(K:IV→Heap→Prop):Prop:=
 match kd with
 | .call=>match xs with
   | f::xs=>W E lw (.apply f xs) H (P3 K)
   | []=>False
 | kd=>kz (ev1 kd xs lw H) (Po K)
theorem JF{f:IV}{xs:List IV}{lw:Nat}{K:IV→Heap→Prop}:Pq E .call (f::xs) lw H K=W E lw (.apply f xs) H (P3 K):=rfl
def Io(Q:Out→Heap→Prop)(H:Heap):List IV→Prop:=fun vs=>Q (.val (d8 vs)) H
theorem Mm{vs:List IV}:Io Q H vs=Q (.val (d8 vs)) H:=rfl
def WS(E:Env)(lo:Nat)(kd:Kd)(xs:List IV)(lw:Nat)(H:Heap)(l:List IOp)(rd:Option Nat)(fr:Fr)(dst:Option Nat)(Q:Out→Heap→Prop):Option bR→Prop:=fun free'=>
 Pq E kd xs lw H (RQ E lo free' l rd fr dst Q)
def Rr(E:Env)(lo:Nat)(free:Option bR)(o:IOp)(l:List IOp)(rd:Option Nat)(fr:Fr)(H:Heap)(Q:Out→Heap→Prop):List IV→Prop:=fun xs=>
 kz (aR free o xs) (WS E lo o.kd xs (cU free o lo H) H l rd fr o.dst Q)
def aac(b:Bool)(p q:Prop):Prop:=match b with | true=>p | false=>q
def R3(E:Env)(lo:Nat)(kd:Kd)(l:List IOp)(rd:Option Nat)(fr:Fr)(dst:Option Nat)(H:Heap)(Q:Out→Heap→Prop):List IV→Prop:=fun xs=>Pq E kd xs lo H (RQ E lo none l rd fr dst Q)
theorem PF{free:Option bR}{dst:Option Nat}{kd:Kd}{args:List IA}{g:Option (Nat×Bool)}{amb:Bool}{idx mask:Nat}{l:List IOp}:
  W E lo (.ops free (⟨dst,kd,args,g,amb,idx,mask⟩::l) rd fr) H Q=
    if bA fr.tm g=true then kz (be E.g0 fr.tm args) fun xs=>kz (aR free ⟨dst,kd,args,g,amb,idx,mask⟩ xs) fun free'=>Pq E kd xs (cU free ⟨dst,kd,args,g,amb,idx,mask⟩ lo H) H (RQ E lo free' l rd fr dst Q)
    else W E lo (.ops free l rd (fr.put dst IV.undef)) H Q:=by
 have key0:∀n,run E (n+1) (.ops free (⟨dst,kd,args,g,amb,idx,mask⟩::l) rd fr) lo H=Br E.g0 (run E n) free (⟨dst,kd,args,g,amb,idx,mask⟩::l) rd fr lo H:=fun n=>by rw[bN];rfl
 by_cases hw:bA fr.tm g=true
 ·rw[if_pos hw]
  cases hx:be E.g0 fr.tm args with
  | none=>
    refine propext ⟨?_,fun h=>h.elim⟩;rintro⟨n,o,H',h,hq⟩
    cases n with
    | zero=>cases h
    | succ n=>rw[key0] at h;simp only[Br,hw,hx,rO] at h;cases h
  | some xs=>
    cases hf:aR free ⟨dst,kd,args,g,amb,idx,mask⟩ xs with
    | none=>
      simp only[kz,hf];refine propext ⟨?_,fun h=>h.elim⟩;rintro⟨n,o,H',h,hq⟩
      cases n with
      | zero=>cases h
      | succ n=>rw[key0] at h;simp only[Br,hw,hx,rO,hf] at h;cases h
    | some free'=>
      simp only[kz,hf];generalize hlw:cU free ⟨dst,kd,args,g,amb,idx,mask⟩ lo H=lw
      have key:∀n,run E (n+1) (.ops free (⟨dst,kd,args,g,amb,idx,mask⟩::l) rd fr) lo H=vC (run E n) ⟨dst,kd,args,g,amb,idx,mask⟩ l rd fr lo H free' xs lw kd.isCall:=fun n=>by
       rw[key0];simp only[Br,hw,hx,rO,hf,hlw]
      cases kd with
      | call=>
        cases xs with
        | nil=>
          refine propext ⟨?_,fun h=>h.elim⟩;rintro⟨n,o,H',h,hq⟩
          cases n with
          | zero=>cases h
          | succ n=>rw[key] at h;simp only[vC,Kd.isCall,yi,vF] at h;cases h
        | cons f xs=>
          rw[JF];refine propext ⟨?_,?_⟩
          ·rintro⟨n,o,H',h,hq⟩
           cases n with
           | zero=>cases h
           | succ n=>
             rw[key] at h;simp only[vC,Kd.isCall,yi] at h
             cases h1:run E n (.apply f xs) lw H with
             | none=>rw[h1] at h;cases h
             | some p=>
               rw[h1] at h;obtain⟨o1,H1⟩:=p;refine⟨n,o1,H1,h1,?_⟩
               cases o1 with
               | val v=>exact⟨n,o,H',h,hq⟩
               | ex e fr1=>cases h
          ·rintro⟨n,o,H',h,hq⟩
           cases o with
           | ex e fr1=>exact hq.elim
           | val v=>
             obtain⟨m,o2,H2,h2,hq2⟩:=hq;refine⟨Max.max n m+1,o2,H2,?_,hq2⟩;rw[key];simp only[vC,Kd.isCall,yi];rw[m9 E (Nat.le_max_left n m) h];exact m9 E (Nat.le_max_right n m) h2
      | _=>
        simp only[Pq];refine propext ⟨?_,?_⟩
        ·rintro⟨n,o,H',h,hq⟩
         cases n with
         | zero=>cases h
         | succ n=>
           rw[key] at h;simp only[vC,Kd.isCall,qI] at h;generalize ev1 _ xs lw H=r at h⊢
           cases r with
           | none=>cases h
           | some p=>exact⟨n,o,H',h,hq⟩
        ·intro h;have key':=key;simp only[vC,Kd.isCall,qI] at key';generalize ev1 _ xs lw H=r at h key'
         cases r with
         | none=>exact h.elim
         | some p=>
           obtain⟨n,o,H',h,hq⟩:=h;refine⟨n+1,o,H',?_,hq⟩;rw[key'];exact h
 ·rw[if_neg hw];have hw':bA fr.tm g=false:=by simpa using hw
  have key:∀n,run E (n+1) (.ops free (⟨dst,kd,args,g,amb,idx,mask⟩::l) rd fr) lo H=run E n (.ops free l rd (fr.put dst IV.undef)) lo H:=fun n=>by rw[key0];simp only[Br,hw']
  refine propext ⟨?_,?_⟩
  ·rintro⟨n,o,H',h,hq⟩
   cases n with
   | zero=>cases h
   | succ n=>rw[key] at h;exact⟨n,o,H',h,hq⟩
  ·rintro⟨n,o,H',h,hq⟩;exact⟨n+1,o,H',by rw[key];exact h,hq⟩
def DR(E:Env)(lo:Nat)(free:Option bR)(o:IOp)(l:List IOp)(rd:Option Nat)(fr:Fr)(H:Heap)(Q:Out→Heap→Prop):Bool→Prop:=fun b=>
 match b with
 | true=>kz (be E.g0 fr.tm o.args) (Rr E lo free o l rd fr H Q)
 | false=>W E lo (.ops free l rd (fr.put o.dst IV.undef)) H Q
theorem Kr{free:Option bR}{o:IOp}{l:List IOp}:DR E lo free o l rd fr H Q true=kz (be E.g0 fr.tm o.args) (Rr E lo free o l rd fr H Q):=rfl
theorem Ks{free:Option bR}{o:IOp}{l:List IOp}:DR E lo free o l rd fr H Q false=W E lo (.ops free l rd (fr.put o.dst IV.undef)) H Q:=rfl
theorem Yk{free:Option bR}{dst:Option Nat}{kd:Kd}{args:List IA}{g:Option (Nat×Bool)}{amb:Bool}{idx mask:Nat}{l:List IOp}:
  W E lo (.ops free (⟨dst,kd,args,g,amb,idx,mask⟩::l) rd fr) H Q=DR E lo free ⟨dst,kd,args,g,amb,idx,mask⟩ l rd fr H Q (bA fr.tm g):=by
 rw[PF]
 cases bA fr.tm g<;>rfl
theorem S6{dst:Option Nat}{kd:Kd}{args:List IA}{amb:Bool}{idx mask:Nat}{l:List IOp}:
  W E lo (.ops none (⟨dst,kd,args,none,amb,idx,mask⟩::l) rd fr) H Q=kz (be E.g0 fr.tm args) (R3 E lo kd l rd fr dst H Q):=by
 rw[PF];simp only[bA,if_true]
 cases be E.g0 fr.tm args<;>rfl
theorem Si{free:Option bR}{l:List IOp}{dst:Option Nat}{v:IV}:RQ E lo free l rd fr dst Q v H=W E lo (.ops free l rd (fr.put dst v)) H Q:=rfl
theorem SB{kd:Kd}{xs:List IV}{lw:Nat}{l:List IOp}{dst:Option Nat}{free':Option bR}:WS E lo kd xs lw H l rd fr dst Q free'=Pq E kd xs lw H (RQ E lo free' l rd fr dst Q):=rfl
theorem Rq{free:Option bR}{o:IOp}{l:List IOp}{xs:List IV}:Rr E lo free o l rd fr H Q xs=kz (aR free o xs) (WS E lo o.kd xs (cU free o lo H) H l rd fr o.dst Q):=rfl
theorem P9{kd:Kd}{l:List IOp}{dst:Option Nat}{xs:List IV}:R3 E lo kd l rd fr dst H Q xs=Pq E kd xs lo H (RQ E lo none l rd fr dst Q):=rfl
def vT(res:List (Nat×Option (Option Nat)))(tm:List IV)(Q:Out→Heap→Prop):Heap→Prop:=fun H2=>kz (au H2 tm res) (Io Q H2)
theorem J4{res:List (Nat×Option (Option Nat))}{tm:List IV}:vT res tm Q H=kz (au H tm res) (Io Q H):=rfl
theorem Qq{res:List (Nat×Option (Option Nat))}:lQ lo res Q (.ex (.jmp .ret) fr) H=kz (bq lo fr.marks H) (vT res fr.tm Q):=by
 simp only[lQ]
 cases bq lo fr.marks H with
 | none=>rfl
 | some H2=>simp only[kz,vT];cases au H2 fr.tm res<;>rfl
theorem Qr{res:List (Nat×Option (Option Nat))}:lQ lo res Q (.ex .normal fr) H=kz (bq lo fr.marks H) (vT res fr.tm Q):=by
 simp only[lQ]
 cases bq lo fr.marks H with
 | none=>rfl
 | some H2=>simp only[kz,vT];cases au H2 fr.tm res<;>rfl
theorem NY{f:FuncId}{first cap args:List IV}:W E lo (.apply (.fn f first cap) args) H Q=W E lo (.call f (first++args++cap)) H Q:=by
 refine propext ⟨?_,?_⟩
 ·rintro⟨n,o,H',h,hq⟩
  cases n with
  | zero=>cases h
  | succ n=>rw[run] at h;exact⟨n,o,H',h,hq⟩
 ·rintro⟨n,o,H',h,hq⟩;exact⟨n+1,o,H',by rw[run];exact h,hq⟩
theorem am{f:FuncId}{args:List IV}{nt:Nat}{res:List (Nat×Option (Option Nat))}{body:IC}(hs:E.sums f=none)(hf:E.fns f=some ⟨nt,res,body⟩):
  W E lo (.call f args) H Q=W E lo (.code body none ⟨args++bT (nt - args.length),[]⟩) H (lQ lo res Q):=by
 have key:∀n,run E (n+1) (.call f args) lo H=Qp ⟨nt,res,body⟩ lo (run E n (.code body none ⟨args++bT (nt - args.length),[]⟩) lo H):=fun n=>by
  rw[bN];simp only[cT,wF,hs,TK,hf]
 refine propext ⟨?_,?_⟩
 ·rintro⟨n,o,H',h,hq⟩
  cases n with
  | zero=>cases h
  | succ n=>
    rw[key] at h
    cases h1:run E n (.code body none ⟨args++bT (nt - args.length),[]⟩) lo H with
    | none=>rw[h1] at h;cases h
    | some p=>
      rw[h1] at h;obtain⟨o1,H1⟩:=p;refine⟨n,o1,H1,h1,?_⟩
      cases o1 with
      | val v=>cases h
      | ex e fr1=>
        have fin:lV ⟨nt,res,body⟩ lo fr1 H1=some (o,H')→
          (match bq lo fr1.marks H1 with | none=>False | some H2=>match au H2 fr1.tm res with | none=>False | some vs=>Q (.val (d8 vs)) H2):=by
         intro h;simp only[lV] at h
         cases hu:bq lo fr1.marks H1 with
         | none=>rw[hu] at h;cases h
         | some H2=>
           rw[hu] at h
           try simp only at h⊢
           cases hr:au H2 fr1.tm res with
           | none=>rw[hr] at h;cases h
           | some vs=>
             rw[hr] at h;injection h with h;injection h with h2 h3;subst h2 h3;exact hq
        cases e with
        | normal=>exact fin h
        | jmp j=>cases j with
          | ret=>exact fin h
          | exit id=>cases h
 ·rintro⟨n,o,H',h,hq⟩
  cases o with
  | val v=>exact hq.elim
  | ex e fr1=>
    have fin:(match bq lo fr1.marks H' with | none=>False | some H2=>match au H2 fr1.tm res with | none=>False | some vs=>Q (.val (d8 vs)) H2)→
      ∃o2 H2,lV ⟨nt,res,body⟩ lo fr1 H'=some (o2,H2)∧Q o2 H2:=by
     intro hq;simp only[lV]
     cases hu:bq lo fr1.marks H' with
     | none=>rw[hu] at hq;exact hq.elim
     | some H2=>
       rw[hu] at hq;simp only at hq⊢
       cases hr:au H2 fr1.tm res with
       | none=>rw[hr] at hq;exact hq.elim
       | some vs=>rw[hr] at hq;exact⟨_,_,rfl,hq⟩
    cases e with
    | normal=>
      obtain⟨o2,H2,h2,hq2⟩:=fin hq;exact⟨n+1,o2,H2,by rw[key,h];exact h2,hq2⟩
    | jmp j=>cases j with
      | exit id=>exact hq.elim
      | ret=>
        obtain⟨o2,H2,h2,hq2⟩:=fin hq;exact⟨n+1,o2,H2,by rw[key,h];exact h2,hq2⟩
theorem PC{f:FuncId}{args:List IV}{s:List IV→Nat→Heap→Option (IV×Heap)}{v:IV}{H':Heap}(hs:E.sums f=some s)(hv:s args lo H=some (v,H'))(h:Q (.val v) H'):W E lo (.call f args) H Q:=
 ⟨1,.val v,H',by rw[bN];simp only[cT,wF,hs,hv,Option.map_some],h⟩
end
def D.okLo(lo:Nat):D→Prop
 | .same=>True
 | .put b _=>lo≤b
 | .new _=>True
 | .kill b _=>lo≤b
def Keep(lo:Nat)(H H':Heap):Prop:=H.n≤H'.n∧∀b,b < lo→b < H.n→H'.get b=H.get b
theorem Keep.refl(lo:Nat)(H:Heap):Keep lo H H:=⟨Nat.le_refl _,fun _ _ _=>rfl⟩
theorem Keep.trans{lo:Nat}{a b c:Heap}(h:Keep lo a b)(k:Keep lo b c):Keep lo a c:=
 ⟨Nat.le_trans h.1 k.1,fun x h1 h2=>(k.2 x h1 (Nat.lt_of_lt_of_le h2 h.1)).trans (h.2 x h1 h2)⟩
theorem Keep.put{lo b:Nat}(H:Heap)(o:IObj)(h:lo≤b):Keep lo H (H.put b o):=⟨Nat.le_refl _,fun x h1 h2=>by rw[aa,if_neg (by omega)]⟩
theorem Keep.new{lo:Nat}(H:Heap)(o:IObj):Keep lo H (H.new o):=⟨by rw[ac];omega,fun x h1 h2=>by rw[aj,if_neg (by omega)]⟩
theorem Keep.lower{lo lo':Nat}{H H':Heap}(hl:lo'≤lo)(h:Keep lo H H'):Keep lo' H H':=⟨h.1,fun b h1 h2=>h.2 b (by omega) h2⟩
theorem D.keep{lo:Nat}{d:D}(h:d.okLo lo)(H:Heap):Keep lo H (d.app H):=by
 cases d with
 | same=>exact .refl _ _
 | put b o=>exact .put H o h
 | new o=>exact .new H o
 | kill b o=>exact(Keep.put H .dead h).trans (.new _ o)
theorem ol{H:Heap}{lo b o:Nat}{vs:List IV}{d:D}(h:d6 H lo b o vs=some d):d.okLo lo∧∀lo',lo'≤lo→d6 H lo' b o vs=some d:=by
 unfold d6 at h;split at h
 ·split at h
  ·rename_i e ez cs hg hc;injection h with h;subst h;refine⟨hc.1,fun lo' hl=>?_⟩;unfold d6;rw[hg];simp only;rw[if_pos ⟨by omega,hc.2⟩]
  ·cases h
 ·cases h
theorem wI{e size bytes n lo:Nat}{s:IV}{xs:List IV}{H:Heap}{v:IV}{d:D}(h:mu e size bytes s xs n lo H=some (v,d)):d.okLo lo∧∀lo',lo'≤lo→mu e size bytes s xs n lo' H=some (v,d):=by
 unfold mu at h⊢;split at h
 ·cases h
 ·rename_i hall;simp only[hall]
  cases s with
  | nilSlice=>
    simp only at h⊢;split at h
    ·rename_i h0;injection h with h;injection h with h1 h2;subst h1 h2;exact⟨trivial,fun _ _=>by simp[h0]⟩
    ·rename_i h0;split at h
     ·rename_i h1;injection h with h;injection h with h2 h3;subst h2 h3;exact⟨trivial,fun _ _=>by simp[h0,h1]⟩
     ·cases h
  | slice b o len lb ex=>
    simp only at h⊢;split at h
    ·rename_i h0;injection h with h;injection h with h1 h2;subst h1 h2;exact⟨trivial,fun _ _=>by simp[h0]⟩
    ·rename_i h0;split at h
     ·rename_i h1
      cases hw:d6 H lo b (o+len*size) xs with
      | none=>rw[hw] at h;cases h
      | some d'=>
        rw[hw] at h;injection h with h;injection h with h2 h3;subst h2 h3;obtain⟨a,b⟩:=ol hw;exact⟨a,fun lo' hl=>by simp[h0,h1,b lo' hl]⟩
     ·rename_i h1;split at h
      ·rename_i h2;split at h
       ·rename_i h3
        cases hs:eq H size len (.slice b o len lb ex) with
        | none=>rw[hs] at h;cases h
        | some old=>
          rw[hs] at h;injection h with h;injection h with h4 h5;subst h4 h5;exact⟨trivial,fun lo' hl=>by simp[h0,h1,h2,h3,hs]⟩
       ·rename_i h3
        cases hg:H.get b with
        | none=>rw[hg] at h;cases h
        | some ob=>
          rw[hg] at h
          cases ob with
          | cells ro e' ez cs=>
            cases ro with
            | true=>cases h
            | false=>
              simp only at h;split at h
              ·rename_i hc;injection h with h;injection h with h4 h5;subst h4 h5;refine⟨hc.2.2.2.2.1,fun lo' hl=>?_⟩;have hc':e'=e∧ez=size∧0 < size∧o=0∧lo'≤b∧len*size≤cs.length:=⟨hc.1,hc.2.1,hc.2.2.1,hc.2.2.2.1,by omega,hc.2.2.2.2.2⟩;simp only[h0,h1,h2,h3,if_false,if_true,Bool.false_eq_true];rw[if_pos hc'];rfl
              ·cases h
          | _=>cases h
      ·cases h
  | _=>cases h
theorem NF{kd:Kd}{xs:List IV}{lo:Nat}{H:Heap}{v:IV}{d:D}(h:jO kd xs lo H=some (v,d)):d.okLo lo∧∀lo',lo'≤lo→jO kd xs lo' H=some (v,d):=by
 have keep:∀(r:Nat→Option (IV×Heap)),(∀a b,r a=r b)→bp (r lo)=some (v,d)→d.okLo lo∧∀lo',lo'≤lo→bp (r lo')=some (v,d):=by
  intro r hr h;refine⟨?_,fun lo' _=>by rw[hr lo' lo];exact h⟩
  cases h1:r lo with
  | none=>rw[h1] at h;cases h
  | some p=>rw[h1] at h;injection h with h;injection h with _ h;subst h;trivial
 cases kd with
 | store n=>
   simp only[jO] at h⊢;unfold ui at h⊢;rcases xs with _ | ⟨p,_ | ⟨x,_ | ⟨q,r⟩⟩⟩
   ·cases h
   ·cases p<;>cases h
   ·cases p<;>first | (cases h;done) | skip
    simp only at h⊢;split at h
    ·rename_i hl
     cases hw:d6 H lo _ _ x.cells with
     | none=>rw[hw] at h;cases h
     | some d'=>
       rw[hw] at h;injection h with h;injection h with h2 h3;subst h2 h3;obtain⟨a,b⟩:=ol hw;exact⟨a,fun lo' hl'=>by rw[if_pos hl,b lo' hl'];rfl⟩
    ·cases h
   ·cases p<;>cases h
 | append e size bytes=>
   simp only[jO] at h⊢;unfold qV at h⊢;rcases xs with _ | ⟨s,_ | ⟨x,_ | ⟨q,r⟩⟩⟩
   ·cases h
   ·cases h
   ·simp only at h⊢
    cases hl:i4 x with
    | none=>rw[hl] at h;cases h
    | some n=>
      rw[hl] at h;simp only[Option.bind_some] at h⊢
      cases hs:eq H size n x with
      | none=>rw[hs] at h;cases h
      | some l=>
        rw[hs] at h;exact wI h
   ·cases h
 | appendZ e size bytes zs=>
   simp only[jO] at h⊢;unfold oW at h⊢;rcases xs with _ | ⟨x,_ | ⟨y,_ | ⟨q,r⟩⟩⟩
   ·cases h
   ·cases h
   ·cases y<;>first | (cases h;done) | skip
    simp only at h⊢;split at h
    ·rename_i hc;obtain⟨a,b⟩:=wI h;exact⟨a,fun lo' hl=>by rw[if_pos hc];exact b lo' hl⟩
    ·cases h
   ·cases y<;>cases h
 | copy size=>
   simp only[jO] at h⊢;unfold Ak at h⊢;rcases xs with _ | ⟨dd,_ | ⟨s,_ | ⟨q,r⟩⟩⟩
   ·cases h
   ·cases h
   ·simp only at h⊢
    cases hd:jG dd with
    | none=>rw[hd] at h;cases h
    | some n=>
      cases hl:i4 s with
      | none=>rw[hd,hl] at h;cases h
      | some m=>
        rw[hd,hl] at h;simp only at h⊢;split at h
        ·rename_i h0;injection h with h;injection h with h2 h3;subst h2 h3;exact⟨trivial,fun lo' _=>by rw[if_pos h0]⟩
        ·rename_i h0
         cases hs:eq H size (Min.min m n) s with
         | none=>rw[hs] at h;cases h
         | some l=>
           rw[hs] at h;simp only[Option.bind_some] at h⊢
           cases dd<;>first | (cases h;done) | skip
           rename_i b o n' c ex;simp only at h⊢
           cases hw:d6 H lo b o l with
           | none=>rw[hw] at h;cases h
           | some d'=>
             rw[hw] at h;injection h with h;injection h with h2 h3;subst h2 h3;obtain⟨x,y⟩:=ol hw;exact⟨x,fun lo' hl'=>by rw[if_neg h0,y lo' hl'];rfl⟩
   ·cases h
 | clear zs=>
   simp only[jO] at h⊢;unfold ul at h⊢;rcases xs with _ | ⟨x,_ | ⟨q,r⟩⟩
   ·cases h
   ·simp only at h⊢
    cases x<;>first | (cases h;done) | skip
    ·rename_i b o n c ex;simp only at h⊢;split at h
     ·rename_i h0;injection h with h;injection h with h2 h3;subst h2 h3;exact⟨trivial,fun lo' _=>by rw[if_pos h0]⟩
     ·rename_i h0
      cases hw:d6 H lo b o (iU n zs) with
      | none=>rw[hw] at h;cases h
      | some d'=>
        rw[hw] at h;injection h with h;injection h with h2 h3;subst h2 h3;obtain⟨x,y⟩:=ol hw;exact⟨x,fun lo' hl'=>by rw[if_neg h0,y lo' hl'];rfl⟩
    ·injection h with h;injection h with h2 h3;subst h2 h3;exact⟨trivial,fun _ _=>rfl⟩
   ·cases h
 | alloc e ez zs=>
   simp only[jO] at h⊢;unfold um at h⊢
   cases xs with
   | nil=>injection h with h;injection h with h2 h3;subst h2 h3;exact⟨trivial,fun _ _=>rfl⟩
   | cons=>cases h
 | box e ez=>
   simp only[jO] at h⊢;unfold Fq at h⊢;rcases xs with _ | ⟨x,_ | ⟨q,r⟩⟩
   ·cases h
   ·injection h with h;injection h with h2 h3;subst h2 h3;exact⟨trivial,fun _ _=>rfl⟩
   ·cases h
 | buildSl e ez n zs offs=>
   simp only[jO] at h⊢;unfold oV at h⊢;simp only at h⊢
   cases hf:bD offs xs zs with
   | none=>rw[hf] at h;cases h
   | some cs=>rw[hf] at h;injection h with h;injection h with h2 h3;subst h2 h3;exact⟨trivial,fun _ _=>rfl⟩
 | rangeM=>
   simp only[jO] at h⊢;unfold qS at h⊢;split at h
   ·injection h with h;injection h with h2 h3;subst h2 h3;exact⟨trivial,fun _ _=>rfl⟩
   ·rename_i b
    cases hm:az H b with
    | none=>rw[hm] at h;cases h
    | some p=>rw[hm] at h;injection h with h;injection h with h2 h3;subst h2 h3;exact⟨trivial,fun _ _=>rfl⟩
   ·cases h
 | nextM=>
   simp only[jO] at h⊢;unfold uj at h⊢;split at h
   ·rename_i r;split at h
    ·rename_i hl
     cases hm:stepM H r with
     | none=>rw[hm] at h;cases h
     | some p=>
       obtain⟨v1,o⟩:=p;rw[hm] at h;injection h with h;injection h with h2 h3;subst h2 h3;refine⟨?_,fun lo' hl'=>by simp only;rw[if_pos (by omega:lo'≤r)];rfl⟩
       cases o with
       | none=>trivial
       | some o=>exact hl
    ·cases h
   ·cases h
 | mkmap=>
   simp only[jO] at h⊢;unfold uk at h⊢;rcases xs with _ | ⟨x,_ | ⟨q,r⟩⟩
   ·injection h with h;injection h with h2 h3;subst h2 h3;exact⟨trivial,fun _ _=>rfl⟩
   ·cases x<;>first | (cases h;done) | (injection h with h;injection h with h2 h3;subst h2 h3;exact⟨trivial,fun _ _=>rfl⟩)
   ·cases x<;>cases h
 | mksl e ez bytes zs=>
   simp only[jO] at h⊢;unfold Aj at h⊢;rcases xs with _ | ⟨x,_ | ⟨y,_ | ⟨q,r⟩⟩⟩
   ·cases h
   ·cases x<;>cases h
   ·cases x<;>first | (cases h;done) | skip
    cases y<;>first | (cases h;done) | skip
    simp only at h⊢;split at h
    ·rename_i hc;injection h with h;injection h with h2 h3;subst h2 h3;exact⟨trivial,fun _ _=>by rw[if_pos hc]⟩
    ·cases h
   ·cases x<;>first | (cases h;done) | (cases y<;>cases h)
 | mapUpd ky=>
   simp only[jO] at h⊢;unfold qT at h⊢;rcases xs with _ | ⟨m,_ | ⟨k,_ | ⟨v',_ | ⟨q,r⟩⟩⟩⟩
   ·cases h
   ·cases m<;>cases h
   ·cases m<;>cases h
   ·cases m<;>first | (cases h;done) | skip
    rename_i b;simp only at h⊢
    cases hm:az H b with
    | none=>rw[hm] at h;cases h
    | some p=>
      obtain⟨es,clock⟩:=p;rw[hm] at h;simp only at h⊢;split at h
      ·rename_i hc;have hc':∀lo',lo'≤lo→lo'≤b∧bS ky k=true:=fun lo' hl=>⟨by omega,hc.2⟩
       cases hf:aF ky k es 0 with
       | none=>rw[hf] at h;cases h
       | some r=>rw[hf] at h;cases r with
         | none=>injection h with h;injection h with h2 h3;subst h2 h3;exact⟨hc.1,fun lo' hl=>by rw[if_pos (hc' lo' hl)]⟩
         | some x=>obtain⟨i,v⟩:=x;injection h with h;injection h with h2 h3;subst h2 h3;exact⟨hc.1,fun lo' hl=>by rw[if_pos (hc' lo' hl)]⟩
      ·cases h
   ·cases m<;>cases h
 | delete ky=>
   simp only[jO] at h⊢;unfold qU at h⊢;rcases xs with _ | ⟨m,_ | ⟨k,_ | ⟨q,r⟩⟩⟩
   ·cases h
   ·cases m<;>cases h
   ·cases m<;>first | (cases h;done) | skip
    rename_i b;simp only at h⊢
    cases hm:az H b with
    | none=>rw[hm] at h;cases h
    | some p=>
      obtain⟨es,clock⟩:=p;rw[hm] at h;simp only at h⊢;split at h
      ·rename_i hc;have hc':∀lo',lo'≤lo→lo'≤b∧bS ky k=true:=fun lo' hl=>⟨by omega,hc.2⟩
       cases hf:aF ky k es 0 with
       | none=>rw[hf] at h;cases h
       | some r=>rw[hf] at h;cases r with
         | none=>injection h with h;injection h with h2 h3;subst h2 h3;exact⟨trivial,fun lo' hl=>by rw[if_pos (hc' lo' hl)]⟩
         | some x=>obtain⟨i,v⟩:=x;injection h with h;injection h with h2 h3;subst h2 h3;exact⟨hc.1,fun lo' hl=>by rw[if_pos (hc' lo' hl)]⟩
      ·cases h
   ·cases m<;>cases h
 | mapEntry t ky zero=>
   simp only[jO] at h⊢;unfold mh at h⊢;rcases xs with _ | ⟨m,_ | ⟨k,_ | ⟨q,r⟩⟩⟩
   ·cases h
   ·cases m<;>cases h
   ·cases m<;>first | (cases h;done) | skip
    rename_i b;simp only at h⊢
    cases hm:az H b with
    | none=>rw[hm] at h;cases h
    | some p=>
      obtain⟨es,clock⟩:=p;rw[hm] at h;simp only at h⊢;split at h
      ·rename_i hc;have hc':∀lo',lo'≤lo→lo'≤b∧bS ky k=true:=fun lo' hl=>⟨by omega,hc.2⟩
       cases hf:aF ky k es 0 with
       | none=>rw[hf] at h;cases h
       | some r=>rw[hf] at h;cases r with
         | none=>injection h with h;injection h with h2 h3;subst h2 h3;exact⟨hc.1,fun lo' hl=>by rw[if_pos (hc' lo' hl)]⟩
         | some x=>
           obtain⟨i,v⟩:=x;simp only at h⊢
           cases he:es[i]? with
           | none=>rw[he] at h;cases h
           | some e=>rw[he] at h;injection h with h;injection h with h2 h3;subst h2 h3;exact⟨hc.1,fun lo' hl=>by rw[if_pos (hc' lo' hl)];rfl⟩
      ·cases h
   ·cases m<;>cases h
 | entryStore=>
   simp only[jO] at h⊢;unfold jb at h⊢;rcases xs with _ | ⟨m,_ | ⟨k,_ | ⟨v',_ | ⟨q,r⟩⟩⟩⟩
   ·cases h
   ·cases m<;>cases h
   ·cases m<;>first | (cases h;done) | (cases k<;>cases h)
   ·cases m<;>first | (cases h;done) | skip
    cases k<;>first | (cases h;done) | skip
    rename_i b kk s;simp only at h⊢
    cases hm:az H b with
    | none=>rw[hm] at h;cases h
    | some p=>
      obtain⟨es,clock⟩:=p;rw[hm] at h;simp only at h⊢;split at h
      ·rename_i hc
       cases hs:gp v' s es with
       | none=>rw[hs] at h;cases h
       | some es'=>rw[hs] at h;injection h with h;injection h with h2 h3;subst h2 h3;exact⟨hc,fun lo' hl=>by rw[if_pos (by omega:lo'≤b)];rfl⟩
      ·cases h
   ·cases m<;>first | (cases h;done) | (cases k<;>cases h)
 | move=>exact keep (fun lo=>wp xs lo H) (fun _ _=>rfl) h
 | pick=>exact keep (fun lo=>wo xs lo H) (fun _ _=>rfl) h
 | build a b=>exact keep (fun lo=>qQ a b xs lo H) (fun _ _=>rfl) h
 | load a=>exact keep (fun lo=>wu a xs lo H) (fun _ _=>rfl) h
 | nilCheck=>exact keep (fun lo=>jF xs lo H) (fun _ _=>rfl) h
 | bin a=>exact keep (fun lo=>xZ a xs lo H) (fun _ _=>rfl) h
 | eqBool a=>exact keep (fun lo=>nQ a xs lo H) (fun _ _=>rfl) h
 | eqFlat a b=>exact keep (fun lo=>nP a b xs lo H) (fun _ _=>rfl) h
 | eqNil a b=>exact keep (fun lo=>qP a b xs lo H) (fun _ _=>rfl) h
 | un a=>exact keep (fun lo=>KH a xs lo H) (fun _ _=>rfl) h
 | conv a=>exact keep (fun lo=>ww a xs lo H) (fun _ _=>rfl) h
 | iface a=>exact keep (fun lo=>qM a xs lo H) (fun _ _=>rfl) h
 | mkfn a b=>exact keep (fun lo=>sd a b xs lo H) (fun _ _=>rfl) h
 | slc a b c e=>exact keep (fun lo=>B6 a b c e xs lo H) (fun _ _=>rfl) h
 | slcStr a b=>exact keep (fun lo=>nG a b xs lo H) (fun _ _=>rfl) h
 | slcArr a b c e f g=>exact keep (fun lo=>nH a b c e f g xs lo H) (fun _ _=>rfl) h
 | fieldAddr a=>exact keep (fun lo=>iJ a xs lo H) (fun _ _=>rfl) h
 | field a b=>exact keep (fun lo=>qO a b xs lo H) (fun _ _=>rfl) h
 | idxSl a=>exact keep (fun lo=>qN a xs lo H) (fun _ _=>rfl) h
 | idxArrAddr a b=>exact keep (fun lo=>gH a b xs lo H) (fun _ _=>rfl) h
 | idxArr a b c=>exact keep (fun lo=>nO a b c xs lo H) (fun _ _=>rfl) h
 | idxStr=>exact keep (fun lo=>nN xs lo H) (fun _ _=>rfl) h
 | lookup a b c e=>exact keep (fun lo=>nI a b c e xs lo H) (fun _ _=>rfl) h
 | lenSl=>exact keep (fun lo=>qL xs lo H) (fun _ _=>rfl) h
 | lenStr=>exact keep (fun lo=>nJ xs lo H) (fun _ _=>rfl) h
 | lenArr a=>exact keep (fun lo=>nM a xs lo H) (fun _ _=>rfl) h
 | entryM=>exact keep (fun lo=>nR xs lo H) (fun _ _=>rfl) h
 | lenMap=>exact keep (fun lo=>nL xs lo H) (fun _ _=>rfl) h
 | cap=>exact keep (fun lo=>Cb xs lo H) (fun _ _=>rfl) h
 | min=>exact keep (fun lo=>B7 xs lo H) (fun _ _=>rfl) h
 | max=>exact keep (fun lo=>Ca xs lo H) (fun _ _=>rfl) h
 | strOf=>exact keep (fun lo=>qK xs lo H) (fun _ _=>rfl) h
 | extract a=>exact keep (fun lo=>li a xs lo H) (fun _ _=>rfl) h
 | call=>cases h
theorem Q8{kd:Kd}{xs:List IV}{lo:Nat}{H:Heap}{v:IV}{H':Heap}(h:ev1 kd xs lo H=some (v,H')):Keep lo H H'∧∀lo',lo'≤lo→ev1 kd xs lo' H=some (v,H'):=by
 rw[←Ac] at h
 cases hd:jO kd xs lo H with
 | none=>rw[hd] at h;cases h
 | some p=>
   obtain⟨v1,d⟩:=p;rw[hd] at h;injection h with h;injection h with h1 h2;subst h1 h2;obtain⟨a,b⟩:=NF hd;exact⟨D.keep a H,fun lo' hl=>by rw[←Ac,b lo' hl];rfl⟩
theorem xl{lo:Nat}:∀{rs:List Nat} {H H':Heap},bq lo rs H=some H'→Keep lo H H'∧∀lo',lo'≤lo→bq lo' rs H=some H'
 | [],H,H',h=>by injection h with h;subst h;exact⟨.refl _ _,fun _ _=>rfl⟩
 | r::rs,H,H',h=>by
   simp only[bq] at h⊢
   cases hg:H.get r with
   | none=>rw[hg] at h;cases h
   | some o=>
     rw[hg] at h
     cases o<;>simp only at h⊢<;>try (cases h;done)
     split at h
     ·rename_i hl;obtain⟨a,b⟩:=xl h;exact⟨(Keep.put H .taken hl).trans a,fun lo' hl'=>by rw[if_pos (by omega:lo'≤r)];exact b lo' hl'⟩
     ·cases h
def Li(E:Env):Prop:=∀f s,E.sums f=some s→∀args lo H v H',s args lo H=some (v,H')→Keep lo H H'∧∀lo',lo'≤lo→s args lo' H=some (v,H')
theorem Qi{E:Env}(hE:Li E):∀(n:Nat) (t:Task) (lo:Nat) (H:Heap) (o:Out) (H':Heap),run E n t lo H=some (o,H')→Keep lo H H'∧∀lo',lo'≤lo→run E n t lo' H=some (o,H'):=by
 intro n
 induction n with
 | zero=>intro t lo H o H' h;cases h
 | succ n ih=>
   intro t lo H o H' h;rw[bN] at h
   have goal:(Keep lo H H'∧∀lo',lo'≤lo→cT E (run E n) t lo' H=some (o,H'))→Keep lo H H'∧∀lo',lo'≤lo→run E (n+1) t lo' H=some (o,H'):=
    fun x=>⟨x.1,fun lo' hl=>by rw[bN];exact x.2 lo' hl⟩
   apply goal;clear goal
   cases t with
   | code c rd fr=>
     simp only[cT] at h⊢
     cases c with
     | skip=>injection h with h;injection h with h1 h2;subst h1 h2;exact⟨.refl _ _,fun _ _=>rfl⟩
     | exit id=>injection h with h;injection h with h1 h2;subst h1 h2;exact⟨.refl _ _,fun _ _=>rfl⟩
     | ret=>injection h with h;injection h with h1 h2;subst h1 h2;exact⟨.refl _ _,fun _ _=>rfl⟩
     | ops l=>exact ih _ _ _ _ _ h
     | scope c=>exact ih _ _ _ _ _ h
     | seq a b=>
       simp only[iV] at h⊢
       cases h1:run E n (.code a rd fr) lo H with
       | none=>rw[h1] at h;cases h
       | some p=>
         obtain⟨o1,H1⟩:=p;obtain⟨k1,k2⟩:=ih _ _ _ _ _ h1;rw[h1] at h
         cases o1 with
         | val v=>injection h with h;injection h with h1 h2;subst h1 h2;exact⟨k1,fun lo' hl=>by rw[k2 lo' hl];rfl⟩
         | ex e fr1=>cases e with
           | normal=>
             obtain⟨m1,m2⟩:=ih _ _ _ _ _ h;exact⟨k1.trans m1,fun lo' hl=>by rw[k2 lo' hl];exact m2 lo' hl⟩
           | jmp j=>injection h with h;injection h with h1 h2;subst h1 h2;exact⟨k1,fun lo' hl=>by rw[k2 lo' hl];rfl⟩
     | cond c a b=>
       simp only[iV] at h⊢
       cases hc:c.eval E.g0 fr.tm with
       | none=>rw[hc] at h;cases h
       | some v=>
         rw[hc] at h
         cases v<;>first | (cases h;done) | skip
         rename_i x
         cases x<;>exact ih _ _ _ _ _ h
     | block id c=>
       simp only[iV] at h⊢
       cases h1:run E n (.code c rd fr) lo H with
       | none=>rw[h1] at h;cases h
       | some p=>
         obtain⟨o1,H1⟩:=p;obtain⟨k1,k2⟩:=ih _ _ _ _ _ h1;rw[h1] at h
         have hH:H1=H':=by
          cases o1 with
          | val v=>injection h with h;injection h with h1 h2
          | ex e fr1=>cases e with
            | normal=>injection h with h;injection h with h1 h2
            | jmp j=>cases j<;>(injection h with h;injection h with h1 h2)
         subst hH;exact⟨k1,fun lo' hl=>by rw[k2 lo' hl];exact h⟩
     | loop c=>
       simp only[iV] at h⊢
       cases h1:run E n (.code c rd fr) lo H with
       | none=>rw[h1] at h;cases h
       | some p=>
         obtain⟨o1,H1⟩:=p;obtain⟨k1,k2⟩:=ih _ _ _ _ _ h1;rw[h1] at h
         cases o1 with
         | val v=>injection h with h;injection h with h1 h2;subst h1 h2;exact⟨k1,fun lo' hl=>by rw[k2 lo' hl];rfl⟩
         | ex e fr1=>cases e with
           | normal=>
             obtain⟨m1,m2⟩:=ih _ _ _ _ _ h;exact⟨k1.trans m1,fun lo' hl=>by rw[k2 lo' hl];exact m2 lo' hl⟩
           | jmp j=>injection h with h;injection h with h1 h2;subst h1 h2;exact⟨k1,fun lo' hl=>by rw[k2 lo' hl];rfl⟩
     | rfn f ps asg body=>
       simp only[iV] at h⊢
       cases hc:f.eval E.g0 fr.tm with
       | none=>rw[hc] at h;cases h
       | some g=>
         cases he:gE rd H with
         | none=>rw[hc,he] at h;cases h
         | some e=>
           obtain⟨df,marks,H1⟩:=e;rw[hc,he] at h
           have hk:Keep lo H H1:=by
            unfold gE at he
            cases rd with
            | none=>injection he with he;injection he with _ he;injection he with _ he;subst he;exact .new _ _
            | some l=>
              simp only at he;split at he
              ·injection he with he;injection he with _ he;injection he with _ he;subst he;exact .refl _ _
              ·cases he
           simp only[Ql] at h⊢
           cases h1:run E n (.apply g [.yield H1.n]) lo (H1.new (.loop .ready none fr.tm ps asg body df)) with
           | none=>rw[h1] at h;cases h
           | some p=>
             obtain⟨o1,H2⟩:=p;obtain⟨k1,k2⟩:=ih _ _ _ _ _ h1;rw[h1] at h
             cases o1 with
             | ex e fr1=>cases h
             | val v=>
               simp only[vF,zu] at h
               cases hg:H2.get H1.n with
               | none=>rw[hg] at h;cases h
               | some ob=>
                 rw[hg] at h
                 cases ob<;>first | (cases h;done) | skip
                 rename_i st pend tm ps' asg' body' df';simp only at h;split at h
                 ·cases h
                 ·rename_i hb;have hb':∀lo',lo'≤lo→¬(st=.busy∨H1.n < lo'):=fun lo' hl x=>hb (x.elim .inl fun y=>.inr (by omega))
                  have hlo:lo≤H1.n:=by
                   have:¬H1.n < lo:=fun y=>hb (.inr y)
                   omega
                  have hH:H'=H2.put H1.n (.loop .exhausted pend tm ps' asg' body' df'):=by
                   cases pend<;>(injection h with h;injection h with h1 h2;exact h2.symm)
                  refine⟨((hk.trans (.new _ _)).trans k1).trans (hH▸Keep.put _ _ hlo),fun lo' hl=>?_⟩
                  rw[k2 lo' hl];simp only[vF,zu,hg];rw[if_neg (hb' lo' hl)];exact h
   | segs l rd fr=>
     simp only[cT] at h⊢
     cases l with
     | nil=>injection h with h;injection h with h1 h2;subst h1 h2;exact⟨.refl _ _,fun _ _=>rfl⟩
     | cons x l=>
       obtain⟨k,os⟩:=x;simp only[IX] at h⊢;generalize hT:Task.ops _ os rd fr=T at h⊢
       cases h1:run E n T lo H with
       | none=>rw[h1] at h;cases h
       | some p=>
         obtain⟨o1,H1⟩:=p;obtain⟨k1,k2⟩:=ih _ _ _ _ _ h1;rw[h1] at h
         cases o1 with
         | val v=>cases h
         | ex e fr1=>cases e with
           | normal=>
             obtain⟨m1,m2⟩:=ih _ _ _ _ _ h;exact⟨k1.trans m1,fun lo' hl=>by rw[k2 lo' hl];exact m2 lo' hl⟩
           | jmp j=>cases h
   | ops free l rd fr=>
     simp only[cT] at h⊢
     cases l with
     | nil=>injection h with h;injection h with h1 h2;subst h1 h2;exact⟨.refl _ _,fun _ _=>rfl⟩
     | cons x l=>
       simp only[Br] at h⊢
       cases hw:bA fr.tm x.guard with
       | false=>rw[hw] at h;exact ih _ _ _ _ _ h
       | true=>
         rw[hw] at h;simp only[rO] at h⊢
         cases hx:be E.g0 fr.tm x.args with
         | none=>rw[hx] at h;cases h
         | some xs=>
           rw[hx] at h;simp only at h⊢
           cases hf:aR free x xs with
           | none=>rw[hf] at h;cases h
           | some free'=>
             rw[hf] at h;simp only at h⊢
             have low:∀lo',lo'≤lo→cU free x lo' H≤cU free x lo H:=fun lo' hl=>by
              unfold cU;cases free with
              | none=>exact hl
              | some f=>simp only;split<;>omega
             have weak:∀{H1:Heap},Keep (cU free x lo H) H H1→Keep lo H H1:=fun{H1} hk=>by
              unfold cU at hk
              cases free with
              | none=>exact hk
              | some f=>
                simp only at hk;split at hk
                ·exact hk
                ·exact⟨hk.1,fun b _ h2=>hk.2 b h2 h2⟩
             cases hc:x.kd.isCall with
             | true=>
               rw[hc] at h;simp only[vC,yi] at h⊢
               cases xs with
               | nil=>cases h
               | cons f xs=>
                 simp only at h⊢
                 cases h1:run E n (.apply f xs) (cU free x lo H) H with
                 | none=>rw[h1] at h;cases h
                 | some p=>
                   obtain⟨o1,H1⟩:=p;obtain⟨k1,k2⟩:=ih _ _ _ _ _ h1;rw[h1] at h
                   cases o1 with
                   | ex e fr1=>cases h
                   | val v=>
                     obtain⟨m1,m2⟩:=ih _ _ _ _ _ h;exact⟨(weak k1).trans m1,fun lo' hl=>by rw[k2 _ (low lo' hl)];exact m2 lo' hl⟩
             | false=>
               rw[hc] at h;simp only[vC,qI] at h⊢
               cases h1:ev1 x.kd xs (cU free x lo H) H with
               | none=>rw[h1] at h;cases h
               | some p=>
                 obtain⟨v,H1⟩:=p;obtain⟨k1,k2⟩:=Q8 h1;rw[h1] at h;obtain⟨m1,m2⟩:=ih _ _ _ _ _ h;exact⟨(weak k1).trans m1,fun lo' hl=>by rw[k2 _ (low lo' hl)];exact m2 lo' hl⟩
   | apply f args=>
     simp only[cT] at h⊢
     cases f with
     | fn f first cap=>exact ih _ _ _ _ _ h
     | yield l=>
       simp only[Ef,CY] at h⊢
       cases hg:H.get l with
       | none=>rw[hg] at h;cases h
       | some ob=>
         rw[hg] at h
         cases ob<;>first | (cases h;done) | skip
         rename_i st pend tm ps asg body df;simp only at h⊢;split at h
         ·rename_i hl0;have hl':∀lo',lo'≤lo→args.length=ps.length∧lo'≤l:=fun lo' hl=>⟨hl0.1,by omega⟩
          cases h1:run E n (.code asg (some l) ⟨dQ tm ps args,[]⟩) lo H with
          | none=>rw[h1] at h;cases h
          | some p=>
            obtain⟨o1,H1⟩:=p;obtain⟨k1,k2⟩:=ih _ _ _ _ _ h1;rw[h1] at h
            cases o1 with
            | val v=>cases h
            | ex e fr1=>cases e with
              | jmp j=>cases h
              | normal=>
                simp only[oi] at h
                cases hb:ig l H1 with
                | none=>rw[hb] at h;cases h
                | some H2=>
                  rw[hb] at h
                  have kb:Keep lo H1 H2:=by
                   unfold ig at hb;split at hb
                   ·injection hb with hb;subst hb;exact .put _ _ hl0.2
                   ·cases hb
                  simp only at h
                  cases h2:run E n (.code body (some l) fr1) lo H2 with
                  | none=>rw[h2] at h;cases h
                  | some p=>
                    obtain⟨o2,H3⟩:=p;obtain⟨m1,m2⟩:=ih _ _ _ _ _ h2;rw[h2] at h
                    cases o2 with
                    | val v=>cases h
                    | ex e2 fr2=>
                      simp only[uv] at h
                      have ke:Keep lo H3 H':=by
                       unfold xf at h;split at h
                       ·cases e2<;>(injection h with h;injection h with _ h;subst h;exact .put _ _ hl0.2)
                       ·cases h
                      refine⟨((k1.trans kb).trans m1).trans ke,fun lo' hl=>?_⟩
                      rw[if_pos (hl' lo' hl),k2 lo' hl];simp only[oi,hb];rw[m2 lo' hl];exact h
         ·cases h
     | _=>cases h
   | call f args=>
     simp only[cT,wF] at h⊢
     cases hs:E.sums f with
     | some s=>
       rw[hs] at h;simp only at h⊢
       cases hv:s args lo H with
       | none=>rw[hv] at h;cases h
       | some p=>
         obtain⟨v1,H1⟩:=p;rw[hv] at h;injection h with h;injection h with h1 h2;subst h1 h2;obtain⟨a,b⟩:=hE f s hs args lo H v1 H1 hv;exact⟨a,fun lo' hl=>by rw[b lo' hl];rfl⟩
     | none=>
     rw[hs] at h;simp only at h⊢
     cases hf:E.fns f with
     | none=>rw[hf] at h;cases h
     | some fn=>
       rw[hf] at h;simp only[TK] at h⊢
       cases h1:run E n (.code fn.body none ⟨args++bT (fn.ntmps - args.length),[]⟩) lo H with
       | none=>rw[h1] at h;cases h
       | some p=>
         obtain⟨o1,H1⟩:=p;obtain⟨k1,k2⟩:=ih _ _ _ _ _ h1;rw[h1] at h
         have lv:∀fr1,lV fn lo fr1 H1=some (o,H')→Keep lo H H'∧∀lo',lo'≤lo→lV fn lo' fr1 H1=some (o,H'):=by
          intro fr1 h;simp only[lV] at h⊢
          cases hu:bq lo fr1.marks H1 with
          | none=>rw[hu] at h;cases h
          | some H2=>
            rw[hu] at h;obtain⟨u1,u2⟩:=xl hu;simp only at h
            cases hr:au H2 fr1.tm fn.results with
            | none=>rw[hr] at h;cases h
            | some vs=>
              rw[hr] at h;injection h with h;injection h with q1 q2;subst q1 q2;exact⟨k1.trans u1,fun lo' hl=>by rw[u2 lo' hl];simp only[hr,Option.map_some]⟩
         cases o1 with
         | val v=>cases h
         | ex e fr1=>cases e with
           | normal=>
             obtain⟨a,b⟩:=lv fr1 h;exact⟨a,fun lo' hl=>by rw[k2 lo' hl];exact b lo' hl⟩
           | jmp j=>cases j with
             | exit id=>cases h
             | ret=>
               obtain⟨a,b⟩:=lv fr1 h;exact⟨a,fun lo' hl=>by rw[k2 lo' hl];exact b lo' hl⟩
theorem W.pure{E:Env}(hE:Li E){f:FuncId}{args:List IV}{lo:Nat}{H:Heap}{Q:Out→Heap→Prop}(hlo:lo≤H.n)(h:W E H.n (.call f args) H fun o H'=>Keep H.n H H'→Q o H'):W E lo (.call f args) H Q:=by
 obtain⟨n,o,H',h1,h2⟩:=h;obtain⟨a,b⟩:=Qi hE _ _ _ _ _ _ h1;exact⟨n,o,H',b lo hlo,h2 a⟩
section
variable {E:Env}{lo:Nat}{rd:Option Nat}{fr:Fr}{H:Heap}{Q:Out→Heap→Prop}
theorem S4{f:IA}{ps:List Nat}{asg body:IC}{g:IV}{df:Nat}{marks:List Nat}{H1:Heap}(hg:f.eval E.g0 fr.tm=some g)(he:gE rd H=some (df,marks,H1))
  (h:W E lo (.apply g [.yield H1.n]) (H1.new (.loop .ready none fr.tm ps asg body df)) fun o H2=>
   ∃v st pend tm ps' asg' body' df',o=.val v∧H2.get H1.n=some (.loop st pend tm ps' asg' body' df')∧st≠.busy∧lo≤H1.n∧
    Q (.ex (match pend with | none=>.normal | some j=>.jmp j) {fr with marks:=marks++fr.marks}) (H2.put H1.n (.loop .exhausted pend tm ps' asg' body' df'))):
  W E lo (.code (.rfn f ps asg body) rd fr) H Q:=by
 obtain⟨n,o,H2,h1,v,st,pend,tm,ps',asg',body',df',rfl,h2,h3,h4,h5⟩:=h;refine⟨n+1,_,_,?_,h5⟩;rw[run];simp only[hg,he,h1,h2];rw[if_neg (by intro h;rcases h with h | h;exact h3 h;omega)]
 cases pend<;>rfl
theorem NW{l:Nat}{args:List IV}{st:_}{pend:Option Jmp}{tm:List IV}{ps:List Nat}{asg body:IC}{df:Nat}(hl:H.get l=some (.loop st pend tm ps asg body df))(ha:args.length=ps.length)(hlo:lo≤l)
  (h:W E lo (.code asg (some l) ⟨dQ tm ps args,[]⟩) H fun o H1=>∃fr H2,o=.ex .normal fr∧ig l H1=some H2∧
   W E lo (.code body (some l) fr) H2 fun o H3=>∃e fr' r,o=.ex e fr'∧xf l e H3=some r∧Q r.1 r.2):
  W E lo (.apply (.yield l) args) H Q:=by
 obtain⟨n,o,H1,h1,fr,H2,rfl,h2,m,o,H3,h3,e,fr',r,rfl,h4,h5⟩:=h;refine⟨max n m+1,r.1,r.2,?_,h5⟩;rw[run];simp only[hl];rw[if_pos ⟨ha,hlo⟩,m9 E (Nat.le_max_left n m) h1];simp only[h2];rw[m9 E (Nat.le_max_right n m) h3];exact h4
end
end Go.Iso
